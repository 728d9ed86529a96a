import PyProof.Rows.All
import Wide.All
import OpenK.AllK
import Wide.FinOn
import HandS.ForMost
import HandS.ExcInit
import HandS.ExcIs
import HandS.ExcSuper
import HandS.ExcOwn
import HandS.ForExc
import HandS.IsInst
import HandS.Defaults
import HandS.ExcField
import KE.KExcIs
import PyProof.StrOps2
import HandS.CallRecv
import HandS.HeadWalk
import HandS.Strs
import HandS.ReplaceLit
import HandS.Iter
import HandS.HeadHook2
import HandS.ReplaceDef
import HandS.HeadEnd
import HandS.HeadHook4
import PySem.Challenge.RW_readhome_k00_errors
import KE.KStateDown
import Lean
import HandS.More
import HandS.Words
import HandS.WordsExc
import HandS.Head0
import HandS.Head1
import HandS.Head2
import HandS.HeadHook1
section
set_option Elab.async false
set_option linter.all false
set_option maxRecDepth 100000
/-! The evaluator: values as trees, an abstract heap, a small syntax. -/
namespace Ev
open PySem

abbrev Tx := List Nat

inductive D where
  | non | bl (b : Bool) | int (i : Int) | str (s : Tx) | tup (xs : List D) | lst (xs : List D) | ref (i : Nat) | scr (xs : List Int)

abbrev DK := Sum Int Tx
inductive AO where
  | lst (xs : List D) | dic (kvs : List (DK × D)) | ins (c : Nat) (fs : List (Nat × D)) | exo (c : Nat) (fs : List (Nat × D))
abbrev AH := List AO
abbrev Sl := List (Option D)
mutual
def D.same : D → D → Bool
  | .non, .non => true
  | .bl a, .bl b => a == b
  | .int a, .int b => decide (a = b)
  | .str a, .str b => decide (a = b)
  | .tup a, .tup b => D.sames a b
  | .lst a, .lst b => D.sames a b
  | .ref a, .ref b => decide (a = b)
  | .scr a, .scr b => decide (a = b)
  | _, _ => false
def D.sames : List D → List D → Bool
  | [], [] => true
  | x :: xs, y :: ys => D.same x y && D.sames xs ys
  | _, _ => false
end
mutual
theorem D.same_eq : ∀ {a b : D}, D.same a b = true → a = b
  | .non, b, h => by cases b <;> first | rfl | cases h
  | .bl a, b, h => by
    cases b <;> first | (cases h; done) | skip
    have h : (a == _) = true := h
    rw [eq_of_beq h]
  | .int a, b, h => by
    cases b <;> first | (cases h; done) | skip
    have h : decide (a = _) = true := h
    rw [of_decide_eq_true h]
  | .str a, b, h => by
    cases b <;> first | (cases h; done) | skip
    have h : decide (a = _) = true := h
    rw [of_decide_eq_true h]
  | .ref a, b, h => by
    cases b <;> first | (cases h; done) | skip
    have h : decide (a = _) = true := h
    rw [of_decide_eq_true h]
  | .scr a, b, h => by
    cases b <;> first | (cases h; done) | skip
    have h : decide (a = _) = true := h
    rw [of_decide_eq_true h]
  | .tup a, b, h => by
    cases b <;> first | (cases h; done) | skip
    have h : D.sames a _ = true := h
    rw [D.sames_eq h]
  | .lst a, b, h => by
    cases b <;> first | (cases h; done) | skip
    have h : D.sames a _ = true := h
    rw [D.sames_eq h]
theorem D.sames_eq : ∀ {a b : List D}, D.sames a b = true → a = b
  | [], [], _ => rfl
  | [], _ :: _, h => by cases h
  | _ :: _, [], h => by cases h
  | x :: xs, y :: ys, h => by
    have h : (D.same x y && D.sames xs ys) = true := h
    rw [Bool.and_eq_true] at h
    rw [D.same_eq h.1, D.sames_eq h.2]
end
mutual
theorem D.same_self : ∀ a : D, D.same a a = true
  | .non => rfl
  | .bl a => by show (a == a) = true; exact beq_self_eq_true a
  | .int a => decide_eq_true rfl
  | .str a => decide_eq_true rfl
  | .ref a => decide_eq_true rfl
  | .scr a => decide_eq_true rfl
  | .tup a => D.sames_self a
  | .lst a => D.sames_self a
theorem D.sames_self : ∀ a : List D, D.sames a a = true
  | [] => rfl
  | x :: xs => by
    show (D.same x x && D.sames xs xs) = true
    rw [D.same_self x, D.sames_self xs]; rfl
end
instance : DecidableEq D := fun a b => decidable_of_iff (D.same a b = true) ⟨D.same_eq, fun h => by rw [h]; exact D.same_self b⟩
def keysB : List (DK × D) → List (DK × D) → Bool
  | [], [] => true
  | (k, x) :: xs, (q, y) :: ys => decide (k = q) && D.same x y && keysB xs ys
  | _, _ => false
def fldsB : List (Nat × D) → List (Nat × D) → Bool
  | [], [] => true
  | (k, x) :: xs, (q, y) :: ys => decide (k = q) && D.same x y && fldsB xs ys
  | _, _ => false
theorem keysB_iff : ∀ {a b : List (DK × D)}, keysB a b = true ↔ a = b
  | [], [] => ⟨fun _ => rfl, fun _ => rfl⟩
  | [], _ :: _ => ⟨fun h => (by cases h), fun h => (by cases h)⟩
  | _ :: _, [] => ⟨fun h => (by cases h), fun h => (by cases h)⟩
  | (k, x) :: xs, (q, y) :: ys => by
    have e : keysB ((k, x) :: xs) ((q, y) :: ys) = (decide (k = q) && D.same x y && keysB xs ys) := rfl
    rw [e, Bool.and_eq_true, Bool.and_eq_true, keysB_iff]
    constructor
    · intro ⟨⟨h1, h2⟩, h3⟩
      rw [of_decide_eq_true h1, D.same_eq h2, h3]
    · intro h
      injection h with h1 h2
      injection h1 with h3 h4
      exact ⟨⟨decide_eq_true h3, by rw [h4]; exact D.same_self y⟩, h2⟩
theorem fldsB_iff : ∀ {a b : List (Nat × D)}, fldsB a b = true ↔ a = b
  | [], [] => ⟨fun _ => rfl, fun _ => rfl⟩
  | [], _ :: _ => ⟨fun h => (by cases h), fun h => (by cases h)⟩
  | _ :: _, [] => ⟨fun h => (by cases h), fun h => (by cases h)⟩
  | (k, x) :: xs, (q, y) :: ys => by
    have e : fldsB ((k, x) :: xs) ((q, y) :: ys) = (decide (k = q) && D.same x y && fldsB xs ys) := rfl
    rw [e, Bool.and_eq_true, Bool.and_eq_true, fldsB_iff]
    constructor
    · intro ⟨⟨h1, h2⟩, h3⟩
      rw [of_decide_eq_true h1, D.same_eq h2, h3]
    · intro h
      injection h with h1 h2
      injection h1 with h3 h4
      exact ⟨⟨decide_eq_true h3, by rw [h4]; exact D.same_self y⟩, h2⟩
def AO.same : AO → AO → Bool
  | .lst a, .lst b => D.sames a b
  | .dic a, .dic b => keysB a b
  | .ins c a, .ins d b => decide (c = d) && fldsB a b
  | .exo c a, .exo d b => decide (c = d) && fldsB a b
  | _, _ => false
theorem AO.same_iff {a b : AO} : AO.same a b = true ↔ a = b := by
  constructor
  · intro h
    cases a <;> cases b <;> first | (cases h; done) | skip
    · rw [D.sames_eq h]
    · rw [keysB_iff.mp h]
    all_goals
      have h : (decide (_ = _) && fldsB _ _) = true := h
      rw [Bool.and_eq_true] at h
      rw [of_decide_eq_true h.1, fldsB_iff.mp h.2]
  · intro h
    subst h
    cases a with
    | lst a => exact D.sames_self a
    | dic a => exact keysB_iff.mpr rfl
    | ins c a =>
      show (decide (c = c) && fldsB a a) = true
      rw [fldsB_iff.mpr rfl, decide_eq_true rfl]; rfl
    | exo c a =>
      show (decide (c = c) && fldsB a a) = true
      rw [fldsB_iff.mpr rfl, decide_eq_true rfl]; rfl
instance : DecidableEq AO := fun a b => decidable_of_iff (AO.same a b = true) AO.same_iff

mutual
def D.low (n : Nat) : D → Bool
  | .tup xs => D.lows n xs
  | .lst xs => D.lows n xs
  | .ref i => decide (i < n)
  | .non => true
  | .bl _ => true
  | .int _ => true
  | .str _ => true
  | .scr _ => true
def D.lows (n : Nat) : List D → Bool
  | [] => true
  | x :: xs => D.low n x && D.lows n xs
end
def AO.low (n : Nat) : AO → Bool
  | .lst xs => D.lows n xs
  | .dic kvs => D.lows n (kvs.map (·.2))
  | .ins _ fs => D.lows n (fs.map (·.2))
  | .exo _ fs => D.lows n (fs.map (·.2))

mutual
def D.py : D → Option PyData
  | .non => some .none
  | .bl b => some (.bool b)
  | .int i => some (.int i)
  | .str s => some (.str ⟨s.toArray⟩)
  | .tup xs => match D.pys xs with
    | some ps => some (.tuple ps)
    | none => none
  | .lst xs => match D.pys xs with
    | some ps => some (.list ps)
    | none => none
  | .ref _ => none
  | .scr _ => none
def D.pys : List D → Option (List PyData)
  | [] => some []
  | x :: xs => match D.py x, D.pys xs with
    | some p, some ps => some (p :: ps)
    | _, _ => none
end

/-- a list behind its reference -/
def view (H : AH) : D → D
  | .ref i => match H[i]? with
    | some (.lst xs) => .lst xs
    | _ => .ref i
  | d => d

/-- == -/
def eqD (H : AH) (a b : D) : Option Bool :=
  match a, b with
  | .str x, .str y => some (decide (x = y))
  | .int x, .int y => some (decide (x = y))
  | .bl x, .bl y => some (decide (x = y))
  | .non, .non => some true
  | a, b => match (view H a).py, (view H b).py with
    | some p, some q => if SeqAt.shaped p = true ∧ SeqAt.shaped q = true then some (PyData.eqv p q) else none
    | _, _ => none

/-- a flat value's equality, as == has it -/
def flatD : D → Bool
  | .non => true
  | .bl _ => true
  | .int _ => true
  | .str _ => true
  | _ => false
def feq : D → D → Bool
  | .non, .non => true
  | .bl x, .bl y => x == y
  | .bl x, .int y => (if x then 1 else 0) == y
  | .int x, .bl y => x == (if y then 1 else 0)
  | .int x, .int y => x == y
  | .str x, .str y => decide (x = y)
  | _, _ => false

def keyD : D → Option DK
  | .int i => some (.inl i)
  | .str s => some (.inr s)
  | _ => none
def lookK (k : DK) : List (DK × D) → Option D
  | [] => none
  | (q, d) :: r => if q = k then some d else lookK k r
def putK (k : DK) (d : D) (kvs : List (DK × D)) : List (DK × D) :=
  if (kvs.any fun kv => decide (kv.1 = k)) = true then kvs.map (fun kv => if kv.1 = k then (kv.1, d) else kv) else kvs ++ [(k, d)]

def mergeD (kvs : List (DK × D)) : List (DK × D) := kvs.foldl (fun acc kv => putK kv.1 kv.2 acc) []
/-- in -/
def inD (H : AH) (x c : D) : Option Bool :=
  match view H c with
  | .lst xs => if flatD x && xs.all flatD then some (xs.any fun y => feq y x) else none
  | .tup xs => if flatD x && xs.all flatD then some (xs.any fun y => feq y x) else none
  | .str s => match x with
    | .str [c] => some (decide (c ∈ s))
    | _ => none
  | .ref i => match H[i]?, keyD x with
    | some (.dic kvs), some k => some (lookK k kvs).isSome
    | _, _ => none
  | _ => none

inductive Cp where
  | eq | ne | lt | le | gt | ge | inn | nin
def cmpD (H : AH) : Cp → D → D → Option Bool
  | .eq, a, b => eqD H a b
  | .ne, a, b => (eqD H a b).map (!·)
  | .lt, .int i, .int j => some (decide (i < j))
  | .le, .int i, .int j => some (decide (i ≤ j))
  | .gt, .int i, .int j => some (decide (j < i))
  | .ge, .int i, .int j => some (decide (j ≤ i))
  | .lt, .str i, .str j => some (decide (i < j))
  | .le, .str i, .str j => some (!decide (j < i))
  | .inn, a, b => inD H a b
  | .nin, a, b => (inD H a b).map (!·)
  | _, _, _ => none

def most : Nat := sizeLine
def mulOk (i j : Int) : Prop := i.natAbs.log2 + j.natAbs.log2 < 100000000
instance (i j : Int) : Decidable (mulOk i j) := by unfold mulOk; infer_instance

inductive Op where
  | add | sub | mul | fdiv | mod | pow
def opD : Op → D → D → Option D
  | .add, .int i, .int j => some (.int (i + j))
  | .add, .str x, .str y => if x.length + y.length ≤ sizeLine then some (.str (x ++ y)) else none
  | .add, .tup x, .tup y => if x ≠ [] ∧ x.length + y.length ≤ sizeLine then some (.tup (x ++ y)) else none
  | .sub, .int i, .int j => some (.int (i - j))
  | .mul, .int i, .int j => if mulOk i j then some (.int (i * j)) else none
  | .mul, .str x, .int j => if 2 ≤ j ∧ j ≤ 100000 ∧ 1 ≤ x.length ∧ x.length ≤ 100 then some (.str (List.replicate j.toNat x).flatten) else none
  | .fdiv, .int i, .int j => if 0 < j ∧ j < 1073741824 then some (.int (i / j)) else none
  | .mod, .int i, .int j => if 0 < j then some (.int (i % j)) else none
  | .pow, .int i, .int j => if 0 ≤ j ∧ j ≤ 1000000 ∧ i.natAbs < 2 ^ 64 then some (.int (i ^ j.toNat)) else none
  | _, _, _ => none

/-- a place, from the end if negative -/
def place {α : Type} (xs : List α) (i : Int) : Option α :=
  if 0 ≤ i then xs[i.toNat]? else if 0 ≤ i + xs.length then xs[(i + xs.length).toNat]? else none
def cutI (n d : Nat) : Option Int → Nat
  | none => d
  | some v => if v < 0 then (v + n).toNat else min v.toNat n
def cutL {α : Type} (xs : List α) (lo hi : Option Int) : List α := (xs.drop (cutI xs.length 0 lo)).take (cutI xs.length xs.length hi - cutI xs.length 0 lo)

def idxD (H : AH) (a i : D) : Option D :=
  match view H a, i with
  | .lst xs, .int j => place xs j
  | .tup xs, .int j => place xs j
  | .str s, .int j => if s.length ≤ sizeLine then (place s j).map fun c => .str [c] else none
  | .ref r, k => match H[r]?, keyD k with
    | some (.dic kvs), some k => lookK k kvs
    | _, _ => none
  | _, _ => none

/-- a new list: mutable, or a tree -/
def mkL (m : Bool) (xs : List D) (H : AH) : D × AH := if m then (.ref H.length, H ++ [.lst xs]) else (.lst xs, H)

def slcD (m : Bool) (H : AH) (a : D) (lo hi : Option Int) : Option (D × AH) :=
  match view H a with
  | .lst xs => some (mkL m (cutL xs lo hi) H)
  | .tup xs => if cutI xs.length 0 lo = 0 ∧ cutI xs.length xs.length hi = xs.length then none else some (.tup (cutL xs lo hi), H)
  | .str s => if s.length ≤ sizeLine then some (.str (cutL s lo hi), H) else none
  | .scr xs => some (mkL m ((cutL xs lo hi).map .int) H)
  | _ => none

def getA (f : Nat) : List (Nat × D) → Option D
  | [] => none
  | (g, d) :: r => if g = f then some d else getA f r
def putA (f : Nat) (d : D) : List (Nat × D) → List (Nat × D)
  | [] => [(f, d)]
  | (g, e) :: r => if g = f then (g, d) :: r else (g, e) :: putA f d r

inductive Ty where
  | int | str | bool | tuple | list
def isTy (H : AH) : Ty → D → Bool
  | .int, .int _ => true
  | .int, .bl _ => true
  | .str, .str _ => true
  | .bool, .bl _ => true
  | .tuple, .tup _ => true
  | .list, .lst _ => true
  | .list, .scr _ => true
  | .list, .ref i => match H[i]? with
    | some (.lst _) => true
    | _ => false
  | _, _ => false
/-- what isinstance is asked of here -/
def plainD (H : AH) : D → Bool
  | .ref i => match H[i]? with
    | some (.ins _ _) => false
    | some (.exo _ _) => false
    | some _ => true
    | none => false
  | _ => true

/-- the digits of a whole number -/
def digits (i : Int) : Tx := (Str.ofString (toString i)).cps.toList
/-- the items of a list | tuple -/
def seqD (H : AH) (d : D) : Option (List D) :=
  match view H d with
  | .lst xs => some xs
  | .tup xs => some xs
  | _ => none
def bools : List D → Option (List Bool)
  | [] => some []
  | .bl b :: r => (bools r).map (b :: ·)
  | _ :: _ => none
def texts : List D → Option (List Tx)
  | [] => some []
  | .str b :: r => (texts r).map (b :: ·)
  | _ :: _ => none
def dedup : List Tx → List Tx
  | [] => []
  | x :: xs => if x ∈ xs then dedup xs else x :: dedup xs
/-- the number that a text of digits tells -/
def digVal (s : Tx) : Nat := s.foldl (fun a c => a * 10 + (c - 48)) 0
def isDigits (s : Tx) : Bool := s ≠ [] && s.length ≤ 640 && s.all fun c => decide (48 ≤ c) && decide (c ≤ 57)

inductive Bi where
  | len | isi (ts : List Ty) | toInt | toStr | ord | all | any | tuple | list (m : Bool) | lenSet
def evBi (H : AH) : Bi → List D → Option (D × AH)
  | .len, [d] => match view H d with
    | .lst xs => some (.int xs.length, H)
    | .tup xs => some (.int xs.length, H)
    | .str s => if s.length ≤ sizeLine then some (.int s.length, H) else none
    | _ => none
  | .isi ts, [d] => if plainD H d then some (.bl (ts.any fun t => isTy H t d), H) else none
  | .toInt, [.int i] => some (.int i, H)
  | .toInt, [.str s] => if isDigits s then some (.int (digVal s), H) else none
  | .toStr, [.int i] => if i.natAbs.log2 < 1920 then some (.str (digits i), H) else none
  | .ord, [.str [c]] => some (.int c, H)
  | .all, [d] => match view H d with
    | .lst xs => match bools xs with
      | some bs => some (.bl (bs.all id), H)
      | none => none
    | _ => none
  | .any, [d] => match view H d with
    | .lst xs => match bools xs with
      | some bs => some (.bl (bs.any id), H)
      | none => none
    | _ => none
  | .tuple, [d] => (seqD H d).map fun xs => (.tup xs, H)
  | .list m, [d] => (seqD H d).map fun xs => mkL m xs H
  | .lenSet, [d] => match view H d with
    | .lst xs => match texts xs with
      | some ts => if ts.length ≤ 1000 then some (.int (dedup ts).length, H) else none
      | none => none
    | _ => none
  | _, _ => none

/-- one sign doubled -/
def dblT (c : Nat) : Tx → Tx
  | [] => []
  | k :: r => if k = c then k :: k :: dblT c r else k :: dblT c r
def joinT (sep : Tx) : List Tx → Tx
  | [] => []
  | [x] => x
  | x :: y :: r => x ++ sep ++ joinT sep (y :: r)

inductive Bm where
  | append | pop | join | dbl (c : Nat)
def evBm (H : AH) : Bm → D → List D → Option (D × AH)
  | .append, .ref i, [d] => match H[i]? with
    | some (.lst xs) => if xs.length < sizeLine then some (.non, H.set i (.lst (xs ++ [d]))) else none
    | _ => none
  | .pop, .ref i, [] => match H[i]? with
    | some (.lst xs) => match xs.getLast? with
      | some d => some (d, H.set i (.lst xs.dropLast))
      | none => none
    | _ => none
  | .join, .str s, [d] => match seqD H d with
    | some xs => match texts xs with
      | some ts => if (ts.map List.length).sum + ts.length * s.length ≤ 16777216 then some (.str (joinT s ts), H) else none
      | none => none
    | none => none
  | .dbl c, .str s, [] => if s.length + (s.length + 1) * 2 ≤ 16777216 then some (.str (dblT c s), H) else none
  | _, _, _ => none

/-- the receiver is of the method's type -/
def bmOk (H : AH) : Bm → D → Bool
  | .append, .ref i => match H[i]? with
    | some (.lst _) => true
    | _ => false
  | .pop, .ref i => match H[i]? with
    | some (.lst _) => true
    | _ => false
  | .join, .str _ => true
  | .dbl _, .str _ => true
  | _, _ => false

/-- targets: names, tuples of them -/
inductive TN where
  | nm (i : Nat) | nil | cons (t u : TN) | tp (t : TN)
mutual
def setT : TN → D → Sl → Option Sl
  | .nm i, d, σ => some (σ.set i (some d))
  | .tp t, .tup xs, σ => setTs t xs σ
  | .tp t, .lst xs, σ => setTs t xs σ
  | _, _, _ => none
def setTs : TN → List D → Sl → Option Sl
  | .nil, [], σ => some σ
  | .cons t u, x :: xs, σ => match setT t x σ with
    | some σ' => setTs u xs σ'
    | none => none
  | _, _, _ => none
end

/-- what is unpacked: a list behind its reference -/
def seeT (H : AH) : TN → D → D
  | .nm _, d => d
  | _, d => view H d
def TN.inn : TN → List Nat → Bool
  | .nm i, vs => decide (i ∈ vs)
  | .nil, _ => true
  | .cons t u, vs => t.inn vs && u.inn vs
  | .tp t, vs => t.inn vs
/-- what is walked: a value, a range -/
inductive SK where
  | val | rng
inductive E where
  | var (i : Nat) | con (d : D) | glo (i : Nat)
  | nil | cons (e es : E)
  | tup (es : E) | lst (m : Bool) (es : E) | dnew | dlit (kvs : List (DK × D))
  | bin (o : Op) (a b : E) | cat (m : Bool) (a b : E) | neg (a : E)
  | cmp (o : Cp) (a b : E) | isn (n : Bool) (a : E) | chain (o p : Cp) (a b c : E)
  | and (es : E) | or (es : E) | not (a : E) | ite (c a b : E)
  | idx (a i : E) | slc (m : Bool) (a lo hi : E)
  | att (a : E) (f : Nat)
  | call (f : Nat) (es : E) | mth (c f : Nat) (o es : E) | mak (c : Nat) (es : E)
  | bi (b : Bi) (es : E) | bm (b : Bm) (o es : E)
  | comp (m : Bool) (own : List Nat) (t : TN) (k : SK) (src test elt : E)
  | mkx (c : Nat) (fs ks : List Nat) (es : E) | isx (i : Nat) (ts : List Nat) (a : E)
/-- what an except clause hands back: a field of the error, a text, a tuple of these -/
inductive HI where
  | fld (f : Nat) | txt (s : Tx)
inductive HE where
  | one (x : HI) | tup (xs : List HI) | isx (i : Nat) (ts : List Nat)
def evHI (fs : List (Nat × D)) : HI → Option D
  | .fld f => getA f fs
  | .txt s => some (.str s)
def evHIs (fs : List (Nat × D)) : List HI → Option (List D)
  | [] => some []
  | x :: xs => match evHI fs x, evHIs fs xs with
    | some d, some ds => some (d :: ds)
    | _, _ => none
def evHE (c : Nat) (fs : List (Nat × D)) : HE → Option D
  | .one x => evHI fs x
  | .tup xs => (evHIs fs xs).map .tup
  | .isx _ ts => some (.bl (decide (c ∈ ts)))
/-- the clause for an error of the class c, of n classes: none, no clause; the class n is the base of all -/
def clause (n c : Nat) : List (Nat × Nat × HE) → Option (Option (Nat × HE))
  | [] => if c < n then some none else none
  | (d, i, h) :: r => if c < n ∧ (d = c ∨ d = n) then some (some (i, h)) else clause n c r
inductive S where
  | raise (c : Nat) (fs : List Nat) (es : E) | tryr (b : S) (n : Nat) (hs : List (Nat × Nat × HE))
  | pass | seq (a b : S) | ex (e : E) | asg (t : TN) (e : E) | seti (o i e : E) | seta (o : E) (f : Nat) (e : E)
  | ret (e : E) | ret0 | ite (c : E) (a b : S) | whl (c : E) (b : S) | fr (t : TN) (k : SK) (src : E) (b : S) | brk | cnt | bad

inductive Fid where
  | fn (i : Nat) | mk (c : Nat) | xc (i : Nat)
/-- an outcome: a value, an error of the class c with its fields, none (the evaluator is stuck) -/
inductive Rs (α : Type) where
  | ok (a : α) (A : AH) | ex (c : Nat) (fs : List (Nat × D)) (A : AH) | no
def bindR {α β : Type} : Rs α → (α → AH → Rs β) → Rs β
  | .ok a A, f => f a A
  | .ex c fs A, _ => .ex c fs A
  | .no, _ => .no
def liftR {α : Type} : Option α → AH → Rs α
  | some a, A => .ok a A
  | none, _ => .no
def liftH {α : Type} : Option (α × AH) → Rs α
  | some (a, A) => .ok a A
  | none => .no
abbrev CF := Fid → List D → AH → Rs D

def truD (H : AH) (d : D) : Option Bool :=
  match view H d with
  | .non => some false
  | .bl b => some b
  | .int i => some (i != 0)
  | .str s => if s.length ≤ sizeLine then some (!s.isEmpty) else none
  | .lst xs => some (!xs.isEmpty)
  | .tup xs => some (!xs.isEmpty)
  | .ref i => match H[i]? with
    | some (.dic kvs) => some (!kvs.isEmpty)
    | _ => none
  | .scr _ => none
def notD : D → Option Bool
  | .bl b => some (!b)
  | _ => none
def boolD : D → Option Bool
  | .bl b => some b
  | _ => none
def intD : D → Option Int
  | .int i => some i
  | _ => none
def isNon : D → Bool
  | .non => true
  | _ => false
def attD (H : AH) (f : Nat) : D → Option D
  | .ref i => match H[i]? with
    | some (.ins _ fs) => getA f fs
    | some (.exo _ fs) => getA f fs
    | _ => none
  | _ => none
/-- the class of an error that is held -/
def xcD (H : AH) : D → Option Nat
  | .ref i => match H[i]? with
    | some (.exo c _) => some c
    | _ => none
  | _ => none
/-- the parameters' values, from those by name -/
def byName (fs : List Nat) (kvs : List (Nat × D)) : Option (List (Nat × D)) := match fs with
  | [] => some []
  | f :: r => match getA f kvs, byName r kvs with
    | some d, some ds => some ((f, d) :: ds)
    | _, _ => none
def clsD (H : AH) : D → Option Nat
  | .ref i => match H[i]? with
    | some (.ins c _) => some c
    | _ => none
  | _ => none
def catD (m : Bool) (H : AH) (x y : D) : Option (D × AH) :=
  match view H x, view H y with
  | .lst xs, .lst ys => if xs.length + ys.length ≤ sizeLine then some (mkL m (xs ++ ys) H) else none
  | _, _ => none

/-- the items that a walk takes, and the mutable list that must stand meanwhile -/
def items (H : AH) : SK → List D → Option (List D × Option Nat)
  | .val, [.lst xs] => some (xs, none)
  | .val, [.tup xs] => some (xs, none)
  | .val, [.str s] => some (s.map fun c => .str [c], none)
  | .val, [.ref i] => match H[i]? with
    | some (.lst xs) => some (xs, some i)
    | _ => none
  | .rng, [.int j] => if -(2 ^ 62) ≤ j ∧ j < 2 ^ 62 then some ((List.range j.toNat).map fun i => .int (i : Nat), none) else none
  | .rng, [.int i, .int j] => if -(2 ^ 62) ≤ i ∧ i < 2 ^ 62 ∧ -(2 ^ 62) ≤ j ∧ j < 2 ^ 62 then some ((List.range (j - i).toNat).map fun q => .int (i + (q : Nat)), none) else none
  | _, _ => none
/-- the walked list stands -/
def Still (xs : List D) (g : Option Nat) (H : AH) : Prop := ∀ i, g = some i → H[i]? = some (.lst xs)
instance (xs : List D) (g : Option Nat) (H : AH) : Decidable (Still xs g H) := match g with
  | none => .isTrue fun _ h => (by cases h)
  | some i => if h : H[i]? = some (.lst xs) then .isTrue (fun j e => (by cases e; exact h)) else .isFalse fun q => h (q i rfl)
def wipeD (σ : Sl) : List Nat → Sl
  | [] => σ
  | v :: vs => (wipeD σ vs).set v none

def compGo (all : List D) (g : Option Nat) (t : TN) (tst : Sl → AH → Rs Bool) (f : Sl → AH → Rs D) (σ : Sl) : List D → List D → AH → Rs (List D)
  | [], acc, H => if Still all g H then .ok acc H else .no
  | x :: xs, acc, H => if Still all g H then
      match setT t x σ with
      | some σ' => match tst σ' H with
        | .ok true H1 => match f σ' H1 with
          | .ok y H2 => if acc.length < sizeLine then compGo all g t tst f σ xs (acc ++ [y]) H2 else .no
          | _ => .no
        | .ok false H1 => compGo all g t tst f σ xs acc H1
        | _ => .no
      | none => .no
    else .no
def noTest : E → Bool
  | .nil => true
  | _ => false
def isNil : E → Bool
  | .nil => true
  | _ => false

section
variable (F : CF) (G : List D)
mutual
def evE : E → Sl → AH → Rs D
  | .var i, σ, H => match σ[i]? with
    | some (some d) => .ok d H
    | _ => .no
  | .con d, _, H => .ok d H
  | .glo i, _, H => liftR (G[i]?) H
  | .nil, _, _ => .no
  | .cons _ _, _, _ => .no
  | .tup es, σ, H => bindR (evEs es σ H) fun ds H1 => .ok (.tup ds) H1
  | .lst m es, σ, H => bindR (evEs es σ H) fun ds H1 => liftH (some (mkL m ds H1))
  | .dnew, _, H => .ok (.ref H.length) (H ++ [.dic []])
  | .dlit kvs, _, H => .ok (.ref H.length) (H ++ [.dic (mergeD kvs)])
  | .bin o a b, σ, H => bindR (evE a σ H) fun x H1 => bindR (evE b σ H1) fun y H2 => liftR (opD o x y) H2
  | .cat m a b, σ, H => bindR (evE a σ H) fun x H1 => bindR (evE b σ H1) fun y H2 => liftH (catD m H2 x y)
  | .neg a, σ, H => bindR (evE a σ H) fun x H1 => liftR ((intD x).map fun i => .int (-i)) H1
  | .cmp o a b, σ, H => bindR (evE a σ H) fun x H1 => bindR (evE b σ H1) fun y H2 => liftR ((cmpD H2 o x y).map .bl) H2
  | .isn n a, σ, H => bindR (evE a σ H) fun x H1 => .ok (.bl (n != isNon x)) H1
  | .chain o p a b c, σ, H => bindR (evE a σ H) fun x H1 => bindR (evE b σ H1) fun y H2 => bindR (liftR (cmpD H2 o x y) H2) fun z H2 =>
    if z then bindR (evE c σ H2) fun w H3 => liftR ((cmpD H3 p y w).map .bl) H3 else .ok (.bl false) H2
  | .and es, σ, H => evAnd es σ H
  | .or es, σ, H => evOr es σ H
  | .not a, σ, H => bindR (evE a σ H) fun x H1 => liftR ((notD x).map .bl) H1
  | .ite c a b, σ, H => bindR (evT c σ H) fun z H1 => if z then evE a σ H1 else evE b σ H1
  | .idx a i, σ, H => bindR (evE a σ H) fun x H1 => bindR (evE i σ H1) fun y H2 => liftR (idxD H2 x y) H2
  | .slc m a lo hi, σ, H => bindR (evE a σ H) fun x H1 => bindR (evP lo σ H1) fun l H2 => bindR (evP hi σ H2) fun h H3 => liftH (slcD m H3 x l h)
  | .att a f, σ, H => bindR (evE a σ H) fun x H1 => liftR (attD H1 f x) H1
  | .call f es, σ, H => bindR (evEs es σ H) fun ds H1 => F (.fn f) ds H1
  | .mth c f o es, σ, H => bindR (evE o σ H) fun x H1 => if clsD H1 x = some c then bindR (evEs es σ H1) fun ds H2 => F (.fn f) (x :: ds) H2 else .no
  | .mak c es, σ, H => bindR (evEs es σ H) fun ds H1 => F (.mk c) ds H1
  | .bi b es, σ, H => bindR (evEs es σ H) fun ds H1 => liftH (evBi H1 b ds)
  | .bm b o es, σ, H => bindR (evE o σ H) fun x H1 => if bmOk H1 b x then bindR (evEs es σ H1) fun ds H2 => liftH (evBm H2 b x ds) else .no
  | .comp m own t k src test elt, σ, H => bindR (evEs src σ H) fun ds H1 => bindR (liftR (items H1 k ds) H1) fun (xs, g) H1 =>
    bindR (compGo xs g t (fun σ H => if noTest test then .ok true H else evT test σ H) (fun σ H => evE elt σ H) (wipeD σ own) xs [] H1) fun ys H2 => liftH (some (mkL m ys H2))
  | .mkx c fs ks es, σ, H => bindR (F (.xc 1) [] H) fun _ _ => bindR (evEs es σ H) fun ds H1 => if ds.length = ks.length then liftH ((byName fs (ks.zip ds)).map fun r => (.ref H1.length, H1 ++ [.exo c r.reverse])) else .no
  | .isx _ ts a, σ, H => bindR (evE a σ H) fun x H1 => liftR ((xcD H1 x).map fun c => .bl (decide (c ∈ ts))) H1
def evEs : E → Sl → AH → Rs (List D)
  | .nil, _, H => .ok [] H
  | .cons e es, σ, H => bindR (evE e σ H) fun x H1 => bindR (evEs es σ H1) fun xs H2 => .ok (x :: xs) H2
  | _, _, _ => .no
/-- a part of a slice -/
def evP : E → Sl → AH → Rs (Option Int)
  | .nil, _, H => .ok none H
  | .cons e _, σ, H => bindR (evE e σ H) fun x H1 => liftR ((intD x).map some) H1
  | _, _, _ => .no
def evT : E → Sl → AH → Rs Bool
  | .and es, σ, H => evAndT es σ H
  | .or es, σ, H => evOrT es σ H
  | .not a, σ, H => bindR (evT a σ H) fun z H1 => .ok (!z) H1
  | .cmp o a b, σ, H => bindR (evE a σ H) fun x H1 => bindR (evE b σ H1) fun y H2 => liftR (cmpD H2 o x y) H2
  | .isn n a, σ, H => bindR (evE a σ H) fun x H1 => .ok (n != isNon x) H1
  | .chain o p a b c, σ, H => bindR (evE a σ H) fun x H1 => bindR (evE b σ H1) fun y H2 => bindR (liftR (cmpD H2 o x y) H2) fun z H2 =>
    if z then bindR (evE c σ H2) fun w H3 => liftR (cmpD H3 p y w) H3 else .ok false H2
  | .var i, σ, H => match σ[i]? with
    | some (some d) => liftR (truD H d) H
    | _ => .no
  | .call f es, σ, H => bindR (evEs es σ H) fun ds H1 => bindR (F (.fn f) ds H1) fun d H2 => liftR (truD H2 d) H2
  | .mth c f o es, σ, H => bindR (evE o σ H) fun x H1 => if clsD H1 x = some c then bindR (evEs es σ H1) fun ds H2 => bindR (F (.fn f) (x :: ds) H2) fun d H2 => liftR (truD H2 d) H2 else .no
  | .bi b es, σ, H => bindR (evEs es σ H) fun ds H1 => bindR (liftH (evBi H1 b ds)) fun d H2 => liftR (truD H2 d) H2
  | .idx a i, σ, H => bindR (evE a σ H) fun x H1 => bindR (evE i σ H1) fun y H2 => bindR (liftR (idxD H2 x y) H2) fun d H2 => liftR (truD H2 d) H2
  | .isx _ ts a, σ, H => bindR (evE a σ H) fun x H1 => liftR ((xcD H1 x).map fun c => decide (c ∈ ts)) H1
  | .nil, _, _ => .no
  | .cons _ _, _, _ => .no
  | _, _, _ => .no
def evAnd : E → Sl → AH → Rs D
  | .cons e es, σ, H => if isNil es then evE e σ H else bindR (evE e σ H) fun x H1 => bindR (liftR (boolD x) H1) fun z H1 => if z then evAnd es σ H1 else .ok (.bl false) H1
  | _, _, _ => .no
def evOr : E → Sl → AH → Rs D
  | .cons e es, σ, H => if isNil es then evE e σ H else bindR (evE e σ H) fun x H1 => bindR (liftR (boolD x) H1) fun z H1 => if z then .ok (.bl true) H1 else evOr es σ H1
  | _, _, _ => .no
def evAndT : E → Sl → AH → Rs Bool
  | .cons e es, σ, H => if isNil es then evT e σ H else bindR (evT e σ H) fun x H1 => if x then evAndT es σ H1 else .ok false H1
  | _, _, _ => .no
def evOrT : E → Sl → AH → Rs Bool
  | .cons e es, σ, H => if isNil es then evT e σ H else bindR (evT e σ H) fun x H1 => if x then .ok true H1 else evOrT es σ H1
  | _, _, _ => .no
end

inductive Fl where
  | nx | rt (d : D) | bk | ct
inductive SR where
  | ok (f : Fl) (σ : Sl) (A : AH) | ex (c : Nat) (fs : List (Nat × D)) (σ : Sl) (A : AH) | no
def bindS {α : Type} (σ : Sl) : Rs α → (α → AH → SR) → SR
  | .ok a A, f => f a A
  | .ex c fs A, _ => .ex c fs σ A
  | .no, _ => .no
def lap : Nat := 10000000
/-- a while's turns -/
def whlGo (c : Sl → AH → Rs Bool) (b : Sl → AH → SR) : Nat → Sl → AH → SR
  | 0, _, _ => .no
  | n + 1, σ, H => bindS σ (c σ H) fun z H1 => if z then
      match b σ H1 with
      | .ok .nx σ2 H2 => whlGo c b n σ2 H2
      | .ok .ct σ2 H2 => whlGo c b n σ2 H2
      | .ok .bk σ2 H2 => .ok .nx σ2 H2
      | .ok (.rt d) σ2 H2 => .ok (.rt d) σ2 H2
      | .ex c fs σ2 H2 => .ex c fs σ2 H2
      | .no => .no
    else .ok .nx σ H1
/-- a for's turns -/
def forGo (all : List D) (g : Option Nat) (t : TN) (b : Sl → AH → SR) : List D → Sl → AH → SR
  | [], σ, H => if Still all g H then .ok .nx σ H else .no
  | x :: xs, σ, H => if Still all g H then
      match setT t x σ with
      | some σ1 => match b σ1 H with
        | .ok .nx σ2 H2 => forGo all g t b xs σ2 H2
        | .ok .ct σ2 H2 => forGo all g t b xs σ2 H2
        | .ok .bk σ2 H2 => .ok .nx σ2 H2
        | .ok (.rt d) σ2 H2 => .ok (.rt d) σ2 H2
        | .ex c fs σ2 H2 => .ex c fs σ2 H2
        | .no => .no
      | none => .no
    else .no
def setI (H : AH) (o i d : D) : Option AH :=
  match o with
  | .ref r => match H[r]? with
    | some (.lst xs) => match i with
      | .int j => if 0 ≤ j ∧ j < xs.length then some (H.set r (.lst (xs.set j.toNat d))) else none
      | _ => none
    | some (.dic kvs) => match keyD i with
      | some k => if kvs.length < sizeLine then some (H.set r (.dic (putK k d kvs))) else none
      | none => none
    | _ => none
  | _ => none
def setAt (H : AH) (f : Nat) (o d : D) : Option AH :=
  match o with
  | .ref r => match H[r]? with
    | some (.ins c fs) => if fs.length < 1000 then some (H.set r (.ins c (putA f d fs))) else none
    | _ => none
  | _ => none
def evS : S → Sl → AH → SR
  | .raise c fs es, σ, H => bindS σ (F (.xc 1) [] H) fun _ _ => bindS σ (evEs F G es σ H) fun ds H1 => if ds.length = fs.length then .ex c (fs.zip ds).reverse σ H1 else .no
  | .tryr b n hs, σ, H => match evS b σ H with
    | .ex c fs σ1 H1 => match clause n c hs with
      | some (some (i, h)) => match evHE c fs h with
        | some d => if i < σ1.length then .ok (.rt d) σ1 H1 else .no
        | none => .no
      | some none => .ex c fs σ1 H1
      | none => .no
    | r => r
  | .pass, σ, H => .ok .nx σ H
  | .seq a b, σ, H => match evS a σ H with
    | .ok .nx σ1 H1 => evS b σ1 H1
    | r => r
  | .ex e, σ, H => bindS σ (evE F G e σ H) fun _ H1 => .ok .nx σ H1
  | .asg t e, σ, H => bindS σ (evE F G e σ H) fun d H1 => match setT t (seeT H1 t d) σ with
    | some σ1 => .ok .nx σ1 H1
    | none => .no
  | .seti o i e, σ, H => bindS σ (evE F G e σ H) fun d H1 => bindS σ (evE F G o σ H1) fun x H2 => bindS σ (evE F G i σ H2) fun y H3 => match setI H3 x y d with
    | some H4 => .ok .nx σ H4
    | none => .no
  | .seta o f e, σ, H => bindS σ (evE F G e σ H) fun d H1 => bindS σ (evE F G o σ H1) fun x H2 => match setAt H2 f x d with
    | some H3 => .ok .nx σ H3
    | none => .no
  | .ret e, σ, H => bindS σ (evE F G e σ H) fun d H1 => .ok (.rt d) σ H1
  | .ret0, σ, H => .ok (.rt .non) σ H
  | .ite c a b, σ, H => bindS σ (evT F G c σ H) fun z H1 => if z then evS a σ H1 else evS b σ H1
  | .whl c b, σ, H => whlGo (fun σ H => evT F G c σ H) (fun σ H => evS b σ H) lap σ H
  | .fr t k src b, σ, H => bindS σ (evEs F G src σ H) fun ds H1 => match items H1 k ds with
    | some (xs, g) => forGo xs g t (fun σ H => evS b σ H) xs σ H1
    | none => .no
  | .brk, σ, H => .ok .bk σ H
  | .cnt, σ, H => .ok .ct σ H
  | .bad, _, _ => .no
end

structure FnI where
  np : Nat
  ns : Nat
  fz : Bool
  body : S
structure Pg where
  fns : List FnI
  mks : List Nat
  glob : List D

/-- the heap ahead of the call may be taken back to its length -/
def Back (H H' : AH) : Prop := H.length ≤ H'.length ∧ ∀ i, i < H.length → H'[i]? = H[i]? ∨ ∃ o, H'[i]? = some o ∧ o.low H.length = true
instance (o : Option AO) (n : Nat) : Decidable (∃ u, o = some u ∧ u.low n = true) := match o with
  | none => .isFalse fun ⟨_, h, _⟩ => (by cases h)
  | some u => if h : u.low n = true then .isTrue ⟨u, rfl, h⟩ else .isFalse fun ⟨_, e, q⟩ => h (by cases e; exact q)
instance (H H' : AH) : Decidable (Back H H') := by unfold Back; infer_instance
/-- a new list comes back -/
def newL (n : Nat) (H' : AH) : D → Option (List D)
  | .ref j => if n ≤ j then match H'[j]? with
      | some (.lst xs) => if D.lows n xs then some xs else none
      | _ => none
    else none
  | _ => none
def retract (fz : Bool) (H H' : AH) (d : D) : Rs D :=
  if Back H H' then
    match newL H.length H' d with
    | some xs => if fz then .ok (.lst xs) (H'.take H.length) else .ok (.ref H.length) (H'.take H.length ++ [.lst xs])
    | none => if d.low H.length = true then .ok d (H'.take H.length) else .ok d H'
  else .ok d H'
def start (fi : FnI) (args : List D) : Sl := args.map some ++ List.replicate (fi.ns - fi.np) none
def callF (P : Pg) : Nat → Fid → List D → AH → Rs D
  | 0, _, _, _ => .no
  | k + 1, .fn i, args, H => match P.fns[i]? with
    | some fi => if args.length = fi.np then
        match evS (callF P k) P.glob fi.body (start fi args) H with
        | .ok (.rt d) _ H' => retract fi.fz H H' d
        | .ok .nx _ H' => retract fi.fz H H' .non
        | .ex c fs _ H' => .ex c fs H'
        | _ => .no
      else .no
    | none => .no
  | k + 1, .mk c, args, H => match P.mks[c]? with
    | some f => match callF P k (.fn f) (.ref H.length :: args) (H ++ [.ins c []]) with
      | .ok .non H' => .ok (.ref H.length) H'
      | .ex c fs H' => .ex c fs H'
      | _ => .no
    | none => .no
  | _ + 1, .xc 0, _, H => .ok .non H
  | k + 1, .xc (i + 1), args, H => callF P k (.xc i) args H
theorem xc_cases {P : Pg} (k : Nat) (A : AH) : (callF P k (.xc 1) [] A = .no ∧ k < 2) ∨ (callF P k (.xc 1) [] A = .ok .non A ∧ 2 ≤ k) := by
  match k with
  | 0 => exact .inl ⟨rfl, by omega⟩
  | 1 => exact .inl ⟨rfl, by omega⟩
  | k + 2 => exact .inr ⟨rfl, by omega⟩
theorem xc_ge {P : Pg} {k : Nat} {ds : List D} {A : AH} {d : D} {B : AH} (h : callF P k (.xc 1) ds A = .ok d B) : 2 ≤ k := by
  match k, h with
  | 0, h => cases h
  | 1, h => cases h
  | k + 2, _ => omega
end Ev
end

section
set_option Elab.async false
set_option linter.all false
set_option maxRecDepth 100000
/-! What the evaluator's state stands for. -/
namespace Ev
open PySem PySem.Spec PyProof.Rows L2

/-- the written part; the classes' addresses; the fields' names -/
structure Tb where
  K : PySem.W.Frag
  cad : Nat → Addr
  xad : Nat → Addr
  fld : Nat → Str
  nf : Nat
  nx : Nat
def ClsOk (T : Tb) (c : Nat) : Prop := Cls T.K (T.cad c) ∧ ∀ i, i < T.nf → NoAttr T.K (T.cad c) (T.fld i)
/-- an own exception class of an error that is held -/
def XoOk (T : Tb) (c : Nat) : Prop := c < T.nx ∧ ExcC T.K (T.xad c) ∧ ∀ i, i < T.nf → PySem.W.findIn T.K (.ref (T.xad c)) (T.fld i) = some none
/-- where the objects lie -/
structure Wd where
  f : Nat → Addr
  n : Nat
  H : Hp
  hid : Addr → Prop

def Off (w : Wd) (a : Addr) : Prop := (∀ i, i < w.n → w.f i ≠ a) ∧ ¬ w.hid a
def TupAt (T : Tb) (w : Wd) (a : Addr) (vs : List V) : Prop := (Rd w.H a (.tup vs) ∧ Off w a) ∨ SqT T.K (fun _ => none) a vs
def LstAt (w : Wd) (a : Addr) (vs : List V) : Prop := w.H a = some (.lst vs) ∧ Off w a
def ScrAt (T : Tb) (w : Wd) (a : Addr) (vs : List V) : Prop := (Rd w.H a (.lst vs) ∧ Off w a) ∨ SqL T.K (fun _ => none) a vs
theorem no_rd {a : Addr} {o : HO} : ¬ Rd (fun _ => none) a o := fun h => by
  rcases h with h | ⟨_, h⟩ <;> cases h
theorem TupAt.sq {T : Tb} {w : Wd} {a : Addr} {vs : List V} (h : TupAt T w a vs) : SqT T.K w.H a vs := by
  rcases h with h | h
  · exact .inl h.1
  · rcases h with h | h
    · exact absurd h no_rd
    · exact .inr h
theorem LstAt.sq {K : PySem.W.Frag} {w : Wd} {a : Addr} {vs : List V} (h : LstAt w a vs) : SqL K w.H a vs := .inl (.inl h.1)
theorem ScrAt.sq {T : Tb} {w : Wd} {a : Addr} {vs : List V} (h : ScrAt T w a vs) : SqL T.K w.H a vs := by
  rcases h with h | h
  · exact .inl h.1
  · rcases h with h | h
    · exact absurd h no_rd
    · exact .inr h

def sT (s : Tx) : Str := ⟨s.toArray⟩
mutual
def RD (T : Tb) (w : Wd) : D → V → Prop
  | .non, v => v = .non
  | .bl b, v => v = .bl b
  | .int i, v => v = .int i
  | .str s, v => v = .str (sT s)
  | .tup xs, v => ∃ a vs, v = .ref a ∧ TupAt T w a vs ∧ RDs T w xs vs
  | .lst xs, v => ∃ a vs, v = .ref a ∧ LstAt w a vs ∧ RDs T w xs vs
  | .ref i, v => i < w.n ∧ v = .ref (w.f i)
  | .scr xs, v => ∃ a, v = .ref a ∧ ScrAt T w a (xs.map V.int)
def RDs (T : Tb) (w : Wd) : List D → List V → Prop
  | [], vs => vs = []
  | x :: xs, vs => ∃ v r, vs = v :: r ∧ RD T w x v ∧ RDs T w xs r
end

structure Ext (w w' : Wd) : Prop where
  le : w.n ≤ w'.n
  ag : ∀ i, i < w.n → w'.f i = w.f i
  fr : ∀ i, w.n ≤ i → i < w'.n → w.H (w'.f i) = none
  fm : ∀ a o, w.H a = some o → Off w a → w'.H a = some o
  kp : ∀ a o, w.H a = some o → ∃ o', w'.H a = some o'
  hd : w'.hid = w.hid
  hm : ∀ a o, w.H a = some o → w.hid a → w'.H a = some o
/-- what values ask -/
structure Inc (w w' : Wd) : Prop where
  le : w.n ≤ w'.n
  ag : ∀ i, i < w.n → w'.f i = w.f i
  fo : ∀ a o, w.H a = some o → Off w a → w'.H a = some o ∧ Off w' a
theorem Ext.refl (w : Wd) : Ext w w := ⟨Nat.le_refl _, fun _ _ => rfl, fun i h1 h2 => absurd h1 (by omega), fun _ _ h _ => h, fun _ o h => ⟨o, h⟩, rfl, fun _ _ h _ => h⟩
theorem Ext.off {w w' : Wd} (e : Ext w w') {a : Addr} {o : HO} (h : w.H a = some o) (q : Off w a) : Off w' a := by
  refine ⟨fun i hi z => ?_, by rw [e.hd]; exact q.2⟩
  by_cases hn : i < w.n
  · exact q.1 i hn ((e.ag i hn).symm.trans z)
  · have := e.fr i (by omega) hi
    rw [z, h] at this; cases this
theorem Ext.inc {w w' : Wd} (e : Ext w w') : Inc w w' := ⟨e.le, e.ag, fun a o h q => ⟨e.fm a o h q, e.off h q⟩⟩
theorem Inc.trans {w w1 w2 : Wd} (a : Inc w w1) (b : Inc w1 w2) : Inc w w2 := ⟨Nat.le_trans a.le b.le, fun i h => (b.ag i (Nat.lt_of_lt_of_le h a.le)).trans (a.ag i h), fun x o h q => let ⟨h1, q1⟩ := a.fo x o h q; b.fo x o h1 q1⟩
theorem Ext.trans {w w1 w2 : Wd} (a : Ext w w1) (b : Ext w1 w2) : Ext w w2 where
  le := Nat.le_trans a.le b.le
  ag := fun i h => (b.ag i (Nat.lt_of_lt_of_le h a.le)).trans (a.ag i h)
  fr := fun i h1 h2 => by
    by_cases hn : i < w1.n
    · rw [b.ag i hn]; exact a.fr i h1 hn
    · have q := b.fr i (by omega) h2
      cases e : w.H (w2.f i) with
      | none => rfl
      | some o =>
        obtain ⟨o', e'⟩ := a.kp _ o e
        rw [q] at e'; cases e'
  fm := fun x o h q => b.fm x o (a.fm x o h q) (a.off h q)
  kp := fun x o h => by
    obtain ⟨o', e⟩ := a.kp x o h
    exact b.kp x o' e
  hd := b.hd.trans a.hd
  hm := fun x o h q => b.hm x o (a.hm x o h q) (by rw [a.hd]; exact q)
theorem rd_some {H : Hp} {a : Addr} {u : HO} (h : Rd H a u) : ∃ o, H a = some o := by
  rcases h with h | ⟨o, h⟩ <;> exact ⟨_, h⟩
theorem rd_inc {w w' : Wd} (e : Inc w w') {a : Addr} {u : HO} (h : Rd w.H a u) (q : Off w a) : Rd w'.H a u := by
  rcases h with h | ⟨o, h⟩
  · exact .inl (e.fo a _ h q).1
  · exact .inr ⟨o, (e.fo a _ h q).1⟩
theorem TupAt.inc {T : Tb} {w w' : Wd} (e : Inc w w') {a : Addr} {vs : List V} (h : TupAt T w a vs) : TupAt T w' a vs := by
  rcases h with ⟨h, q⟩ | h
  · obtain ⟨o, ho⟩ := rd_some h
    exact .inl ⟨rd_inc e h q, (e.fo _ _ ho q).2⟩
  · exact .inr h
theorem LstAt.inc {w w' : Wd} (e : Inc w w') {a : Addr} {vs : List V} (h : LstAt w a vs) : LstAt w' a vs := e.fo _ _ h.1 h.2
theorem ScrAt.inc {T : Tb} {w w' : Wd} (e : Inc w w') {a : Addr} {vs : List V} (h : ScrAt T w a vs) : ScrAt T w' a vs := by
  rcases h with ⟨h, q⟩ | h
  · obtain ⟨o, ho⟩ := rd_some h
    exact .inl ⟨rd_inc e h q, (e.fo _ _ ho q).2⟩
  · exact .inr h

section
variable {T : Tb} {w w' : Wd}
mutual
theorem RD.inc (e : Inc w w') : ∀ (d : D) (v : V), RD T w d v → RD T w' d v
  | .non, v, h => by rw [RD] at h ⊢; exact h
  | .bl b, v, h => by rw [RD] at h ⊢; exact h
  | .int i, v, h => by rw [RD] at h ⊢; exact h
  | .str s, v, h => by rw [RD] at h ⊢; exact h
  | .tup xs, v, h => by
    rw [RD] at h ⊢
    obtain ⟨a, vs, e1, t, r⟩ := h
    exact ⟨a, vs, e1, t.inc e, RDs.inc e xs vs r⟩
  | .lst xs, v, h => by
    rw [RD] at h ⊢
    obtain ⟨a, vs, e1, t, r⟩ := h
    exact ⟨a, vs, e1, t.inc e, RDs.inc e xs vs r⟩
  | .ref i, v, h => by
    rw [RD] at h ⊢
    exact ⟨Nat.lt_of_lt_of_le h.1 e.le, by rw [e.ag i h.1]; exact h.2⟩
  | .scr xs, v, h => by
    rw [RD] at h ⊢
    obtain ⟨a, e1, t⟩ := h
    exact ⟨a, e1, t.inc e⟩
theorem RDs.inc (e : Inc w w') : ∀ (ds : List D) (vs : List V), RDs T w ds vs → RDs T w' ds vs
  | [], vs, h => by rw [RDs] at h ⊢; exact h
  | x :: xs, vs, h => by
    rw [RDs] at h ⊢
    obtain ⟨v, r, e1, h1, h2⟩ := h
    exact ⟨v, r, e1, RD.inc e x v h1, RDs.inc e xs r h2⟩
end
theorem RD.mono (e : Ext w w') (d : D) (v : V) (h : RD T w d v) : RD T w' d v := RD.inc e.inc d v h
theorem RDs.mono (e : Ext w w') (ds : List D) (vs : List V) (h : RDs T w ds vs) : RDs T w' ds vs := RDs.inc e.inc ds vs h
mutual
theorem RD.low : ∀ (d : D) (v : V), RD T w d v → d.low w.n = true
  | .non, v, h => by simp [D.low]
  | .bl b, v, h => by simp [D.low]
  | .int i, v, h => by simp [D.low]
  | .str s, v, h => by simp [D.low]
  | .tup xs, v, h => by
    rw [RD] at h
    obtain ⟨a, vs, e1, t, r⟩ := h
    rw [D.low]; exact RDs.low xs vs r
  | .lst xs, v, h => by
    rw [RD] at h
    obtain ⟨a, vs, e1, t, r⟩ := h
    rw [D.low]; exact RDs.low xs vs r
  | .ref i, v, h => by
    rw [RD] at h
    rw [D.low]; exact decide_eq_true h.1
  | .scr xs, v, h => by simp [D.low]
theorem RDs.low : ∀ (ds : List D) (vs : List V), RDs T w ds vs → D.lows w.n ds = true
  | [], vs, h => by simp [D.lows]
  | x :: xs, vs, h => by
    rw [RDs] at h
    obtain ⟨v, r, e1, h1, h2⟩ := h
    rw [D.lows, RD.low x v h1, RDs.low xs r h2]; rfl
end
/-- a smaller world: the first n objects, fewer addresses -/
structure Sub (n : Nat) (w w' : Wd) : Prop where
  ag : ∀ i, i < n → w'.f i = w.f i
  le : n ≤ w'.n
  off : ∀ a, Off w a → Off w' a
  H : w'.H = w.H
theorem TupAt.sub {n : Nat} (s : Sub n w w') {a : Addr} {vs : List V} (h : TupAt T w a vs) : TupAt T w' a vs := by
  rcases h with ⟨h, q⟩ | h
  · exact .inl ⟨by rw [s.H]; exact h, s.off a q⟩
  · exact .inr h
mutual
theorem RD.sub {n : Nat} (s : Sub n w w') : ∀ (d : D) (v : V), RD T w d v → d.low n = true → RD T w' d v
  | .non, v, h, _ => by rw [RD] at h ⊢; exact h
  | .bl b, v, h, _ => by rw [RD] at h ⊢; exact h
  | .int i, v, h, _ => by rw [RD] at h ⊢; exact h
  | .str s, v, h, _ => by rw [RD] at h ⊢; exact h
  | .tup xs, v, h, l => by
    rw [RD] at h ⊢
    rw [D.low] at l
    obtain ⟨a, vs, e1, t, r⟩ := h
    exact ⟨a, vs, e1, t.sub s, RDs.sub s xs vs r l⟩
  | .lst xs, v, h, l => by
    rw [RD] at h ⊢
    rw [D.low] at l
    obtain ⟨a, vs, e1, t, r⟩ := h
    exact ⟨a, vs, e1, ⟨by rw [s.H]; exact t.1, s.off a t.2⟩, RDs.sub s xs vs r l⟩
  | .ref i, v, h, l => by
    rw [RD] at h ⊢
    rw [D.low] at l
    have hi := of_decide_eq_true l
    exact ⟨Nat.lt_of_lt_of_le hi s.le, by rw [s.ag i hi]; exact h.2⟩
  | .scr xs, v, h, _ => by
    rw [RD] at h ⊢
    obtain ⟨a, e1, t⟩ := h
    refine ⟨a, e1, ?_⟩
    rcases t with ⟨t, q⟩ | t
    · exact .inl ⟨by rw [s.H]; exact t, s.off a q⟩
    · exact .inr t
theorem RDs.sub {n : Nat} (s : Sub n w w') : ∀ (ds : List D) (vs : List V), RDs T w ds vs → D.lows n ds = true → RDs T w' ds vs
  | [], vs, h, _ => by rw [RDs] at h ⊢; exact h
  | x :: xs, vs, h, l => by
    rw [RDs] at h ⊢
    rw [D.lows, Bool.and_eq_true] at l
    obtain ⟨v, r, e1, h1, h2⟩ := h
    exact ⟨v, r, e1, RD.sub s x v h1 l.1, RDs.sub s xs r h2 l.2⟩
end
theorem RDs.nil : RDs T w [] [] := by rw [RDs]
theorem RDs.cons {x : D} {xs : List D} {v : V} {vs : List V} (h : RD T w x v) (r : RDs T w xs vs) : RDs T w (x :: xs) (v :: vs) := by rw [RDs]; exact ⟨v, vs, rfl, h, r⟩
theorem RDs.length : ∀ {xs : List D} {vs : List V}, RDs T w xs vs → xs.length = vs.length
  | [], vs, h => by rw [RDs] at h; subst h; rfl
  | x :: xs, vs, h => by
    rw [RDs] at h
    obtain ⟨v, r, rfl, _, h2⟩ := h
    simp [RDs.length h2]
theorem RDs.get : ∀ {xs : List D} {vs : List V} {i : Nat} {d : D}, RDs T w xs vs → xs[i]? = some d → ∃ v, vs[i]? = some v ∧ RD T w d v
  | [], _, _, _, _, h => by simp at h
  | x :: xs, vs, 0, d, r, h => by
    rw [RDs] at r
    obtain ⟨v, r, rfl, h1, _⟩ := r
    simp at h; subst h
    exact ⟨v, by simp, h1⟩
  | x :: xs, vs, i + 1, d, r, h => by
    rw [RDs] at r
    obtain ⟨v, r, rfl, _, h2⟩ := r
    simp at h
    obtain ⟨u, e, q⟩ := RDs.get h2 h
    exact ⟨u, by simpa using e, q⟩
theorem RDs.append : ∀ {xs ys : List D} {vs ws : List V}, RDs T w xs vs → RDs T w ys ws → RDs T w (xs ++ ys) (vs ++ ws)
  | [], _, _, _, h, r => by rw [RDs] at h; subst h; exact r
  | x :: xs, ys, vs, ws, h, r => by
    rw [RDs] at h
    obtain ⟨v, rr, rfl, h1, h2⟩ := h
    exact RDs.cons h1 (RDs.append h2 r)
theorem RDs.take : ∀ {xs : List D} {vs : List V} (n : Nat), RDs T w xs vs → RDs T w (xs.take n) (vs.take n)
  | _, _, 0, _ => by simpa using RDs.nil
  | [], _, n + 1, h => by rw [RDs] at h; subst h; simpa using RDs.nil
  | x :: xs, vs, n + 1, h => by
    rw [RDs] at h
    obtain ⟨v, rr, rfl, h1, h2⟩ := h
    exact RDs.cons h1 (RDs.take n h2)
theorem RDs.drop : ∀ {xs : List D} {vs : List V} (n : Nat), RDs T w xs vs → RDs T w (xs.drop n) (vs.drop n)
  | _, _, 0, h => by simpa using h
  | [], _, n + 1, h => by rw [RDs] at h; subst h; simpa using RDs.nil
  | x :: xs, vs, n + 1, h => by
    rw [RDs] at h
    obtain ⟨v, rr, rfl, h1, h2⟩ := h
    exact RDs.drop n h2
theorem RDs.set : ∀ {xs : List D} {vs : List V} (i : Nat) {d : D} {v : V}, RDs T w xs vs → RD T w d v → RDs T w (xs.set i d) (vs.set i v)
  | [], _, _, _, _, h, _ => by rw [RDs] at h; subst h; simpa using RDs.nil
  | x :: xs, vs, 0, d, v, h, q => by
    rw [RDs] at h
    obtain ⟨u, rr, rfl, h1, h2⟩ := h
    exact RDs.cons q h2
  | x :: xs, vs, i + 1, d, v, h, q => by
    rw [RDs] at h
    obtain ⟨u, rr, rfl, h1, h2⟩ := h
    exact RDs.cons h1 (RDs.set i h2 q)
theorem RDs.dropLast {xs : List D} {vs : List V} (h : RDs T w xs vs) : RDs T w xs.dropLast vs.dropLast := by
  rw [List.dropLast_eq_take, List.dropLast_eq_take, h.length]
  exact h.take _

def kV' : DK → Key
  | .inl i => .inl i
  | .inr s => .inr (sT s)
theorem sT_inj {a b : Tx} (h : sT a = sT b) : a = b := by
  have : a.toArray = b.toArray := congrArg Str.cps h
  simpa using this
theorem kV'_inj {a b : DK} (h : kV' a = kV' b) : a = b := by
  cases a <;> cases b <;> simp [kV'] at h <;> first | rw [h] | rw [sT_inj h]
def RKs (T : Tb) (w : Wd) : List (DK × D) → List (Key × V) → Prop
  | [], ws => ws = []
  | (k, d) :: r, ws => ∃ v q, ws = (kV' k, v) :: q ∧ RD T w d v ∧ RKs T w r q
def RFs (T : Tb) (w : Wd) : List (Nat × D) → List (Str × V) → Prop
  | [], ws => ws = []
  | (k, d) :: r, ws => ∃ v q, ws = (T.fld k, v) :: q ∧ RD T w d v ∧ RFs T w r q
def RO (T : Tb) (w : Wd) : AO → Addr → Prop
  | .lst xs, a => ∃ vs, w.H a = some (.lst vs) ∧ RDs T w xs vs
  | .dic kvs, a => ∃ ws, w.H a = some (.dK ws) ∧ RKs T w kvs ws
  | .ins c fs, a => ∃ dx ws, w.H a = some (.ins (T.cad c) dx ws) ∧ RFs T w fs ws ∧ ClsOk T c
  | .exo c fs, a => ∃ dx ws, w.H a = some (exo a (T.xad c) (some dx)) ∧ w.H dx = some (exd dx ws) ∧ Off w dx ∧ RFs T w fs ws ∧ XoOk T c
theorem RKs.inc (e : Inc w w') : ∀ {r : List (DK × D)} {q : List (Key × V)}, RKs T w r q → RKs T w' r q
  | [], _, h => h
  | (k, d) :: r, _, h => by
    obtain ⟨v, q, e1, h1, h2⟩ := h
    exact ⟨v, q, e1, RD.inc e d v h1, RKs.inc e h2⟩
theorem RKs.mono (e : Ext w w') {r : List (DK × D)} {q : List (Key × V)} (h : RKs T w r q) : RKs T w' r q := h.inc e.inc
theorem RFs.inc (e : Inc w w') : ∀ {r : List (Nat × D)} {q : List (Str × V)}, RFs T w r q → RFs T w' r q
  | [], _, h => h
  | (k, d) :: r, _, h => by
    obtain ⟨v, q, e1, h1, h2⟩ := h
    exact ⟨v, q, e1, RD.inc e d v h1, RFs.inc e h2⟩
theorem RFs.mono (e : Ext w w') {r : List (Nat × D)} {q : List (Str × V)} (h : RFs T w r q) : RFs T w' r q := h.inc e.inc
theorem RKs.low : ∀ {r : List (DK × D)} {q : List (Key × V)}, RKs T w r q → D.lows w.n (r.map (·.2)) = true
  | [], _, _ => by simp [D.lows]
  | (k, d) :: r, _, h => by
    obtain ⟨v, q, e1, h1, h2⟩ := h
    rw [List.map_cons, D.lows, RD.low d v h1, RKs.low h2]; rfl
theorem RFs.low : ∀ {r : List (Nat × D)} {q : List (Str × V)}, RFs T w r q → D.lows w.n (r.map (·.2)) = true
  | [], _, _ => by simp [D.lows]
  | (k, d) :: r, _, h => by
    obtain ⟨v, q, e1, h1, h2⟩ := h
    rw [List.map_cons, D.lows, RD.low d v h1, RFs.low h2]; rfl
theorem RKs.sub {n : Nat} (s : Sub n w w') : ∀ {r : List (DK × D)} {q : List (Key × V)}, RKs T w r q → D.lows n (r.map (·.2)) = true → RKs T w' r q
  | [], _, h, _ => h
  | (k, d) :: r, _, h, l => by
    obtain ⟨v, q, e1, h1, h2⟩ := h
    rw [List.map_cons, D.lows, Bool.and_eq_true] at l
    exact ⟨v, q, e1, RD.sub s d v h1 l.1, RKs.sub s h2 l.2⟩
theorem RFs.sub {n : Nat} (s : Sub n w w') : ∀ {r : List (Nat × D)} {q : List (Str × V)}, RFs T w r q → D.lows n (r.map (·.2)) = true → RFs T w' r q
  | [], _, h, _ => h
  | (k, d) :: r, _, h, l => by
    obtain ⟨v, q, e1, h1, h2⟩ := h
    rw [List.map_cons, D.lows, Bool.and_eq_true] at l
    exact ⟨v, q, e1, RD.sub s d v h1 l.1, RFs.sub s h2 l.2⟩
theorem RO.low {o : AO} {a : Addr} (h : RO T w o a) : o.low w.n = true := by
  cases o with
  | lst xs => obtain ⟨vs, _, r⟩ := h; exact RDs.low xs vs r
  | dic kvs => obtain ⟨ws, _, r⟩ := h; exact RKs.low r
  | ins c fs => obtain ⟨dx, ws, _, r, _⟩ := h; exact RFs.low r
  | exo c fs => obtain ⟨dx, ws, _, _, _, r, _⟩ := h; exact RFs.low r
theorem RO.sub {n : Nat} (s : Sub n w w') {o : AO} {a : Addr} (h : RO T w o a) (l : o.low n = true) : RO T w' o a := by
  cases o with
  | lst xs => obtain ⟨vs, e, r⟩ := h; exact ⟨vs, by rw [s.H]; exact e, RDs.sub s xs vs r l⟩
  | dic kvs => obtain ⟨ws, e, r⟩ := h; exact ⟨ws, by rw [s.H]; exact e, RKs.sub s r l⟩
  | ins c fs => obtain ⟨dx, ws, e, r, z⟩ := h; exact ⟨dx, ws, by rw [s.H]; exact e, RFs.sub s r l, z⟩
  | exo c fs => obtain ⟨dx, ws, e, e2, o, r, z⟩ := h; exact ⟨dx, ws, by rw [s.H]; exact e, by rw [s.H]; exact e2, s.off dx o, RFs.sub s r l, z⟩
/-- an object that stands where it stood -/
theorem RO.inc (e : Inc w w') {o : AO} {a : Addr} (h : RO T w o a) (k : ∀ u, w.H a = some u → w'.H a = some u) : RO T w' o a := by
  cases o with
  | lst xs => obtain ⟨vs, q, r⟩ := h; exact ⟨vs, k _ q, RDs.inc e xs vs r⟩
  | dic kvs => obtain ⟨ws, q, r⟩ := h; exact ⟨ws, k _ q, r.inc e⟩
  | ins c fs => obtain ⟨dx, ws, q, r, z⟩ := h; exact ⟨dx, ws, k _ q, r.inc e, z⟩
  | exo c fs => obtain ⟨dx, ws, q, q2, o, r, z⟩ := h; exact ⟨dx, ws, k _ q, (e.fo dx _ q2 o).1, (e.fo dx _ q2 o).2, r.inc e, z⟩
theorem RO.mono (e : Ext w w') {o : AO} {a : Addr} (h : RO T w o a) (k : ∀ u, w.H a = some u → w'.H a = some u) : RO T w' o a := h.inc e.inc k
theorem RO.there {o : AO} {a : Addr} (h : RO T w o a) : ∃ u, w.H a = some u := by
  cases o with
  | lst xs => obtain ⟨vs, q, r⟩ := h; exact ⟨_, q⟩
  | dic kvs => obtain ⟨ws, q, r⟩ := h; exact ⟨_, q⟩
  | ins c fs => obtain ⟨dx, ws, q, r⟩ := h; exact ⟨_, q⟩
  | exo c fs => obtain ⟨dx, ws, q, r⟩ := h; exact ⟨_, q⟩

structure Abs (T : Tb) (w : Wd) (A : AH) : Prop where
  len : A.length = w.n
  inj : ∀ i j, i < w.n → j < w.n → w.f i = w.f j → i = j
  ob : ∀ (i : Nat) (o : AO), A[i]? = some o → RO T w o (w.f i)
  nh : ∀ i, i < w.n → ¬ w.hid (w.f i)
  hs : ∀ a, w.hid a → ∃ o, w.H a = some o
structure RS (T : Tb) (w : Wd) (σa : Sl) (σ : L2.St) : Prop where
  len : σa.length = σ.length
  at_ : ∀ (i : Nat) (d : D), σa[i]? = some (some d) → ∃ v : V, σ[i]? = some (some v) ∧ RD T w d v
theorem RS.inc (e : Inc w w') {σa : Sl} {σ : L2.St} (h : RS T w σa σ) : RS T w' σa σ :=
  ⟨h.len, fun i d q => let ⟨v, a, b⟩ := h.at_ i d q; ⟨v, a, RD.inc e d v b⟩⟩
theorem RS.mono (e : Ext w w') {σa : Sl} {σ : L2.St} (h : RS T w σa σ) : RS T w' σa σ := h.inc e.inc
theorem RS.set {σa : Sl} {σ : L2.St} {i : Nat} {d : D} {v : V} (h : RS T w σa σ) (r : RD T w d v) : RS T w (σa.set i (some d)) (σ.set i (some v)) := by
  refine ⟨by simpa using h.len, fun j e q => ?_⟩
  by_cases hj : i = j
  · subst hj
    by_cases hi : i < σa.length
    · rw [List.getElem?_set_self hi] at q
      cases q
      exact ⟨v, by rw [List.getElem?_set_self (by rw [← h.len]; exact hi)], r⟩
    · rw [List.getElem?_eq_none (by simpa using hi)] at q; cases q
  · rw [List.getElem?_set_ne hj] at q
    obtain ⟨u, a, b⟩ := h.at_ j e q
    exact ⟨u, by rw [List.getElem?_set_ne hj]; exact a, b⟩
theorem RS.wiped {σa : Sl} {σ : L2.St} (h : RS T w σa σ) : ∀ vs : List Nat, RS T w (wipeD σa vs) (wipe σ vs)
  | [] => h
  | v :: vs => by
    have ih := RS.wiped h vs
    refine ⟨by simp [wipeD, wipe, ih.len], fun j e q => ?_⟩
    unfold wipeD at q
    unfold wipe
    by_cases hj : v = j
    · subst hj
      by_cases hi : v < (wipeD σa vs).length
      · rw [List.getElem?_set_self hi] at q; cases q
      · rw [List.getElem?_eq_none (by simpa using hi)] at q; cases q
    · rw [List.getElem?_set_ne hj] at q
      obtain ⟨u, a, b⟩ := ih.at_ j e q
      exact ⟨u, by rw [List.getElem?_set_ne hj]; exact a, b⟩

/-! ### what changes -/
/-- an object laid that the evaluator holds as a tree -/
theorem ext_laid {p : Addr} {o : HO} (hp : w.H p = none) : Ext w ⟨w.f, w.n, upd w.H p o, w.hid⟩ where
  le := Nat.le_refl _
  ag := fun _ _ => rfl
  fr := fun i h1 h2 => absurd h1 (by have : i < w.n := h2; omega)
  fm := fun a u h _ => by
    show upd w.H p o a = _
    rw [upd_ne (ne_of_none h hp)]; exact h
  kp := fun a u h => ⟨u, by show upd w.H p o a = _; rw [upd_ne (ne_of_none h hp)]; exact h⟩
  hd := rfl
  hm := fun a u h _ => by
    show upd w.H p o a = _
    rw [upd_ne (ne_of_none h hp)]; exact h
theorem Abs.laid {A : AH} {p : Addr} {o : HO} (h : Abs T w A) (hp : w.H p = none) : Abs T ⟨w.f, w.n, upd w.H p o, w.hid⟩ A :=
  ⟨h.len, h.inj, fun i u q => (h.ob i u q).mono (ext_laid hp) fun x hx => by
    show upd w.H p o _ = _
    rw [upd_ne (ne_of_none hx hp)]; exact hx, h.nh, fun a ha => let ⟨u, hu⟩ := h.hs a ha; (ext_laid hp).kp a u hu⟩
theorem Abs.off {A : AH} {p : Addr} (h : Abs T w A) (hp : w.H p = none) : Off w p := by
  refine ⟨fun i hi z => ?_, fun z => ?_⟩
  · have hi' : i < A.length := by rw [h.len]; exact hi
    obtain ⟨u, hu⟩ := (h.ob i A[i] (List.getElem?_eq_getElem hi')).there
    rw [z, hp] at hu; cases hu
  · obtain ⟨u, hu⟩ := h.hs p z
    rw [hp] at hu; cases hu
theorem tup_laid {A : AH} {p : Addr} {vs : List V} (h : Abs T w A) (hp : w.H p = none) : TupAt T ⟨w.f, w.n, upd w.H p (.tup vs), w.hid⟩ p vs := .inl ⟨.inl upd_same, h.off hp⟩
theorem lst_laid {A : AH} {p : Addr} {vs : List V} (h : Abs T w A) (hp : w.H p = none) : LstAt ⟨w.f, w.n, upd w.H p (.lst vs), w.hid⟩ p vs := ⟨upd_same, h.off hp⟩
/-- an object laid that the evaluator refers to -/
def Wd.push (w : Wd) (p : Addr) (o : HO) : Wd := ⟨fun i => if i = w.n then p else w.f i, w.n + 1, upd w.H p o, w.hid⟩
theorem ext_push {p : Addr} {o : HO} (hp : w.H p = none) : Ext w (w.push p o) where
  le := Nat.le_succ _
  ag := fun i h => by show (if i = w.n then p else w.f i) = _; rw [if_neg (by omega)]
  fr := fun i h1 h2 => by
    have : i = w.n := by have h2 : i < w.n + 1 := h2; omega
    show w.H (if i = w.n then p else w.f i) = none
    rw [if_pos this]; exact hp
  fm := fun a u h _ => by
    show upd w.H p o a = _
    rw [upd_ne (ne_of_none h hp)]; exact h
  kp := fun a u h => ⟨u, by show upd w.H p o a = _; rw [upd_ne (ne_of_none h hp)]; exact h⟩
  hd := rfl
  hm := fun a u h _ => by
    show upd w.H p o a = _
    rw [upd_ne (ne_of_none h hp)]; exact h
theorem Abs.push {A : AH} {p : Addr} {o : HO} {u : AO} (h : Abs T w A) (hp : w.H p = none) (ho : RO T (w.push p o) u p) : Abs T (w.push p o) (A ++ [u]) := by
  refine ⟨by simp [h.len, Wd.push], fun i j hi hj e => ?_, fun i x q => ?_, fun i hi => ?_, fun a ha => let ⟨u, hu⟩ := h.hs a ha; (ext_push hp).kp a u hu⟩
  · have hi : i < w.n + 1 := hi
    have hj : j < w.n + 1 := hj
    have e : (if i = w.n then p else w.f i) = (if j = w.n then p else w.f j) := e
    have of := h.off hp
    by_cases h1 : i = w.n <;> by_cases h2 : j = w.n
    · rw [h1, h2]
    · rw [if_pos h1, if_neg h2] at e; exact absurd e.symm (of.1 j (by omega))
    · rw [if_neg h1, if_pos h2] at e; exact absurd e (of.1 i (by omega))
    · rw [if_neg h1, if_neg h2] at e; exact h.inj i j (by omega) (by omega) e
  · by_cases hi : i < A.length
    · rw [List.getElem?_append_left hi] at q
      have hn : i < w.n := by rw [← h.len]; exact hi
      have e : (w.push p o).f i = w.f i := (ext_push hp).ag i hn
      rw [e]
      exact (h.ob i x q).mono (ext_push hp) fun y hy => by
        show upd w.H p o _ = _
        rw [upd_ne (ne_of_none hy hp)]; exact hy
    · have hi' : i = A.length := by
        have := List.getElem?_eq_some_iff.mp q
        obtain ⟨hlt, _⟩ := this
        simp at hlt; omega
      subst hi'
      simp at q
      subst q
      have : (w.push p o).f A.length = p := by show (if A.length = w.n then p else _) = p; rw [if_pos h.len]
      rw [this]; exact ho
  · have hi : i < w.n + 1 := hi
    show ¬ w.hid (if i = w.n then p else w.f i)
    by_cases h1 : i = w.n
    · rw [if_pos h1]; exact (h.off hp).2
    · rw [if_neg h1]; exact h.nh i (by omega)
/-- an object written -/
def Wd.put (w : Wd) (i : Nat) (o : HO) : Wd := ⟨w.f, w.n, upd w.H (w.f i) o, w.hid⟩
theorem ext_put {A : AH} {i : Nat} {o u : HO} (ha : Abs T w A) (hi : i < w.n) (hu : w.H (w.f i) = some u) : Ext w (w.put i o) where
  le := Nat.le_refl _
  ag := fun _ _ => rfl
  fr := fun j h1 h2 => absurd h1 (by have : j < w.n := h2; omega)
  fm := fun a x h q => by
    show upd w.H (w.f i) o a = _
    rw [upd_ne (fun z => q.1 i hi z.symm)]; exact h
  kp := fun a x h => by
    by_cases e : a = w.f i
    · exact ⟨o, by show upd w.H (w.f i) o a = _; rw [e, upd_same]⟩
    · exact ⟨x, by show upd w.H (w.f i) o a = _; rw [upd_ne e]; exact h⟩
  hd := rfl
  hm := fun a x h q => by
    show upd w.H (w.f i) o a = _
    have z : a ≠ w.f i := fun z => ha.nh i hi (by rw [← z]; exact q)
    rw [upd_ne z]; exact h
theorem Abs.put {A : AH} {i : Nat} {o u : HO} {x : AO} (h : Abs T w A) (hi : i < w.n) (hu : w.H (w.f i) = some u) (ho : RO T (w.put i o) x (w.f i)) : Abs T (w.put i o) (A.set i x) := by
  refine ⟨by rw [List.length_set]; exact h.len, h.inj, fun j y q => ?_, h.nh, fun a ha => let ⟨v, hv⟩ := h.hs a ha; (ext_put h hi hu).kp a v hv⟩
  by_cases hj : i = j
  · subst hj
    rw [List.getElem?_set_self (by rw [h.len]; exact hi)] at q
    cases q
    exact ho
  · rw [List.getElem?_set_ne hj] at q
    have hjn : j < w.n := by rw [← h.len]; exact (List.getElem?_eq_some_iff.mp q).1
    have hne : w.f j ≠ w.f i := fun z => hj (h.inj j i hjn hi z).symm
    exact (h.ob j y q).mono (ext_put h hi hu) fun z hz => by
      show upd w.H (w.f i) o _ = _
      rw [upd_ne hne]; exact hz
theorem Abs.lt {A : AH} {i : Nat} {o : AO} (h : Abs T w A) (e : A[i]? = some o) : i < w.n := by
  rw [← h.len]; exact (List.getElem?_eq_some_iff.mp e).1
end
end Ev
end

section
set_option Elab.async false
set_option linter.all false
set_option maxRecDepth 100000
set_option maxHeartbeats 4000000
/-! An own exception class over Exception (own classes between), its __init__ a def: after HandS.ExcInit, which is for ValueError. -/
namespace Ev
open PySem PySem.Spec PyProof.Rows L2
abbrev exT : List Value := [.type "Exception", .type "BaseException", .type "object"]
def refsEx : List Value → Bool
  | .ref _ :: r => refsEx r
  | l => l == exT
theorem refsEx_cases : ∀ l : List Value, refsEx l = true → (∃ c r, l = .ref c :: r ∧ refsEx r = true) ∨ l = exT
  | [], e => .inr (beq_iff_eq.mp e)
  | .ref c :: r, e => .inl ⟨c, r, rfl, e⟩
  | .none :: _, e => .inr (beq_iff_eq.mp e)
  | .ellipsis :: _, e => .inr (beq_iff_eq.mp e)
  | .notImplemented :: _, e => .inr (beq_iff_eq.mp e)
  | .bool _ :: _, e => .inr (beq_iff_eq.mp e)
  | .int _ _ :: _, e => .inr (beq_iff_eq.mp e)
  | .float _ _ :: _, e => .inr (beq_iff_eq.mp e)
  | .str _ _ :: _, e => .inr (beq_iff_eq.mp e)
  | .bytes _ _ :: _, e => .inr (beq_iff_eq.mp e)
  | .type _ :: _, e => .inr (beq_iff_eq.mp e)
  | .builtin _ :: _, e => .inr (beq_iff_eq.mp e)
theorem refsEx_pass (self : Value) : ∀ l : List Value, refsEx l = true → PySem.refuseLoop self "__setattr__" l = pure () := by
  intro l
  induction l with
  | nil => intro e; exact absurd e (by decide)
  | cons a r ih =>
    intro e
    rcases refsEx_cases (a :: r) e with ⟨c, r', q, h⟩ | q
    · obtain ⟨rfl, rfl⟩ := List.cons.inj q
      rw [refuseLoop_ref]; exact ih h
    · rw [q]; exact F.store_Exception.passes self
theorem refsEx_contains (X : String) : ∀ l : List Value, refsEx l = true → l.contains (.type X) = exT.contains (.type X) := by
  intro l
  induction l with
  | nil => intro e; exact absurd e (by decide)
  | cons a r ih =>
    intro e
    rcases refsEx_cases (a :: r) e with ⟨c, r', q, h⟩ | q
    · obtain ⟨rfl, rfl⟩ := List.cons.inj q
      rw [List.contains_cons, ih h]; rfl
    · rw [q]
theorem refsEx_ne {l : List Value} (e : refsEx l = true) : l.isEmpty = false := by
  cases l with
  | nil => exact absurd e (by decide)
  | cons _ _ => rfl
section
open Builtin Builtin.ObjectAttr PySem.W PySem.Calls PySem.HandSPX
variable {prog : Program} {w : World} {A : Around} {E : Value → Shared → Prop} {R : Result → Shared → Prop} {hp : Heap} {g : Array GenState} {d : Drawn} {t : Nat} {os : OsState}
/-- the walk of a store to the own dict -/
theorem osa_walk {K : W.Frag} {name : Str} {tk : Tok} {v : Value} {x C : Addr} {ox : Obj} {od : Option Obj} {cd : ClassData}
    (X : K.In hp) (I : W.InstAt hp x ox C od) (hcd : W.clsIn K C = some cd) (hm : refsEx cd.mro = true) (ha : W.findIn K (.ref C) name = some none)
    (hq : wpAny (model prog w) A.in1 (storeInOwnDict (.ref x) (.ref C) (.str name tk) name v false)
      (fun fin s' => match fin with | .done f => R (.ok f) s' | .again c' => c'.quiet = true ∧ codeAny (model prog w) A c' R s') (fun e s' => R (.error e) s') ⟨hp, g, d, t, os⟩) :
    codeAny (model prog w) A (.call (.builtin "object.__setattr__") ⟨[.ref x, .str name tk, v], []⟩) R ⟨hp, g, d, t, os⟩ := by
  have SF := F.store_object
  have ne := refsEx_ne hm
  have hob : cd.mro.contains (.type "object") = true := (refsEx_contains "object" _ hm).trans (by decide +kernel)
  have sub : W.Looks (model prog w) hp (isInstance (.ref x) (.type "object")) true := I.type.andThen (W.looks_mroIn X (by unfold W.mroIn; rw [hcd, Option.bind_some, if_neg (by rw [ne]; decide), hob]))
  refine codeAny_call_builtin SF.slot.plain SF.entry (@W.check_slot (model prog w) _ _ ⟨hp, g, d, t, os⟩ "object.__setattr__" "object" "__setattr__" (.ref x) [.str name tk, v] [] _ SF.kind SF.split sub (SF.args (.ref x) (.str name tk) v) ?_)
  have hmr : W.Looks (model prog w) hp (mroOf (.ref C)) cd.mro := (W.looks_clsIn X hcd).andThen .now
  have L3 : W.Looks (model prog w) hp (storeTaker? none) none := .now
  rw [W.osa_eq, refuse_eq]
  refine wpAny_bind (wpAny_bind (I.type.at (wpAny_bind (hmr.at ?_))))
  rw [refsEx_pass _ _ hm]
  refine wpAny_pure (wpAny_bind (I.type.at (wpAny_bind ((W.looks_findIn X ha).at (wpAny_bind (L3.at ?_))))))
  exact hq
theorem osaX_new {K : W.Frag} {name : Str} {tk : Tok} {v : Value} {x C : Addr} {fv : Array Value} {cd : ClassData}
    (X : K.In hp) (hx : hp.get? x = some { cls := .ref C, data := .fields fv }) (hcd : W.clsIn K C = some cd) (hm : refsEx cd.mro = true) (hh : cd.hasDict = true) (ha : W.findIn K (.ref C) name = some none)
    (hq : ∀ h' tk' dx, (∀ b o, b ≠ x → hp.get? b = some o → h'.get? b = some o) → hp.objs.size ≤ dx → dx ≠ x → h'.get? x = some { cls := .ref C, dict := some dx, data := .fields fv } →
      h'.Ns1 dx (fun y => if y = name then some v else none) → R (.ok (.ret .none)) ⟨h', g, d, tk', os⟩) :
    codeAny (model prog w) A (.call (.builtin "object.__setattr__") ⟨[.ref x, .str name tk, v], []⟩) R ⟨hp, g, d, t, os⟩ := by
  have I : W.InstAt hp x { cls := .ref C, data := .fields fv } C none := ⟨hx, rfl, rfl, trivial⟩
  have hxs : x ≠ hp.objs.size := Nat.ne_of_lt (Heap.lt_size hx)
  refine osa_walk X I hcd hm ha ?_
  have hcls : W.Looks (model prog w) hp (classData C) cd := W.looks_clsIn X hcd
  obtain ⟨nm, bs, mro, ns, qn, hd, sn, sb, ab, col, del⟩ := cd
  dsimp only at hh
  subst hh
  unfold storeInOwnDict ownDictForStores
  repeat (first | with_reducible refine HandSPX.store_in_new ?_ ?_ | with_reducible refine wpAny_loadPart_at hx ?_ | with_reducible refine hcls.at ?_ | wp_step)
  · exact ⟨_, #[], _, (Heap.get?_update_ne _ _ _ _ hxs.symm).trans (Heap.get?_push_at rfl rfl), rfl, fun e he => absurd he (by simp), fun _ => rfl⟩
  · intro h' tk' hn' hs
    have hx₁ : (hp.push { cls := .type "dict", data := .dict #[] }).get? x = some { cls := .ref C, data := .fields fv } := Heap.get?_push_of_some _ hx
    refine hq h' tk' hp.objs.size (fun b o hb ho => ?_) (Nat.le_refl _) hxs.symm ?_ hn'
    · exact (hs.2 b (Nat.ne_of_lt (Heap.lt_size ho))).trans ((Heap.get?_update_ne _ _ _ _ hb).trans (Heap.get?_push_of_some _ ho))
    · exact (hs.2 x hxs).trans (Heap.get?_update_self _ hx₁ rfl)
theorem osaX_old {K : W.Frag} {name : Str} {tk : Tok} {v : Value} {x C dx : Addr} {fv : Array Value} {cd : ClassData} {m0 : Str → Option Value} {nl : List Str}
    (X : K.In hp) (hx : hp.get? x = some { cls := .ref C, dict := some dx, data := .fields fv }) (hns : hp.Ns1 dx m0) (hw : Within m0 nl) (hz : nl.length ≤ 1000) (hcd : W.clsIn K C = some cd) (hm : refsEx cd.mro = true) (hh : cd.hasDict = true)
    (ha : W.findIn K (.ref C) name = some none)
    (hq : ∀ h' tk', (∀ b o, b ≠ dx → hp.get? b = some o → h'.get? b = some o) → h'.Ns1 dx (fun y => if y = name then some v else m0 y) → R (.ok (.ret .none)) ⟨h', g, d, tk', os⟩) :
    codeAny (model prog w) A (.call (.builtin "object.__setattr__") ⟨[.ref x, .str name tk, v], []⟩) R ⟨hp, g, d, t, os⟩ := by
  obtain ⟨oD, esD, epD, hoD, hdD, _⟩ := hns.count hw
  have I : W.InstAt hp x { cls := .ref C, dict := some dx, data := .fields fv } C (some oD) := ⟨hx, rfl, rfl, hoD⟩
  refine osa_walk X I hcd hm ha ?_
  have hcls : W.Looks (model prog w) hp (classData C) cd := W.looks_clsIn X hcd
  obtain ⟨nm, bs, mro, ns, qn, hd, sn, sb, ab, col, del⟩ := cd
  dsimp only at hh
  subst hh
  unfold storeInOwnDict ownDictForStores
  repeat (first | with_reducible refine PySem.ESX.store_in_old hns hw hz ?_ | with_reducible refine wpAny_loadPart_at hx ?_ | with_reducible refine hcls.at ?_ | wp_step)
  intro h' tk' hn' hs
  exact hq h' tk' (fun b o hb ho => (hs.2 b hb).trans ho) hn'
end
/-- what the written part says of the class -/
structure OexX (K : PySem.W.Frag) (C : Addr) : Prop where
  cls : ∃ nm q N bs bm sn sub ab col dd k0 k1 k2 k3 k5, K.lookup C = some (excClassObj nm q C N bs bm true sn sub ab col dd k0 k1 k2 k3 k5 "Exception.__new__") ∧ refsEx bm = true
  sa : PySem.W.findIn K (.ref C) "__setattr__" = some (some (.builtin "object.__setattr__"))
  exC : PySem.W.subIn K (.ref C) (.type "BaseException") = some true
  tyC : PySem.W.typeIn K (.ref C) = some (.type "type")
  kC : PySem.W.keepIn K (.ref C) = true
section
variable {X : Cx} {pins : List (Addr × Obj)} {σ : L2.St} {H : Hp} {s : Shared} {a C dx : Addr} {f : Str} {y : V} {u : Value} {fs : List (Str × V)} {Q : Unit → Shared → Prop} {E : Value → Shared → Prop} {A : Around}
/-- self.f = y, the first one -/
theorem ostX_new (T : OexX X.K C) (I : Inv X pins σ H s) (e : H a = some (exo a C none)) (hno : PySem.W.findIn X.K (.ref C) f = some none) (ry : RelV y u)
    (h : ∀ dx s', H dx = none → dx ≠ a → Inv X pins σ (upd (upd H dx (exd dx [(f, y)])) a (exo a C (some dx))) s' → Q () s') : wpAny (model X.prog X.w) A (setAttr (.ref a) f u) Q E s := by
  obtain ⟨nm, q, N, bs, bm, sn, sub, ab, col, dd, k0, k1, k2, k3, k5, hC, hbm⟩ := T.cls
  have hcl : PySem.W.clsIn X.K C = some { name := nm, bases := bs, mro := .ref C :: bm, ns := N, qualname := q, hasDict := true, slotNames := sn, subclasses := sub, abstract := ab, collection := col, hasDel := false } := by unfold PySem.W.clsIn; rw [hC] <;> rfl
  obtain ⟨t1, ho⟩ := exo_at I.hok e
  obtain ⟨hp, g, d, t, os⟩ := s
  refine PySem.W.set_plain I.kIn (ox := { cls := .ref C, dict := none, data := .fields #[.ref t1, .none, .none, .none, .bool false, .none] }) (od := none) ⟨ho, rfl, rfl, trivial⟩ T.sa ?_
  refine osaX_new I.kIn ho hcl (show refsEx (.ref C :: bm) = true from hbm) rfl hno (fun h' tk' dx k dn dne hx hn => ?_)
  have hnd : H dx = none := I.hok.fresh dn
  have nd : ∀ {b : Addr} {o : Obj}, hp.get? b = some o → b ≠ dx := fun {b o} q => Nat.ne_of_lt (Nat.lt_of_lt_of_le (Heap.lt_size q) dn)
  have na : ∀ {b : Addr}, H b = none → b ≠ a := fun {b} n z => by
    rw [z, e] at n
    cases n
  have Un1 : Un X.fs [] H (upd (upd H dx (exd dx [(f, y)])) a (exo a C (some dx))) hp h' := {
    keep := fun b o q n _ _ => k b o (na n) q
    slot := fun b o q n _ _ => ⟨o.slots, k b o (na n) q⟩
    free := fun b o q n _ => by rw [upd_ne (na n), upd_ne (nd q)]; exact n
    there := fun b o q _ => by
      by_cases hb : b = a
      · exact ⟨_, by rw [hb]; exact hx⟩
      · exact ⟨o, k b o hb q⟩
    tups := fun b xs q => by rw [upd_ne (at_ne e q exo_tup), upd_ne (ne_of_none q hnd)]; exact q
    frzs := fun b o v q => by rw [upd_ne (at_ne e q exo_frz), upd_ne (ne_of_none q hnd)]; exact q
    tbls := fun b ps q => ⟨#[], by rw [upd_ne (at_ne e q exo_tbl), upd_ne (ne_of_none q hnd), q]; simp⟩ }
  refine h dx _ hnd dne (I.un (t' := tk') Un1 fun b o q => ?_)
  by_cases hb : b = a
  · subst hb
    rw [upd_same] at q
    cases q
    exact exo_ok hx
  · rw [upd_ne hb] at q
    by_cases hd : b = dx
    · subst hd
      rw [upd_same] at q
      cases q
      exact exd_ok hn (relO_put (fs := []) ry fun g => True.intro)
    · rw [upd_ne hd] at q
      exact (I.hok b o q).stay (fun c v hc z => k c v (by
          rcases hc with hc | hc
          · rw [hc]
            exact hb
          · exact at_ne e hc exo_own) z)
        (fun c hc => by rw [upd_ne (at_ne e hc exo_own), upd_ne (ne_of_none hc hnd)]; exact hc) (fun c xs hc => by rw [upd_ne (at_ne e hc exo_tup), upd_ne (ne_of_none hc hnd)]; exact hc)
/-- self.f = y, a further one -/
theorem ostX_old (T : OexX X.K C) (I : Inv X pins σ H s) (e : H a = some (exo a C (some dx))) (ed : H dx = some (exd dx fs)) (hl : fs.length ≤ 900) (hno : PySem.W.findIn X.K (.ref C) f = some none) (ry : RelV y u)
    (h : ∀ s', Inv X pins σ (upd H dx (exd dx ((f, y) :: fs))) s' → Q () s') : wpAny (model X.prog X.w) A (setAttr (.ref a) f u) Q E s := by
  obtain ⟨nm, q, N, bs, bm, sn, sub, ab, col, dd, k0, k1, k2, k3, k5, hC, hbm⟩ := T.cls
  have hcl : PySem.W.clsIn X.K C = some { name := nm, bases := bs, mro := .ref C :: bm, ns := N, qualname := q, hasDict := true, slotNames := sn, subclasses := sub, abstract := ab, collection := col, hasDel := false } := by unfold PySem.W.clsIn; rw [hC] <;> rfl
  obtain ⟨t1, ho⟩ := exo_at I.hok e
  obtain ⟨mA, hns, rel⟩ := exd_at I.hok ed
  have hw := within_of rel
  obtain ⟨hp, g, d, t, os⟩ := s
  obtain ⟨oD, _, _, hoD, _, _⟩ := hns.count hw
  refine PySem.W.set_plain I.kIn (ox := { cls := .ref C, dict := some dx, data := .fields #[.ref t1, .none, .none, .none, .bool false, .none] }) (od := some oD) ⟨ho, rfl, rfl, hoD⟩ T.sa ?_
  refine osaX_old I.kIn ho hns hw (by rw [List.length_map]; omega) hcl (show refsEx (.ref C :: bm) = true from hbm) rfl hno (fun h' tk' k hn => ?_)
  have hd : ∃ o, h'.get? dx = some o := by
    obtain ⟨o, _, _, e', _⟩ := hn
    exact ⟨o, e'⟩
  exact h _ (I.write (t' := tk') (x := dx) (e := dx) (o := exd dx ((f, y) :: fs)) (by rw [ed]; exact True.intro) (.inl rfl) k hd (exd_ok hn (relO_put ry rel)))
end
/-- self.f = e -/
def tOstX (K : PySem.W.Frag) (f : Str) (to te : TE) : TS := fun D σ H => te σ H fun y H1 => to σ H1 fun x H2 => ∃ a C : Addr, x = .ref a ∧ OexX K C ∧ PySem.W.findIn K (.ref C) f = some none ∧
  ((H2 a = some (exo a C none) ∧ ∀ dx, H2 dx = none → dx ≠ a → D.nx σ (upd (upd H2 dx (exd dx [(f, y)])) a (exo a C (some dx)))) ∨
    ∃ (dx : Addr) (fs : List (Str × V)), H2 a = some (exo a C (some dx)) ∧ H2 dx = some (exd dx fs) ∧ fs.length ≤ 900 ∧ D.nx σ (upd H2 dx (exd dx ((f, y) :: fs))))
/-- C(e, ..), C's own __init__ keeping sp -/
def tMkX (C : Addr) (sp : Sp) (dvs : List V) (ta : TA) : L2.St → Hp → XK → Prop := fun σ H Q => ta σ H fun vs H1 => vs.length ≤ 1000 ∧ ∀ a, H1 a = none → sp (.ref a :: (vs ++ dvs)) (upd H1 a (exo a C none))
  (fun v H2 => v = .non ∧ ∃ (d : Addr) (fs : List (Str × V)), H2 a = some (exo a C (some d)) ∧ H2 d = some (exd d fs) ∧ H1 d = none ∧ Q (.ref C) (some d) (upd (del H2 a) d (.xd fs))) (fun _ _ _ => False)
section
variable {X : Cx} {o e : Expr} {es : List Expr} {to te : TE} {ta : TA} {f : Str} {p p' p1 p2 pos : Pos}
theorem ps_ostX (ho : PE X o to) (he : PE X e te) (hs : swapsWith e (some (.Attribute o f p')) pos.line X.env = pure false := by rfl) : PS X (.Assign [.Attribute o f p'] e pos) (tOstX X.K f to te) := by
  refine ⟨fun pins s σ H D I h => ?_⟩
  refine plainObj_wpAny_Assign_Attribute (thn (he.run pins s σ H _ I h) fun v s1 ⟨y, H1, I1, r1, q1⟩ => thn (ho.run pins s1 σ H1 _ I1 q1) fun u s2 ⟨x, H2, I2, r2, a, C, ex, T, hno, q⟩ => ?_) hs
  subst ex
  obtain rfl : u = Value.ref a := r2
  rcases q with ⟨ea, q⟩ | ⟨dx, fs, ea, ed, hl, q⟩
  · exact ostX_new T I2 ea hno r1 fun dx s' n ne J => ⟨σ, _, J, q dx n ne⟩
  · exact ostX_old T I2 ea ed hl hno r1 fun s' J => ⟨σ, _, J, q⟩
theorem pmk_exX {CX : CXT} {x : Str} {C fI : Addr} {k : Nat} {fd : FuncData} {ps : List Str} {sp : Sp} {ds : List Value} {dvs : List V} (T : OexX X.K C) (iC : PySem.W.findIn X.K (.ref C) "__init__" = some (some (.ref fI))) (tI : PySem.W.typeIn X.K (.ref fI) = some (.type "function"))
    (F1 : FnOk X.prog X.w X.K X.mg X.base CX k fI fd ps sp) (hr : Room (k + 1) X.A) (hb : Binds X.K fd ps ds) (hd : Vals dvs ds) (hx : Passes CX X (fun _ _ _ => False)) (hg : Gl X x) (hm : X.mg x = some (.ref C)) (ha : PA X (e :: es) ta)
    (hdb : (x == ("__debug__" : Str)) = false := by decide) (he : starEach (e :: es) X.env = (false, eval e X.env) :: starEach es X.env := by rfl) (hpl : (backTo pos (starEach es X.env)).any (·.1) = false := by rfl) :
    PMk X (.Call (.Name x p) (e :: es) [] pos) (tMkX C sp dvs ta) := by
  intro pins s σ H Q I h
  obtain ⟨nm, q, N, bs, bm, sn, sub, ab, col, dd, k0, k1, k2, k3, k5, hC, hbm⟩ := T.cls
  refine wpAny_Call_Name_kw (ld_glob I hg hm ?_ hdb)
  refine PySem.W.callWith_K (h₀ := X.base) I.ok.mod.kin T.kC (thn (ha.run pos pins s σ H _ I h) fun us s1 ⟨vs, H1, I1, r1, hz, q1⟩ => ⟨I1.kIn, ?_⟩) he hpl
  show wpAny _ _ (call (.ref C) us) _ _ _
  obtain ⟨hp, g, dr, tk, os⟩ := s1
  have hsz : hp.objs.size ≤ hp.objs.size + 1 := Nat.le_succ _
  have hn : H1 (hp.objs.size + 1) = none := I1.hok.fresh hsz
  have hq := q1 (hp.objs.size + 1) hn
  have kk : ∀ b o, hp.get? b = some o → ((hp.push (PySem.W.kdv_tup us)).push (PySem.HandSPX.excO C hp.objs.size)).get? b = some o := fun b o e => Heap.get?_push_of_some _ (Heap.get?_push_of_some _ e)
  have hget : ((hp.push (PySem.W.kdv_tup us)).push (PySem.HandSPX.excO C hp.objs.size)).get? (hp.objs.size + 1) = some (PySem.HandSPX.excO C hp.objs.size) := by heap_get
  have I2 : Inv X pins σ (upd H1 (hp.objs.size + 1) (exo (hp.objs.size + 1) C none)) ⟨(hp.push (PySem.W.kdv_tup us)).push (PySem.HandSPX.excO C hp.objs.size), g, dr, tk, os⟩ :=
    I1.laid (t' := tk) (a := hp.objs.size + 1) (o := exo (hp.objs.size + 1) C none) (h' := (hp.push (PySem.W.kdv_tup us)).push (PySem.HandSPX.excO C hp.objs.size)) kk hsz (exo_ok hget)
  have r2 : Vals (V.ref (hp.objs.size + 1) :: (vs ++ dvs)) (Value.ref (hp.objs.size + 1) :: (us ++ ds)) := .cons rfl (r1.append hd)
  have hl : (Value.ref (hp.objs.size + 1) :: us ++ ds).length = ps.length := by
    have e := r2.length
    rw [F1.len _ _ _ _ hq] at e
    exact e.symm
  have hus : us.length ≤ sizeLine := by
    rw [← Paired.length r1, sizeLine_eq]
    omega
  refine wpAny_call (PySem.HandSPX.call_own F.excBase_Exception (fun Y => refsEx_contains Y bm hbm) (I1.kIn _ _ hC) (PySem.W.looks_findIn I1.kIn iC) (fun self => PySem.W.bind_fn I1.kIn self tI) hus
    (codeAny_mono (F1.run _ X.stack _ _ ⟨Value.ref (hp.objs.size + 1) :: us, []⟩ (Value.ref (hp.objs.size + 1) :: (us ++ ds)) _ _ (fun _ _ _ => False) (hr.make C us []) (I2.env0.make C us []) (hb _ (Value.ref (hp.objs.size + 1) :: us) I2.kIn hl) r2 hq) fun r s' hq' => ?_))
  cases r with
  | error er => exact hx pins σ _ _ er s' I2 hq'
  | ok fl =>
    cases fl with
    | ret u =>
      obtain ⟨v, H2, os2, bare2, un2, hok2, rv, ev, d, fs, ea, ed, hd1, q2⟩ := hq'
      subst ev
      obtain ⟨h2, g2, d2, t2, os'⟩ := s'
      exact ⟨rv, mk_end (raises_own T.exC T.tyC) I1 hsz kk un2 hok2 os2 bare2 ea ed hd1 q2⟩
    | next => exact False.elim hq'
    | brk => exact False.elim hq'
    | cont => exact False.elim hq'
end
end Ev
end

section
set_option Elab.async false
set_option linter.all false
set_option maxRecDepth 100000
/-! What is promised of an outcome; the context. -/
namespace Ev
open PySem PySem.Spec PyProof.Rows L2

/-- what follows an outcome: behind a value Q, behind an error the wish W -/
def Post {α β : Type} (T : Tb) (W : WX) (R : Wd → α → β → Prop) (w : Wd) (σ : L2.St) (r : Rs α) (Q : β → Hp → Prop) : Prop :=
  match r with
  | .ok d A => ∀ w' v, Ext w w' → Abs T w' A → R w' d v → Q v w'.H
  | .ex c fs A => ∀ w' dx ws, Ext w w' → Abs T w' A → w'.H dx = some (.xd ws) → RFs T w' fs ws → W (.ref (T.xad c)) (some dx) σ w'.H
  | .no => False
section
variable {α β γ δ : Type} {T : Tb} {W : WX} {R : Wd → α → β → Prop} {R' : Wd → γ → δ → Prop} {w w1 : Wd} {σ : L2.St}
theorem Post.mono {r : Rs α} {Q Q' : β → Hp → Prop} (h : Post T W R w σ r Q) (k : ∀ v H, Q v H → Q' v H) : Post T W R w σ r Q' := by
  cases r with
  | ok d A => exact fun w' v e a q => k _ _ (h w' v e a q)
  | ex c fs A => exact h
  | no => exact h
theorem Post.later {r : Rs α} {Q : β → Hp → Prop} (e : Ext w w1) (h : Post T W R w σ r Q) : Post T W R w1 σ r Q := by
  cases r with
  | ok d A => exact fun w' v e' a q => h w' v (e.trans e') a q
  | ex c fs A => exact fun w' dx ws e' a q x => h w' dx ws (e.trans e') a q x
  | no => exact h
theorem Post.bind {r : Rs α} {f : α → AH → Rs γ} {Q : δ → Hp → Prop} {Q' : β → Hp → Prop} (h : Post T W R' w σ (bindR r f) Q)
    (k : ∀ w1 d v A, Ext w w1 → Abs T w1 A → R w1 d v → r = .ok d A → Post T W R' w1 σ (f d A) Q → Q' v w1.H) : Post T W R w σ r Q' := by
  cases r with
  | ok d A => exact fun w' v e a q => k w' d v A e a q rfl (h.later e)
  | ex c fs A => exact h
  | no => exact h
/-- the state behind, as it is -/
theorem Post.now {d : α} {A : AH} {v : β} {Q : β → Hp → Prop} (h : Post T W R w σ (.ok d A) Q) (a : Abs T w A) (r : R w d v) : Q v w.H := h w v (Ext.refl w) a r
theorem Post.lift {o : Option α} {A : AH} {Q : β → Hp → Prop} (h : Post T W R w σ (liftR o A) Q) : ∃ d, o = some d ∧ Post T W R w σ (.ok d A) Q := by
  cases o with
  | some d => exact ⟨d, rfl, h⟩
  | none => exact h.elim
theorem Post.liftH {o : Option (α × AH)} {Q : β → Hp → Prop} (h : Post T W R w σ (liftH o) Q) : ∃ d A, o = some (d, A) ∧ Post T W R w σ (.ok d A) Q := by
  cases o with
  | some p => obtain ⟨d, A⟩ := p; exact ⟨d, A, rfl, h⟩
  | none => exact h.elim
end
def RB (_ : Wd) (a b : Bool) : Prop := a = b
def RI (_ : Wd) (a b : Option Int) : Prop := a = b
def RU (_ : Wd) (_ : α) (_ : β) : Prop := True

section
variable (T : Tb) (W : WX)
/-- the reading of something that hands back an outcome -/
def tR {α β : Type} (R : Wd → α → β → Prop) (f : Sl → AH → Rs α) : L2.St → Hp → (β → Hp → Prop) → Prop := fun σ H Q =>
  ∃ (w : Wd) (σa : Sl) (A : AH), w.H = H ∧ Abs T w A ∧ RS T w σa σ ∧ Post T W R w σ (f σa A) Q
abbrev tE (f : Sl → AH → Rs D) : TE := tR T W (RD T) f
abbrev tT (f : Sl → AH → Rs Bool) : TT := tR T W RB f
abbrev tA (f : Sl → AH → Rs (List D)) : TA := tR T W (RDs T) f
abbrev tP (f : Sl → AH → Rs (Option Int)) : TO := tR T W RI f
end
theorem pe_imp {X : Cx} {e : Expr} {t t' : TE} (h : PE X e t) (k : ∀ σ H Q, t' σ H Q → t σ H Q) : PE X e t' := ⟨fun pins s σ H Q I q => h.run pins s σ H Q I (k σ H Q q)⟩
theorem pt_imp {X : Cx} {e : Expr} {t t' : TT} (h : PT X e t) (k : ∀ σ H Q, t' σ H Q → t σ H Q) : PT X e t' := ⟨fun pins s σ H Q I q => h.run pins s σ H Q I (k σ H Q q)⟩
theorem pw_imp {X : Cx} {e : Expr} {t t' : TT} (h : PW X e t) (k : ∀ σ H Q, t' σ H Q → t σ H Q) : PW X e t' := ⟨fun wh pins s σ H Q I q => h.run wh pins s σ H Q I (k σ H Q q)⟩
theorem pa_imp {X : Cx} {e : List Expr} {t t' : TA} (h : PA X e t) (k : ∀ σ H Q, t' σ H Q → t σ H Q) : PA X e t' := ⟨fun pos pins s σ H Q I q => h.run pos pins s σ H Q I (k σ H Q q)⟩
theorem pe_orE {X : Cx} {e : Expr} {t t' : TE} (h : PE X e t) (h' : PE X e t') : PE X e (fun σ H Q => t σ H Q ∨ t' σ H Q) := ⟨fun pins s σ H Q I q => q.elim (h.run pins s σ H Q I) (h'.run pins s σ H Q I)⟩

/-! ### names of the text, the checker -/
structure Nm where
  fns : List (Option Nat × Str)
  par : List (List Str)
  cls : List Str
  glob : List Str
  fld : List Str
  exc : List (Str × List Nat)
  isx : List (Str × List Nat) := []
  base : List Str := []

def visB (sc : Scope) (x : Str) : Bool := match sc.names.lookup x with
  | some .local => true
  | some .cell => true
  | some .free => true
  | _ => false
def glB (sc : Scope) (x : Str) : Bool := decide (sc.names.lookup x = some .globalImplicit) && !(x == ("__debug__" : Str))
def isStar : Expr → Bool
  | .Starred _ _ => true
  | _ => false
def cpB : Cp → CmpOp → Bool
  | .eq, .Eq => true
  | .ne, .NotEq => true
  | .lt, .Lt => true
  | .le, .LtE => true
  | .gt, .Gt => true
  | .ge, .GtE => true
  | .inn, .In => true
  | .nin, .NotIn => true
  | _, _ => false
def opB : Op → Operator → Bool
  | .add, .Add => true
  | .sub, .Sub => true
  | .mul, .Mult => true
  | .fdiv, .FloorDiv => true
  | .mod, .Mod => true
  | .pow, .Pow => true
  | _, _ => false
def tyN : Ty → Str
  | .int => "int"
  | .str => "str"
  | .bool => "bool"
  | .tuple => "tuple"
  | .list => "list"
def notSet : Expr → Bool
  | .Set _ _ _ => false
  | _ => true
def plainE : Expr → Bool
  | .Set _ _ _ => false
  | .Starred _ _ => false
  | .Slice _ _ _ _ => false
  | _ => true
/-- no 'super()' stands there -/
def notSuper : Expr → Bool
  | .Call (.Name _ _) [] [] _ => false
  | _ => true
def tyB (sc : Scope) : List Ty → List Expr → Bool
  | [], [] => true
  | t :: ts, .Name x _ :: r => decide (x = tyN t) && glB sc x && tyB sc ts r
  | _, _ => false
def isiB (sc : Scope) (ts : List Ty) : Expr → Bool
  | .Tuple ys _ _ => tyB sc ts ys && decide (ys.length ≤ 1000)
  | t => decide (ts.length = 1) && tyB sc ts [t]
def biN : Bi → Option Str
  | .len => some "len"
  | .toInt => some "int"
  | .toStr => some "str"
  | .ord => some "ord"
  | .all => some "all"
  | .any => some "any"
  | .tuple => some "tuple"
  | .list _ => some "list"
  | _ => none
mutual
def chkTN (fb : Str → Bool) (N : List Str) (sc : Scope) : TN → Expr → Bool
  | .nm i, .Name x _ => decide (N[i]? = some x) && (decide (sc.names.lookup x = some .local) || (decide (sc.names.lookup x = some .cell) && fb x))
  | .tp t, .Tuple es _ _ => chkTNs fb N sc t es
  | _, _ => false
def chkTNs (fb : Str → Bool) (N : List Str) (sc : Scope) : TN → List Expr → Bool
  | .nil, [] => true
  | .cons t u, e :: es => chkTN fb N sc t e && chkTNs fb N sc u es
  | _, _ => false
end
end Ev
namespace Ev
open PySem PySem.Spec PyProof.Rows L2
section
variable (nm : Nm) (N : List Str)
/-- a constant -/
def conC : D → Const → Bool
  | .non, .none => true
  | .bl b, .bool c => b == c
  | .int i, .int j => decide (i = j)
  | .str s, .str x => decide (x = sT s)
  | _, _ => false
def conB (d : D) : Expr → Bool
  | .Constant c _ _ => conC d c
  | _ => false
def kD : DK → D
  | .inl i => .int i
  | .inr s => .str s
def dlB : List (DK × D) → List (Option Expr) → List Expr → Bool
  | [], [], [] => true
  | (k, d) :: r, some e :: ks, v :: vs => conB (kD k) e && conB d v && dlB r ks vs
  | _, _, _ => false
/-- a written text -/
def litB (s : Tx) : Expr → Bool
  | .Constant (.str x) _ _ => decide (x = sT s)
  | _ => false
/-- the two texts of such a replacement -/
def dblB (c : Nat) : List Expr → Bool
  | [.Constant (.str y) _ _, .Constant (.str z) _ _] => decide (y = ⟨#[c]⟩) && decide (z = ⟨#[c, c]⟩)
  | _ => false
theorem dblB_inv {c : Nat} {as : List Expr} (h : dblB c as = true) : ∃ ja pa jb pb, as = [.Constant (.str ⟨#[c]⟩) ja pa, .Constant (.str ⟨#[c, c]⟩) jb pb] := by
  unfold dblB at h
  split at h
  · rw [Bool.and_eq_true] at h
    have h1 := of_decide_eq_true h.1
    have h2 := of_decide_eq_true h.2
    subst h1 h2
    exact ⟨_, _, _, _, rfl⟩
  · cases h
def gen1B : List Comprehension → Bool
  | [g] => decide (g.is_async = 0)
  | _ => false
/-- a token is out behind it -/
def bumpy : E → Expr → Bool
  | .idx _ _, .Subscript _ (.Constant (.int _) _ _) _ => true
  | .bm (.dbl _) _ .nil, _ => true
  | _, _ => false
/-- one parameter, or two, in any order -/
def permB : List Nat → List Nat → Bool
  | [a], [b] => decide (a = b)
  | [a, b], [c, d] => decide (a ≠ b) && ((decide (a = c) && decide (b = d)) || (decide (a = d) && decide (b = c)))
  | _, _ => false
mutual
def chk : Scope → E → Expr → Bool
  | sc, .var i, .Name x _ => decide (N[i]? = some x) && visB sc x && !(x == ("__debug__" : Str)) && !(x == ("__classdict__" : Str))
  | _, .con .non, .Constant .none _ _ => true
  | _, .con (.bl b), .Constant (.bool c) _ _ => b == c
  | _, .con (.int i), .Constant (.int j) _ _ => decide (i = j)
  | _, .con (.str s), .Constant (.str x) _ _ => decide (x = sT s)
  | sc, .glo i, .Name x _ => decide (nm.glob[i]? = some x) && glB sc x
  | sc, .tup es, .Tuple xs _ _ => chks sc es xs && decide (xs.length ≤ 1000)
  | sc, .lst _ es, .List xs _ => chks sc es xs && decide (xs.length ≤ 1000)
  | _, .dnew, .Dict [] [] _ => true
  | _, .dlit kvs, .Dict ks vs _ => dlB kvs ks vs && !kvs.isEmpty && decide (kvs.length ≤ 15)
  | sc, .bin o a b, .BinOp l op r _ => opB o op && chk sc a l && chk sc b r
  | sc, .cat _ a b, .BinOp l .Add r _ => chk sc a l && chk sc b r
  | sc, .neg a, .UnaryOp .USub x _ => chk sc a x
  | sc, .cmp o a b, .Compare l [op] [r] _ => cpB o op && plainE r && chk sc a l && chk sc b r
  | sc, .isn n a, .Compare l [op] [.Constant .none _ _] _ => decide (op = if n then CmpOp.IsNot else CmpOp.Is) && chk sc a l
  | sc, .chain o p a b c, .Compare l [op, oq] [m, r] _ => cpB o op && cpB p oq && plainE m && plainE r && chk sc a l && chk sc b m && chk sc c r
  | sc, .and es, .BoolOp .And xs _ => chks sc es xs
  | sc, .or es, .BoolOp .Or xs _ => chks sc es xs
  | sc, .not a, .UnaryOp .Not x _ => chk sc a x
  | sc, .ite c a b, .IfExp t x y _ => chk sc c t && chk sc a x && chk sc b y
  | sc, .idx a i, .Subscript x y _ => plainE y && chk sc a x && chk sc i y
  | sc, .slc _ a lo hi, .Subscript x (.Slice l h none _) _ => chk sc a x && chkO sc lo l && chkO sc hi h
  | sc, .att a f, .Attribute x n _ => decide (nm.fld[f]? = some n) && chk sc a x && notSuper x
  | sc, .call f es, .Call (.Name x _) xs [] _ => decide (nm.fns[f]? = some (none, x)) && glB sc x && chks sc es xs
  | sc, .call f es, .Call (.Name x _) [] (kw :: kws) _ => decide (nm.fns[f]? = some (none, x)) && glB sc x && decide ((nm.par[f]?).map (·.map some) = some ((kw :: kws).map (·.arg))) && chks sc es ((kw :: kws).map (·.value))
  | sc, .mth c f o es, .Call (.Attribute x m p) xs [] q => decide (nm.fns[f]? = some (some c, m)) && chk sc o x && chks sc es xs && notSuper x && (p.endLine == q.line) && decide (xs.length ≤ 20)
  | sc, .mak c es, .Call (.Name x _) xs [] _ => decide (nm.cls[c]? = some x) && glB sc x && chks sc es xs
  | sc, .bi (.isi ts) es, .Call (.Name x _) [a, t] [] _ => decide (x = "isinstance") && glB sc x && chks sc es [a] && isiB sc ts t
  | sc, .bi .lenSet es, .Call (.Name x _) [.Call (.Name y _) [a] [] _] [] _ => decide (x = "len") && decide (y = "set") && glB sc x && glB sc y && chks sc es [a]
  | sc, .bi b es, .Call (.Name x _) [a] [] _ => decide (biN b = some x) && glB sc x && chks sc es [a]
  | sc, .bm .append o es, .Call (.Attribute x m p) [a] [] q => decide (m = "append") && chk sc o x && chks sc es [a] && notSuper x && (p.endLine == q.line)
  | sc, .bm .pop o es, .Call (.Attribute x m p) [] [] q => decide (m = "pop") && chk sc o x && chks sc es [] && notSuper x && (p.endLine == q.line)
  | sc, .bm .join o es, .Call (.Attribute x m p) [a] [] q => decide (m = "join") && chk sc o x && chks sc es [a] && notSuper x && (p.endLine == q.line)
  | sc, .bm (.dbl c) o .nil, .Call (.Attribute x m p) as [] q => decide (m = "replace") && dblB c as && bumpy o x && chk sc o x && notSuper x && (p.endLine == q.line)
  | sc, .comp _ own t k src tst elt, .ListComp e gens scope _ => gen1B gens && (match gens with
    | [⟨tg, it, ifs, _⟩] =>
      blkC N sc scope (own.filterMap fun i => (N[i]?).map fun x => (x, i)) && (own.all fun i => decide (i < N.length)) && t.inn own && chkTN (fun x => scope.names.lookup x == some .cell) N (relS scope sc) t tg && chkI sc k src it && (match ifs with
      | [] => noTest tst
      | [c] => !noTest tst && chk (relS scope sc) tst c
      | _ => false) && chk (relS scope sc) elt e
    | _ => false)
  | sc, .mkx c fs ks es, .Call (.Name x _) (y :: xs) [] _ => decide (nm.exc[c]? = some (x, fs)) && decide (ks = fs) && glB sc x && permB fs fs && chks sc es (y :: xs)
  | sc, .mkx c fs ks es, .Call (.Name x _) [] (kw :: kws) _ => decide (nm.exc[c]? = some (x, fs)) && decide (ks.map (fun i => nm.fld[i]?) = (kw :: kws).map (·.arg)) && glB sc x && permB fs ks && (ks.all fun i => decide (i < nm.fld.length)) && chks sc es ((kw :: kws).map (·.value))
  | sc, .isx i ts a, .Call (.Name x _) [e, .Name y _] [] _ => decide (x = "isinstance") && glB sc x && decide (nm.isx[i]? = some (y, ts)) && glB sc y && chk sc a e && plainE e && decide (y ≠ ("__name__" : Str))
  | _, _, _ => false
def chks : Scope → E → List Expr → Bool
  | _, .nil, [] => true
  | sc, .cons e es, x :: xs => plainE x && chk sc e x && chks sc es xs
  | _, _, _ => false
def chkO : Scope → E → Option Expr → Bool
  | _, .nil, none => true
  | sc, .cons e _, some x => chk sc e x
  | _, _, _ => false
def chkI : Scope → SK → E → Expr → Bool
  | sc, .val, .cons e .nil, x => plainE x && chk sc e x
  | sc, .rng, .cons e es, .Call (.Name y _) (x :: xs) [] _ => decide (y = "range") && glB sc y && plainE x && chk sc e x && chks sc es xs && decide (xs.length ≤ 1)
  | _, _, _, _ => false
end
end
end Ev
end

section
set_option Elab.async false
set_option linter.all false
set_option maxRecDepth 100000
/-! Own exception classes: the walk of __init__, the raise. -/
namespace Ev
open PySem PySem.Spec PyProof.Rows L2
/-- self.p = p, one behind another; slot i + 1 is p's -/
def xBody (s : Str) : List Str → List Stmt → Bool
  | [], [] => true
  | p :: ps, .Assign [.Attribute (.Name y _) f _] (.Name v _) _ :: r => decide (y = s) && decide (f = p) && decide (v = p) && xBody s ps r
  | _, _ => false
/-- the reading of such a body, from the slot m on -/
def tXB (K : PySem.W.Frag) (m : Nat) (ps : List Str) : TS := fun D σ H => ∃ (a C : Addr) (ys : List V), σ[0]? = some (some (V.ref a)) ∧ OexX K C ∧ (∀ p ∈ ps, PySem.W.findIn K (.ref C) p = some none) ∧ ys.length = ps.length ∧
  (∀ i y, ys[i]? = some y → σ[m + i]? = some (some y)) ∧
  ((H a = some (exo a C none) ∧ ps ≠ [] ∧ ps.length ≤ 900 ∧ ∀ dx, H dx = none → dx ≠ a → D.nx σ (upd (upd H dx (exd dx (ps.zip ys).reverse)) a (exo a C (some dx)))) ∨
    ∃ (dx : Addr) (fs : List (Str × V)), H a = some (exo a C (some dx)) ∧ H dx = some (exd dx fs) ∧ dx ≠ a ∧ fs.length + ps.length ≤ 900 ∧ D.nx σ (upd H dx (exd dx ((ps.zip ys).reverse ++ fs))))
theorem upd_ii {H : Hp} {a : Addr} {o : HO} (h : H a = some o) : upd H a o = H := by
  funext b
  by_cases e : b = a
  · rw [e, upd_same, h]
  · rw [upd_ne e]
theorem upd_uu {H : Hp} {a : Addr} {o u : HO} : upd (upd H a o) a u = upd H a u := by
  funext b
  by_cases e : b = a
  · rw [e, upd_same, upd_same]
  · rw [upd_ne e, upd_ne e, upd_ne e]
theorem upd_cc {H : Hp} {a b : Addr} {o u : HO} (h : a ≠ b) : upd (upd H a o) b u = upd (upd H b u) a o := by
  funext c
  by_cases e : c = b
  · subst e
    rw [upd_same, upd_ne (Ne.symm h), upd_same]
  · rw [upd_ne e]
    by_cases q : c = a
    · rw [q, upd_same, upd_same]
    · rw [upd_ne q, upd_ne q, upd_ne e]
theorem pss_of {X : Cx} {st : List Stmt} {t t' : TS} (h : PSs X st t) (k : ∀ D σ H, t' D σ H → t D σ H) : PSs X st t' := ⟨fun pins s σ H D I q => h.run pins s σ H D I (k D σ H q)⟩
theorem xBody_cons {s p : Str} {ps : List Str} {st : Stmt} {r : List Stmt} (h : xBody s (p :: ps) (st :: r) = true) : ∃ p1 p2 p3 p4, st = .Assign [.Attribute (.Name s p1) p p2] (.Name p p3) p4 ∧ xBody s ps r = true := by
  unfold xBody at h
  split at h
  · rename_i e _; cases e
  · rename_i e1 e2
    cases e1; cases e2
    simp only [Bool.and_eq_true, decide_eq_true_eq] at h
    obtain ⟨⟨⟨h1, h2⟩, h3⟩, h4⟩ := h
    subst h1 h2
    subst h3
    exact ⟨_, _, _, _, rfl, h4⟩
  · cases h
theorem xb_ok {X : Cx} {s : Str} (h0 : X.N[0]? = some s) (hs : Vis X.env.scope s ∧ (s == ("__debug__" : Str)) = false ∧ (s == ("__classdict__" : Str)) = false) :
    ∀ (ps : List Str) (m : Nat) (body : List Stmt), xBody s ps body = true → (∀ i p, ps[i]? = some p → X.N[m + i]? = some p ∧ Vis X.env.scope p ∧ (p == ("__debug__" : Str)) = false ∧ (p == ("__classdict__" : Str)) = false) →
      PSs X body (tXB X.K m ps) := by
  intro ps
  induction ps with
  | nil =>
    intro m body hb _
    cases body with
    | cons st r => cases hb
    | nil =>
      refine pss_of pss_nil fun D σ H ⟨a, C, ys, e0, T, hno, hl, hy, h⟩ => ?_
      rcases h with ⟨_, h, _⟩ | ⟨dx, fs, e1, e2, _, _, h⟩
      · exact absurd rfl h
      · have : ys = [] := List.eq_nil_of_length_eq_zero (by simpa using hl)
        subst this
        have h : D.nx σ (upd H dx (exd dx fs)) := h
        rw [upd_ii e2] at h
        exact h
  | cons p ps ih =>
    intro m body hb hN
    cases body with
    | nil => cases hb
    | cons st r =>
      obtain ⟨p1, p2, p3, p4, rfl, h4⟩ := xBody_cons hb
      obtain ⟨n1, n2, n3, n4⟩ := hN 0 _ rfl
      have rest := ih (m + 1) r h4 fun i q hq => by
        have := hN (i + 1) q hq
        rwa [show m + (i + 1) = m + 1 + i by omega] at this
      refine pss_of (pss_cons (ps_ostX (f := p) (pe_var h0 hs.1 hs.2.1 hs.2.2) (pe_var n1 n2 n3 n4)) rest) fun D σ H ⟨a, C, ys, e0, T, hno, hl, hy, h⟩ => ?_
      cases ys with
      | nil => cases hl
      | cons y ys =>
        have hl : ys.length = ps.length := by simpa using hl
        have hy0 : σ[m + 0]? = some (some y) := hy 0 y rfl
        have hyr : ∀ i z, ys[i]? = some z → σ[m + 1 + i]? = some (some z) := fun i z q => by
          have := hy (i + 1) z q
          rwa [show m + (i + 1) = m + 1 + i by omega] at this
        refine ⟨y, hy0, ⟨V.ref a, e0, a, C, rfl, T, hno p List.mem_cons_self, ?_⟩⟩
        rcases h with ⟨e1, _, hl9, h⟩ | ⟨dx, fs, e1, e2, ne, hl9, h⟩
        · have hl9 : ps.length + 1 ≤ 900 := by simpa using hl9
          refine .inl ⟨e1, fun dx n ne => ?_⟩
          refine ⟨a, C, ys, e0, T, fun q hq => hno q (List.mem_cons_of_mem _ hq), hl, hyr, .inr ⟨dx, [(p, y)], upd_same, by rw [upd_ne ne, upd_same], ne, by simp; omega, ?_⟩⟩
          have := h dx n ne
          rw [upd_cc (Ne.symm ne), upd_uu]
          have e : ((p :: ps).zip (y :: ys)).reverse = (ps.zip ys).reverse ++ [(p, y)] := by simp
          rw [e] at this
          exact this
        · have hl9 : fs.length + (ps.length + 1) ≤ 900 := by simpa using hl9
          refine .inr ⟨dx, fs, e1, e2, by omega, ?_⟩
          refine ⟨a, C, ys, e0, T, fun q hq => hno q (List.mem_cons_of_mem _ hq), hl, hyr, .inr ⟨dx, (p, y) :: fs, by rw [upd_ne (Ne.symm ne)]; exact e1, upd_same, ne, by simp; omega, ?_⟩⟩
          rw [upd_uu]
          have e : ((p :: ps).zip (y :: ys)).reverse ++ fs = (ps.zip ys).reverse ++ (p, y) :: fs := by simp
          rw [e] at h
          exact h
/-- the promise of such an __init__ -/
def spX (K : PySem.W.Frag) (C : Addr) (ps : List Str) : Sp := fun vs H Q _ => ∃ (a : Addr) (ys : List V), vs = V.ref a :: ys ∧ ys.length = ps.length ∧ H a = some (exo a C none) ∧
  ∀ dx, H dx = none → dx ≠ a → Q .non (upd (upd H dx (exd dx (ps.zip ys).reverse)) a (exo a C (some dx)))
theorem xinit_ok {prog : Program} {w : World} {K : PySem.W.Frag} {mg : Str → Option Value} {base : Heap} {CX : CXT} {C : Addr} {x qual s : Str} {params : Arguments} {body : List Stmt} {scope : Scope} {f : Addr} {fd : FuncData} {ps : List Str} {k : Nat}
    (F : FunD K x qual params body scope [] [] f fd) (S : FnScope (s :: ps) (s :: ps) scope) (T : OexX K C) (hno : ∀ p ∈ ps, PySem.W.findIn K (.ref C) p = some none) (hb : xBody s ps body = true) (hne : ps ≠ []) (hl : ps.length ≤ 900)
    (hv : ∀ p ∈ s :: ps, visB scope p = true ∧ (p == ("__debug__" : Str)) = false ∧ (p == ("__classdict__" : Str)) = false) : FnOk prog w K mg base CX (k + 1) f fd (s :: ps) (spX K C ps) := by
  refine F.ok S (fun vs H Q E ⟨a, ys, e, hl, _⟩ => by rw [e]; simp [hl]) fun cdv A outer st H vs Q E hr ⟨a, ys, e, hly, ea, hq⟩ => ?_
  have vis : ∀ p, visB scope p = true → Vis scope p := fun x h => by
    unfold visB at h
    split at h
    · exact .inl (by assumption)
    · exact .inr (.inl (by assumption))
    · exact .inr (.inr (by assumption))
    · cases h
  subst e
  refine ⟨_, xb_ok (X := cxOf CX prog w K mg base (s :: ps) qual scope f cdv A outer st H E) (s := s) rfl ?_ ps 1 body hb fun i p hp => ?_, ?_⟩
  · obtain ⟨v1, v2, v3⟩ := hv s List.mem_cons_self
    exact ⟨vis _ v1, v2, v3⟩
  · obtain ⟨v1, v2, v3⟩ := hv p (List.mem_cons_of_mem _ (List.mem_of_getElem? hp))
    exact ⟨by rw [Nat.add_comm]; exact hp, vis _ v1, v2, v3⟩
  · have hst : L2.start (s :: ps) (V.ref a :: ys) = some (V.ref a) :: ys.map some := by
      unfold L2.start
      simp [hly]
    refine ⟨a, C, ys, by rw [hst]; rfl, T, hno, hly, fun i y hy => ?_, .inl ⟨ea, hne, hl, hq⟩⟩
    rw [hst, Nat.add_comm]
    show (ys.map some)[i]? = _
    rw [List.getElem?_map, hy]; rfl
/-- the parameters by name: in their order, two the other way round -/
def KwB (fd : FuncData) (s : Str) (ps : List Str) : Prop := (∀ (s' : Shared) (u : Value) (ws : List Value), ws.length = ps.length → BindsTo s' fd ⟨[u], ps.zip ws⟩ ((s :: ps).zip (u :: ws))) ∧
  ∀ a b : Str, ps = [a, b] → ∀ (s' : Shared) (u x y : Value), BindsTo s' fd ⟨[u], [(b, x), (a, y)]⟩ [(s, u), (a, y), (b, x)]
/-- the class, as its raise needs it -/
structure XcOk (X : Cx) (x : Str) (C : Addr) (ps : List Str) (k : Nat) : Prop where
  ox : OexX X.K C
  mg : X.mg x = some (.ref C)
  ini : ∃ (fI : Addr) (fd : FuncData) (s : Str), PySem.W.findIn X.K (.ref C) "__init__" = some (some (.ref fI)) ∧ PySem.W.typeIn X.K (.ref fI) = some (.type "function") ∧ FnOk X.prog X.w X.K X.mg X.base (L2.CX X.prog X.w) k fI fd (s :: ps) (spX X.K C ps) ∧ Binds X.K fd (s :: ps) [] ∧ KwB fd s ps
/-- the class, as the head tells of it -/
structure XcHd (K : PySem.W.Frag) (mg : Str → Option Value) (x : Str) (C : Addr) (ps : List Str) : Prop where
  ox : OexX K C
  mg : mg x = some (.ref C)
  ini : ∃ (fI : Addr) (fd : FuncData) (s y qual : Str) (params : Arguments) (body : List Stmt) (scope : Scope), PySem.W.findIn K (.ref C) "__init__" = some (some (.ref fI)) ∧ PySem.W.typeIn K (.ref fI) = some (.type "function") ∧
    FunD K y qual params body scope [] [] fI fd ∧ FnScope (s :: ps) (s :: ps) scope ∧ (∀ p ∈ ps, PySem.W.findIn K (.ref C) p = some none) ∧ xBody s ps body = true ∧ ps ≠ [] ∧ ps.length ≤ 900 ∧
    (∀ p ∈ s :: ps, visB scope p = true ∧ (p == ("__debug__" : Str)) = false ∧ (p == ("__classdict__" : Str)) = false) ∧ Binds K fd (s :: ps) [] ∧ KwB fd s ps
theorem XcHd.ok {X : Cx} {K : PySem.W.Frag} {mg : Str → Option Value} {x : Str} {C : Addr} {ps : List Str} (h : XcHd K mg x C ps) (hK : X.K = K) (hm : X.mg = mg) : XcOk X x C ps 1 := by
  subst hK hm
  obtain ⟨fI, fd, s, y, qual, params, body, scope, h1, h2, h3, h4, h5, h6, h7, h8, h9, h10, h11⟩ := h.ini
  exact ⟨h.ox, h.mg, fI, fd, s, h1, h2, xinit_ok h3 h4 h.ox h5 h6 h7 h8 h9, h10, h11⟩
theorem ps_raiseX {X : Cx} {W : WX} {x : Str} {C : Addr} {ps : List Str} {k : Nat} {e : Expr} {es : List Expr} {ta : TA} {p q pos : Pos} (hc : X.calm = true) (tk : Takes X W) (T : XcOk X x C ps k) (hr : Room (k + 1) X.A) (hg : Gl X x) (hdb : (x == ("__debug__" : Str)) = false)
    (ha : PA X (e :: es) ta) (he : starEach (e :: es) X.env = (false, eval e X.env) :: starEach es X.env) (hpl : (backTo q (starEach es X.env)).any (·.1) = false) :
    PS X (.Raise (some (.Call (.Name x p) (e :: es) [] q)) none pos) (fun _ σ H => tMkX C (spX X.K C ps) [] ta σ H fun cls d H' => W cls d σ H') := by
  obtain ⟨fI, fd, s, i1, i2, i3, i4, _⟩ := T.ini
  exact ps_raise hc tk (pmk_exX (dvs := []) T.ox i1 i2 i3 hr i4 .nil (passes_call tk fun _ _ _ _ z => z.elim) hg T.mg ha hdb he hpl)
theorem mkx_in {K : PySem.W.Frag} {C : Addr} {ps : List Str} {vs : List V} {H1 : Hp} {Q : XK} (h1 : vs.length = ps.length) (h2 : vs.length ≤ 1000) (h3 : ∀ dx, H1 dx = none → Q (.ref C) (some dx) (upd H1 dx (.xd (ps.zip vs).reverse))) :
    vs.length ≤ 1000 ∧ ∀ a, H1 a = none → spX K C ps (.ref a :: (vs ++ [])) (upd H1 a (exo a C none))
      (fun v H2 => v = .non ∧ ∃ (d : Addr) (fs : List (Str × V)), H2 a = some (exo a C (some d)) ∧ H2 d = some (exd d fs) ∧ H1 d = none ∧ Q (.ref C) (some d) (upd (del H2 a) d (.xd fs))) (fun _ _ _ => False) := by
  refine ⟨h2, fun a na => ⟨a, vs, by rw [List.append_nil], h1, upd_same, fun dx nd ne => ?_⟩⟩
  have nd1 : H1 dx = none := by rw [upd_ne ne] at nd; exact nd
  refine ⟨rfl, dx, _, upd_same, by rw [upd_ne ne, upd_same], nd1, ?_⟩
  have e : upd (del (upd (upd (upd H1 a (exo a C none)) dx (exd dx (ps.zip vs).reverse)) a (exo a C (some dx))) a) dx (.xd (ps.zip vs).reverse) = upd H1 dx (.xd (ps.zip vs).reverse) := by
    funext b
    by_cases hb : b = dx
    · rw [hb, upd_same, upd_same]
    · rw [upd_ne hb, upd_ne hb]
      by_cases hb2 : b = a
      · rw [hb2, del_same, na]
      · rw [del_ne hb2, upd_ne hb2, upd_ne hb, upd_ne hb2]
  rw [e]
  exact h3 dx nd1
end Ev
end

section
set_option Elab.async false
set_option linter.all false
set_option maxRecDepth 100000
set_option maxHeartbeats 4000000
/-! Own exceptions made by a call with keywords. -/
namespace PySem
namespace HandSPX
open Builtin Builtin.ObjectAttr
section
variable {M : Model} {A : Around} {E : Value → Shared → Prop} {h : Heap} {g : Array GenState} {d : Drawn} {t : Nat} {os : OsState}
variable {nm q : Str} {C N : Addr} {bs bm bmB : List Value} {hdct : Bool} {sn : List Str} {sub : List Value} {ab : Bool} {col : Option Bool} {dd : Option Addr} {k0 k1 k2 k3 k5 : Option Value} {B newId initId : String}
theorem check_new_ownK (F : ExcBaseFacts B newId initId bmB) (hT : ∀ X : String, bm.contains (.type X) = bmB.contains (.type X)) {rest : List Value} {kws : List (Str × Value)} {Q : Unit → Shared → Prop}
    (hC : h.get? C = some (excClassObj nm q C N bs bm hdct sn sub ab col dd k0 k1 k2 k3 k5 newId)) (hq : Q () ⟨h, g, d, t, os⟩) : wpAny M A (checkBuiltinCall newId ⟨.ref C :: rest, kws⟩) Q E ⟨h, g, d, t, os⟩ := by
  have hcont : (Value.ref C :: bm).contains (.type B) = true := by rw [List.contains_cons, hT, F.hasB, Bool.or_true]
  have hstar := F.noStar
  simp only [checkBuiltinCall, F.newKind, F.newSplit, F.newRow]
  repeat (first | refine wpAny_loadPart_at hC ?_ | (refine wpAny_isSubtype_exc hC ?_; rw [hcont]) | refine wpAny_staticBase_exc hC ?_ | refine wpAny_madeBy_exc hC ?_ | simp only [bne_self_eq_false, Bool.false_eq_true, if_false] | wp_step)
  exact hq
theorem wpAny_check_type_call_subK {M : Model} {rest : List Value} {kws : List (Str × Value)} {Q : Unit → Shared → Prop} (hC : h.get? C = some (excClassObj nm q C N bs bm hdct sn sub ab col dd k0 k1 k2 k3 k5 newId))
    (hq : Q () ⟨h, g, d, t, os⟩) : wpAny M A (checkBuiltinCall "type.__call__" ⟨.ref C :: rest, kws⟩) Q E ⟨h, g, d, t, os⟩ := by
  have f3 := tc_sub
  have hT : (⟨h, g, d, t, os⟩ : Shared).TypeIs (.ref C) "type" := ⟨_, hC, rfl⟩
  simp only [checkBuiltinCall, tc_kind, tc_split]
  repeat (any_goals (first | assumption | with_reducible refine wpAny_loadPart_at hC ?_ | with_reducible refine wpAny_onRaise ?_ | with_reducible refine wpAny_map ?_ | wp_step))

end
section
variable {prog : Program} {w : World} {A : Around} {E : Value → Shared → Prop} {R : Result → Shared → Prop} {h : Heap} {g : Array GenState} {d : Drawn} {t : Nat} {os : OsState}
variable {nm q : Str} {C N : Addr} {bs bm bmB : List Value} {hdct : Bool} {sn : List Str} {sub : List Value} {ab : Bool} {col : Option Bool} {dd : Option Addr} {k0 k1 k2 k3 k5 : Option Value} {B newId initId : String}
theorem new_ownK (F : ExcBaseFacts B newId initId bmB) (hT : ∀ X : String, bm.contains (.type X) = bmB.contains (.type X)) {rest : List Value} {kws : List (Str × Value)}
    (hC : h.get? C = some (excClassObj nm q C N bs bm hdct sn sub ab col dd k0 k1 k2 k3 k5 newId))
    (hq : R (.ok (.ret (.ref (h.objs.size + 1)))) ⟨(h.push { cls := .type "tuple", data := .seq rest.toArray }).push
      { cls := .ref C, data := .fields #[.ref h.objs.size, .none, .none, .none, .bool false, .none] }, g, d, t, os⟩) (hrest : rest.length ≤ sizeLine) :
    codeAny (model prog w) A (.builtin newId ⟨.ref C :: rest, kws⟩) R ⟨h, g, d, t, os⟩ := by
  have hends := F.ends
  have hcB : (Value.ref C :: bm).contains (.type B) = true := by rw [List.contains_cons, hT, F.hasB, Bool.or_true]
  have hcA : (Value.ref C :: bm).contains (.type "AttributeError") = false := by rw [List.contains_cons, hT, F.noAttr]; rfl
  have hcN : (Value.ref C :: bm).contains (.type "NameError") = false := by rw [List.contains_cons, hT, F.noName]; rfl
  refine codeAny_builtinAt F.entry ?_
  unfold Builtin.«BaseException.__new__»
  refine wpAt_bind ?_
  show wpAt _ _ _ (stack >>= _) _ _ _
  refine wpAt_bind (wpAt_stack fun p below => wpAt_of_wpAny ?_)
  wp_walk
  refine wpAt_of_wpAny ?_
  rw [F.owner]
  repeat (first | with_reducible refine wpAny_madeHere_exc F.canon hC ?_ | with_reducible refine wpAny_loadPart_at hC ?_ | (with_reducible refine wpAny_isSubtype_exc hC ?_; first | rw [hcB] | rw [hcA] | rw [hcN]) | wp_step)
  show R _ _
  rw [Heap.size_push]
  exact hq

theorem type_call_ownK (F : ExcBaseFacts B newId initId bmB) (hT : ∀ X : String, bm.contains (.type X) = bmB.contains (.type X)) {rest : List Value} {kws : List (Str × Value)} {fI : Addr} {Q : Fin → Shared → Prop}
    (hC : h.get? C = some (excClassObj nm q C N bs bm hdct sn sub ab col dd k0 k1 k2 k3 k5 newId))
    (hi : W.Looks (model prog w) h (typeLookup (.ref C) "__init__") (some (.ref fI))) (hb : ∀ self, W.Looks (model prog w) h (bindSpecial (.ref fI) self) (.ref fI, [self])) (hrest : rest.length ≤ sizeLine)
    (hq : codeAny (model prog w) A (.call (.ref fI) ⟨.ref (h.objs.size + 1) :: rest, kws⟩)
      (fun r s' => match r with | .ok (.ret v) => v = .none ∧ Q (.done (.ret (.ref (h.objs.size + 1)))) s' | .ok _ => False | .error e => E e s')
      ⟨(h.push (W.kdv_tup rest)).push (excO C h.objs.size), g, d, t, os⟩) :
    wpAny (model prog w) A (Builtin.«type.__call__» ⟨.ref C :: rest, kws⟩) Q E ⟨h, g, d, t, os⟩ := by
  repeat (first | with_reducible refine wpAny_loadPart_at hC ?_ | with_reducible refine wpAny_madeBy_exc hC ?_ | wp_step)
  refine codeAny_call_builtin_code (Code.quiet_builtin _ F.quiet) (check_new_ownK F hT hC ?_)
  refine new_ownK F hT hC ?_ hrest
  show wpAny _ _ _ _ _ _
  have k : ∀ b o, h.get? b = some o → ((h.push (W.kdv_tup rest)).push (excO C h.objs.size)).get? b = some o := fun b o e => Heap.get?_push_of_some _ (Heap.get?_push_of_some _ e)
  have hC₁ := k _ _ hC
  have hget : ((h.push (W.kdv_tup rest)).push (excO C h.objs.size)).get? (h.objs.size + 1) = some (excO C h.objs.size) := by heap_get
  have hcC : (Value.ref C :: bm).contains (.ref C) = true := by simp
  have i1 := hi.keeps k
  have b1 := (hb (.ref (h.objs.size + 1))).keeps k
  unfold isInstance
  repeat (first | with_reducible refine wpAny_loadPart_at hget ?_ | (with_reducible refine wpAny_isSubtype_exc hC₁ ?_; rw [hcC]) | wp_step)
  show wpAny _ _ (typeLookup (.ref C) _) _ _ _
  refine i1.at ?_
  refine wpAny_holding (wpAny_bind (b1.at ?_))
  refine wpAny_bind (wpAny_call (codeAny_mono hq fun r s' z => ?_))
  rcases r with e | (v | _ | _ | _) <;> first | exact z | exact z.elim | skip
  obtain ⟨rfl, z⟩ := z
  first
    | exact wpAny_pure (wpAny_pure z)
    | (wp_walk; exact z)

theorem call_ownK (F : ExcBaseFacts B newId initId bmB) (hT : ∀ X : String, bm.contains (.type X) = bmB.contains (.type X)) {rest : List Value} {kws : List (Str × Value)} {fI : Addr}
    (hC : h.get? C = some (excClassObj nm q C N bs bm hdct sn sub ab col dd k0 k1 k2 k3 k5 newId))
    (hi : W.Looks (model prog w) h (typeLookup (.ref C) "__init__") (some (.ref fI))) (hb : ∀ self, W.Looks (model prog w) h (bindSpecial (.ref fI) self) (.ref fI, [self])) (hrest : rest.length ≤ sizeLine)
    (hq : codeAny (model prog w) (A.under (.builtin "type.__call__" ⟨.ref C :: rest, kws⟩)) (.call (.ref fI) ⟨.ref (h.objs.size + 1) :: rest, kws⟩) (W.InitBack (h.objs.size + 1) R)
      ⟨(h.push (W.kdv_tup rest)).push (excO C h.objs.size), g, d, t, os⟩) :
    codeAny (model prog w) A (.call (.ref C) ⟨rest, kws⟩) R ⟨h, g, d, t, os⟩ := by
  have f1 := tc_lookup
  have f2 := tc_bind (.ref C)
  have hTy : (⟨h, g, d, t, os⟩ : Shared).TypeIs (.ref C) "type" := ⟨_, hC, rfl⟩
  refine codeAny_of_tree ?_
  show wpAny _ _ (callAny (.ref C) _) _ _ _
  repeat (any_goals (first | assumption | with_reducible refine wpAny_loadPart_at hC ?_ | wp_step))
  refine ⟨rfl, ?_⟩
  refine codeAny_call_builtin_at (Code.quiet_builtin _ (by decide +kernel)) entry_typeCall (wpAny_check_type_call_subK hC (type_call_ownK F hT hC hi hb hrest ?_))
  refine codeAny_mono hq fun r s' z => ?_
  rcases r with e | (v | _ | _ | _) <;> exact z

end
end HandSPX
end PySem
end

section
set_option Elab.async false
set_option linter.all false
set_option maxRecDepth 100000
set_option maxHeartbeats 4000000
/-! Own exceptions held as values: made, read, asked. -/
namespace Ev
open PySem PySem.Spec PyProof.Rows L2
def tMkV (C : Addr) (sp : Sp) (n : Nat) (gV : List V → List V) (ta : TA) : TE := fun σ H Q => ta σ H fun vs H1 => vs.length = n ∧ ∀ a, H1 a = none → sp (V.ref a :: gV vs) (upd H1 a (exo a C none)) (fun v H2 => v = .non ∧ Q (.ref a) H2) (fun _ _ _ => False)
section
variable {X : Cx} {CX : CXT} {k : Nat} {C fI : Addr} {fd : FuncData} {s0 : Str} {ps : List Str} {sp : Sp} {pins : List (Addr × Obj)} {σ : L2.St} {H1 : Hp} {s1 : Shared} {Q : VK} {us : List Value} {kws : List (Str × Value)} {ws : List Value} {vs : List V}
/-- the class's call, whatever the words -/
theorem run_exV (T : OexX X.K C) (iC : PySem.W.findIn X.K (.ref C) "__init__" = some (some (.ref fI))) (tI : PySem.W.typeIn X.K (.ref fI) = some (.type "function")) (F1 : FnOk X.prog X.w X.K X.mg X.base CX k fI fd (s0 :: ps) sp) (hr : Room (k + 1) X.A)
    (hx : Passes CX X (fun _ _ _ => False)) (I1 : Inv X pins σ H1 s1) (hus : us.length ≤ 1000) (r1 : Vals vs ws) (hb : ∀ (s : Shared) (u : Value), X.K.In s.heap → BindsTo s fd ⟨u :: us, kws⟩ ((s0 :: ps).zip (u :: ws)))
    (h : ∀ a, H1 a = none → sp (V.ref a :: vs) (upd H1 a (exo a C none)) (fun v H2 => v = .non ∧ Q (.ref a) H2) (fun _ _ _ => False)) :
    wpAny (model X.prog X.w) X.A (call (.ref C) us kws) (EP X pins σ Q) X.xe s1 := by
  obtain ⟨nm, q, N, bs, bm, sn, sub, ab, col, dd, k0, k1, k2, k3, k5, hC, hbm⟩ := T.cls
  obtain ⟨hp, g, dr, tk, os⟩ := s1
  have hsz : hp.objs.size ≤ hp.objs.size + 1 := Nat.le_succ _
  have hn : H1 (hp.objs.size + 1) = none := I1.hok.fresh hsz
  have hq := h (hp.objs.size + 1) hn
  have kk : ∀ b o, hp.get? b = some o → ((hp.push (PySem.W.kdv_tup us)).push (PySem.HandSPX.excO C hp.objs.size)).get? b = some o := fun b o e => Heap.get?_push_of_some _ (Heap.get?_push_of_some _ e)
  have hget : ((hp.push (PySem.W.kdv_tup us)).push (PySem.HandSPX.excO C hp.objs.size)).get? (hp.objs.size + 1) = some (PySem.HandSPX.excO C hp.objs.size) := by heap_get
  have I2 : Inv X pins σ (upd H1 (hp.objs.size + 1) (exo (hp.objs.size + 1) C none)) ⟨(hp.push (PySem.W.kdv_tup us)).push (PySem.HandSPX.excO C hp.objs.size), g, dr, tk, os⟩ :=
    I1.laid (t' := tk) (a := hp.objs.size + 1) (o := exo (hp.objs.size + 1) C none) (h' := (hp.push (PySem.W.kdv_tup us)).push (PySem.HandSPX.excO C hp.objs.size)) kk hsz (exo_ok hget)
  have r2 : Vals (V.ref (hp.objs.size + 1) :: vs) (Value.ref (hp.objs.size + 1) :: ws) := .cons rfl r1
  have hus' : us.length ≤ sizeLine := by rw [sizeLine_eq]; omega
  refine wpAny_call (PySem.HandSPX.call_ownK F.excBase_Exception (fun Y => refsEx_contains Y bm hbm) (I1.kIn _ _ hC) (PySem.W.looks_findIn I1.kIn iC) (fun self => PySem.W.bind_fn I1.kIn self tI) hus'
    (codeAny_mono (F1.run _ X.stack _ _ ⟨Value.ref (hp.objs.size + 1) :: us, kws⟩ (Value.ref (hp.objs.size + 1) :: ws) _ _ (fun _ _ _ => False) (hr.make C us kws) (I2.env0.make C us kws) (hb _ _ I2.kIn) r2 hq) fun r s' hq' => ?_))
  cases r with
  | error er => exact hx pins σ _ _ er s' I2 hq'
  | ok fl =>
    cases fl with
    | ret u =>
      obtain ⟨v, H', I3, rv, ev, q3⟩ := I2.after hq'
      subst ev
      exact ⟨rv, ⟨V.ref (hp.objs.size + 1), H', I3, rfl, q3⟩⟩
    | next => exact False.elim hq'
    | brk => exact False.elim hq'
    | cont => exact False.elim hq'
theorem pe_exV {x : Str} {e : Expr} {es : List Expr} {ta : TA} {p pos : Pos} {n : Nat} (T : OexX X.K C) (iC : PySem.W.findIn X.K (.ref C) "__init__" = some (some (.ref fI))) (tI : PySem.W.typeIn X.K (.ref fI) = some (.type "function")) (F1 : FnOk X.prog X.w X.K X.mg X.base CX k fI fd (s0 :: ps) sp) (hr : Room (k + 1) X.A)
    (hx : Passes CX X (fun _ _ _ => False)) (hn : ps.length = n) (hn9 : n ≤ 1000) (hb : Binds X.K fd (s0 :: ps) []) (hg : Gl X x) (hm : X.mg x = some (.ref C)) (ha : PA X (e :: es) ta) (hdb : (x == ("__debug__" : Str)) = false)
    (he : starEach (e :: es) X.env = (false, eval e X.env) :: starEach es X.env) (hpl : (backTo pos (starEach es X.env)).any (·.1) = false) : PE X (.Call (.Name x p) (e :: es) [] pos) (tMkV C sp n id ta) := by
  refine ⟨fun pins s σ H Q I h => ?_⟩
  refine wpAny_Call_Name_kw (ld_glob I hg hm ?_ hdb)
  refine PySem.W.callWith_K (h₀ := X.base) I.ok.mod.kin T.kC (thn (ha.run pos pins s σ H _ I h) fun us s1 ⟨vs, H1, I1, r1, hl, q1⟩ => ⟨I1.kIn, ?_⟩) he hpl
  have hu : us.length = n := r1.length.symm.trans hl
  show wpAny _ _ (call (.ref C) us) _ _ _
  exact run_exV T iC tI F1 hr hx I1 (by omega) r1 (fun s u hK => by
    have := hb s (u :: us) hK (by simp [hu, hn])
    rw [List.append_nil] at this
    exact this) q1
theorem pe_exK {x : Str} {kws : List Keyword} {ta : TA} {p q : Pos} {n : Nat} {ks : List Str} {g : {α : Type} → List α → List α} (T : OexX X.K C) (iC : PySem.W.findIn X.K (.ref C) "__init__" = some (some (.ref fI))) (tI : PySem.W.typeIn X.K (.ref fI) = some (.type "function")) (F1 : FnOk X.prog X.w X.K X.mg X.base CX k fI fd (s0 :: ps) sp) (hr : Room (k + 1) X.A)
    (hx : Passes CX X (fun _ _ _ => False)) (hg : Gl X x) (hm : X.mg x = some (.ref C)) (ha : PK X kws ta) (hdb : (x == ("__debug__" : Str)) = false) (n1 : (backToKw q (keywordEach kws X.env)).all (·.1.isSome) = true) (n2 : (backToKw q (keywordEach kws X.env)).filterMap (·.1) = ks) (n3 : (backToKw q (keywordEach kws X.env)).any (·.1.isNone) = false)
    (hrel : ∀ {vs : List V} {ws : List Value}, vs.length = n → Vals vs ws → Vals (g vs) (g ws)) (hb : ∀ (s : Shared) (u : Value) (ws : List Value), ws.length = n → X.K.In s.heap → BindsTo s fd ⟨[u], ks.zip ws⟩ ((s0 :: ps).zip (u :: g ws))) :
    PE X (.Call (.Name x p) [] kws q) (tMkV C sp n g ta) := by
  refine ⟨fun pins s σ H Q I h => ?_⟩
  refine wpAny_Call_Name_kw (ld_glob I hg hm ?_ hdb)
  refine PySem.W.callWith_KW0 (h₀ := X.base) I.ok.mod.kin T.kC n1 (thn (ha.run q pins s σ H _ I h) fun ws s2 ⟨zs, H2, I2, rz, hl, q2⟩ => ⟨I2.kIn, ?_⟩) (by show (false || _) = false; rw [n3]; rfl)
  rw [n2]
  have hu : ws.length = n := rz.length.symm.trans hl
  exact run_exV T iC tI F1 hr hx I2 (by simp) (hrel hl rz) (fun s u hK => hb s u ws hu hK) q2
end
section
variable {X : Cx} {e : Expr} {te : TE} {pos : Pos} {n : Str}
/-- a field of an error that is held -/
def tFx (K : PySem.W.Frag) (te : TE) (n : Str) : TE := fun σ H Q => te σ H fun x H1 => ∃ (a C dx : Addr) (fs : List (Str × V)) (v : V), x = .ref a ∧ H1 a = some (exo a C (some dx)) ∧ H1 dx = some (exd dx fs) ∧ ExcC K C ∧ PySem.W.findIn K (.ref C) n = some none ∧ fs.lookup n = some v ∧ Q v H1
theorem inst_exo {P : Program} {w : World} {H : Hp} {h : Heap} {a C dx : Addr} {fs : List (Str × V)} (hok : HOk P w H h) (e1 : H a = some (exo a C (some dx))) (e2 : H dx = some (exd dx fs)) : ∃ (oe od : Obj), PySem.W.InstAt h a oe C (some od) ∧ ∀ n, ∃ mA, RelO (fs.lookup n) mA ∧ PySem.W.lookIn n od = some mA := by
  obtain ⟨⟨t1, h1⟩, _, _⟩ := hok a _ e1
  obtain ⟨⟨mA, hns, hr⟩, _, _⟩ := hok dx _ e2
  obtain ⟨od, ho, hl⟩ := lookIn_ns hns
  exact ⟨_, od, ⟨h1, rfl, rfl, ho⟩, fun n => ⟨mA n, hr n, hl n⟩⟩
theorem pe_fx (he : PE X e te) (hb : attributeBase e n X.env (eval e X.env) = eval e X.env) : PE X (.Attribute e n pos) (tFx X.K te n) := by
  refine ⟨fun pins s σ H Q I h => ?_⟩
  refine attr_of hb (thn (he.run pins s σ H _ I h) fun u s1 hh => ?_)
  obtain ⟨x, H1, I1, rx, a, C, dx, fs, v, ex, e1, e2, T, hno, l, q⟩ := hh
  subst ex
  obtain rfl : u = Value.ref a := rx
  obtain ⟨oe, od, J, hl⟩ := inst_exo I1.hok e1 e2
  obtain ⟨m, hr, hm⟩ := hl n
  rw [l] at hr
  obtain ⟨u, hu, ru⟩ := RelO.some_of (v := v) (o := m) hr
  exact HandSPX.exc_get I1.kIn J T.hg T.hk T.hs (PySem.W.findObj_own T.hd hno rfl (by rw [hm, hu])) (handed_of ru) ⟨v, H1, I1.tok _, ru, q⟩
/-- isinstance of an error that is held -/
def rIsX (K : PySem.W.Frag) : List V → Hp → VK → Prop := fun xs H Q => ∃ (a C dx : Addr) (fs : List (Str × V)) (c : V) (u : Value) (b : Bool), xs = [.ref a, c] ∧ H a = some (exo a C (some dx)) ∧ H dx = some (exd dx fs) ∧ ExcC K C ∧ ClsV c u ∧ PySem.W.kitOne K (.ref C) u = some b ∧ Q (.bl b) H
theorem call_isX : CallR X (.builtin "isinstance") (rIsX X.K) := by
  intro pins s σ H xs us Q I r h
  obtain ⟨a, C, dx, fs, c, u, b, rfl, e1, e2, T, hc, hk, q⟩ := h
  obtain ⟨u1, u2, rfl, r1, r2⟩ := vals2 r
  have e3 := hc.eq r2
  subst e3
  obtain rfl : u1 = Value.ref a := r1
  obtain ⟨oe, od, J, _⟩ := inst_exo I.hok e1 e2
  obtain ⟨cd, hcd, _⟩ := PySem.W.any_some T.hd
  exact PySem.W.kia_one (PySem.W.kitx_exc (by rw [hcd]; rfl) T.hg T.hk T.hs T.ha T.hn T.ht T.hm) I.kIn J hk (fun z => nomatch z) fun tk => ⟨.bl b, H, I.tok tk, rfl, q⟩
end
end Ev
end

section
set_option Elab.async false
set_option linter.all false
set_option maxRecDepth 100000
/-! The expressions' rules. -/
namespace Ev
open PySem PySem.Spec PyProof.Rows L2
theorem plain_star {e : Expr} {es : List Expr} {env : Env} (h : plainE e = true) : starEach (e :: es) env = (false, eval e env) :: starEach es env := by
  cases e <;> first | rfl | cases h
theorem plain_mark {e : Expr} {op : CmpOp} (h : plainE e = true) : behindInMarks op e = false := by
  cases e <;> first | rfl | cases h
theorem plain_ix {e : Expr} (h : plainE e = true) : PlainIx e := by
  intro o i
  cases e <;> first | rfl | cases h
theorem plain_nosl {e : Expr} (h : plainE e = true) : NoSl e := by
  intro o i
  cases e <;> first | rfl | cases h
theorem plain_fold {e : Expr} {env : Env} (h : plainE e = true) (x : Value) : foldedSetIterable e env x = pure x := by
  cases e <;> first | rfl | cases h
theorem plain_sup {e : Expr} {n : Str} {env : Env} {wh : Sem Value} (h : notSuper e = true) : attributeBase e n env wh = wh := by
  unfold attributeBase
  split
  · cases h
  · rfl

/-- what is promised of a def | a class -/
def spF (T : Tb) (P : Pg) (k : Nat) (f : Fid) : Sp := fun vs H Q E => ∃ (w : Wd) (ds : List D) (A : AH), w.H = H ∧ Abs T w A ∧ RDs T w ds vs ∧
  Post T (fun c d _ H => E c d H) (RD T) w [] (callF P k f ds A) Q
def builtins : List Str := ["len", "isinstance", "int", "str", "ord", "all", "any", "tuple", "list", "set", "range", "bool"]
structure Gd (T : Tb) (P : Pg) (nm : Nm) (k : Nat) (W : WX) (X : Cx) : Prop where
  K : X.K = T.K
  calm : X.calm = true
  nd : X.N.Nodup
  room : Room k X.A
  take : Takes X W
  fn : ∀ (f : Nat) (x : Str), nm.fns[f]? = some (none, x) → ∃ a fd ps, X.mg x = some (.ref a) ∧ PySem.W.keepIn X.K (.ref a) = true ∧ FnOk X.prog X.w X.K X.mg X.base (L2.CX X.prog X.w) k a fd ps (spF T P k (.fn f)) ∧ Binds X.K fd ps []
  kw : ∀ (f : Nat) (x : Str) (ps : List Str), nm.fns[f]? = some (none, x) → nm.par[f]? = some ps → ∃ a fd, X.mg x = some (.ref a) ∧ PySem.W.keepIn X.K (.ref a) = true ∧ FnOk X.prog X.w X.K X.mg X.base (L2.CX X.prog X.w) k a fd ps (spF T P k (.fn f)) ∧ ∀ (s : Shared) (ws : List Value), ws.length = ps.length → BindsTo s fd ⟨[], ps.zip ws⟩ (ps.zip ws)
  mt : ∀ (f c : Nat) (m : Str), nm.fns[f]? = some (some c, m) → ∃ a fd ps, Cls X.K (T.cad c) ∧ Meth X.K (T.cad c) m a ∧ FnOk X.prog X.w X.K X.mg X.base (L2.CX X.prog X.w) k a fd ps (spF T P k (.fn f)) ∧ Binds X.K fd ps [] ∧ ∀ j, T.fld j ≠ m
  mak : ∀ (c : Nat) (x : Str), nm.cls[c]? = some x → ∃ a, X.mg x = some (.ref (T.cad c)) ∧ Mk X.K (T.cad c) a ∧ ∀ f, P.mks[c]? = some f → ∀ j, k = j + 1 → ∃ fd ps, FnOk X.prog X.w X.K X.mg X.base (L2.CX X.prog X.w) j a fd ps (spF T P j (.fn f)) ∧ Binds X.K fd ps []
  cls : ∀ (c f : Nat), P.mks[c]? = some f → ClsOk T c
  fl : ∀ (f : Nat) (x : Str), nm.fld[f]? = some x → f < T.nf ∧ T.fld f = x
  inj : ∀ i j, T.fld i = T.fld j → i = j
  gl : ∀ (i : Nat) (x : Str) (d : D), nm.glob[i]? = some x → P.glob[i]? = some d → ∃ u v, X.mg x = some u ∧ RelV v u ∧ RD T ⟨fun _ => 0, 0, fun _ => none, fun _ => False⟩ d v
  bl : ∀ x, x ∈ builtins → X.mg x = none
  xcl : ∀ (c : Nat) (x : Str) (fs : List Nat), nm.exc[c]? = some (x, fs) → XcOk X x (T.xad c) (fs.map T.fld) 1 ∧ XfC X.K (T.xad c) ∧ ∀ (f : Nat) (n : Str), nm.fld[f]? = some n → PySem.W.findIn X.K (.ref (T.xad c)) n = some none
  exm : ∀ c d, c < nm.exc.length → d < nm.exc.length → PySem.W.exmOne X.K (.ref (T.xad c)) (.ref (T.xad d)) = some (decide (c = d))
  xo : ∀ c, c < nm.exc.length → XoOk T c
  isx : ∀ (i : Nat) (y : Str) (ts : List Nat), nm.isx[i]? = some (y, ts) → ∃ (cv : V) (u : Value), ClsV cv u ∧ RelV cv u ∧ (X.mg y = some u ∨ (X.mg y = none ∧ bootBuiltins y = some u)) ∧ ∀ c, c < nm.exc.length → PySem.W.kitOne X.K (.ref (T.xad c)) u = some (decide (c ∈ ts))
  base : ∀ y, y ∈ nm.base → ∃ C : Addr, X.mg y = some (.ref C) ∧ ∀ c, c < nm.exc.length → PySem.W.exmOne X.K (.ref (T.xad c)) (.ref C) = some true
  nx : T.nx = nm.exc.length
theorem Gd.no {T : Tb} {P : Pg} {nm : Nm} {k : Nat} {W : WX} {X : Cx} (g : Gd T P nm k W X) {x : Str} (h : x ∈ builtins := by decide) : X.mg x = none := g.bl x h

abbrev cE (P : Pg) (k : Nat) (e : E) : Sl → AH → Rs D := evE (callF P k) P.glob e
abbrev cT (P : Pg) (k : Nat) (e : E) : Sl → AH → Rs Bool := evT (callF P k) P.glob e
abbrev cA (P : Pg) (k : Nat) (e : E) : Sl → AH → Rs (List D) := evEs (callF P k) P.glob e
abbrev cP (P : Pg) (k : Nat) (e : E) : Sl → AH → Rs (Option Int) := evP (callF P k) P.glob e
section
variable {T : Tb} {P : Pg} {nm : Nm} {k : Nat} {W : WX} {X : Cx} {sc : Scope}
theorem vis_of {sc : Scope} {x : Str} (h : visB sc x = true) : Vis sc x := by
  unfold visB at h
  split at h
  · exact .inl (by assumption)
  · exact .inr (.inl (by assumption))
  · exact .inr (.inr (by assumption))
  · cases h
theorem gl_of {x : Str} (h : glB X.env.scope x = true) : Gl X x ∧ (x == ("__debug__" : Str)) = false := by
  unfold glB at h
  rw [Bool.and_eq_true] at h
  exact ⟨by simpa [Gl, Env.kindOf] using h.1, by simpa using h.2⟩
theorem and3 {a b c : Bool} (h : (a && b && c) = true) : a = true ∧ b = true ∧ c = true := by
  simp only [Bool.and_eq_true] at h; exact ⟨h.1.1, h.1.2, h.2⟩

/-! ### names, constants -/
theorem s_var (g : Gd T P nm k W X) {i : Nat} {x : Str} {p : Pos} (h : chk nm X.N X.env.scope (.var i) (.Name x p) = true) : PE X (.Name x p) (tE T W (cE P k (.var i))) := by
  have h : (decide (X.N[i]? = some x) && visB X.env.scope x && !(x == ("__debug__" : Str)) && !(x == ("__classdict__" : Str))) = true := h
  simp only [Bool.and_eq_true, decide_eq_true_eq, Bool.not_eq_true'] at h
  obtain ⟨⟨⟨h1, h2⟩, h3⟩, h4⟩ := h
  refine pe_imp (pe_var h1 (vis_of h2) h3 h4) fun σ H Q ⟨w, σa, A, e, hA, hS, hP⟩ => ?_
  subst e
  have hP : Post T W (RD T) w σ (match σa[i]? with
    | some (some d) => Rs.ok d A
    | _ => .no) Q := hP
  split at hP
  · rename_i d hd
    obtain ⟨v, e1, r⟩ := hS.at_ i d hd
    exact ⟨v, e1, hP.now hA r⟩
  · exact hP.elim
theorem s_con (g : Gd T P nm k W X) {d : D} {c : Const} {j : Nat} {p : Pos} (h : chk nm X.N X.env.scope (.con d) (.Constant c j p) = true) : PE X (.Constant c j p) (tE T W (cE P k (.con d))) := by
  have key : ∀ {v : V}, PE X (.Constant c j p) (tC v) → (∀ w, RD T w d v) → PE X (.Constant c j p) (tE T W (cE P k (.con d))) := fun {v} hp hr =>
    pe_imp hp fun σ H Q ⟨w, σa, A, e, hA, hS, hP⟩ => by
      subst e
      have hP : Post T W (RD T) w σ (.ok d A) Q := hP
      exact hP.now hA (hr w)
  cases d with
  | non =>
    cases c with
    | none => exact key pe_non fun w => by rw [RD]
    | _ => cases (show false = true from h)
  | bl b =>
    cases c with
    | bool c =>
      obtain rfl : b = c := eq_of_beq h
      exact key pe_bl fun w => by rw [RD]
    | _ => cases (show false = true from h)
  | int i =>
    cases c with
    | int c =>
      obtain rfl : i = c := of_decide_eq_true h
      exact key pe_int fun w => by rw [RD]
    | _ => cases (show false = true from h)
  | str s =>
    cases c with
    | str c =>
      obtain rfl : c = sT s := of_decide_eq_true h
      exact key pe_str fun w => by rw [RD]
    | _ => cases (show false = true from h)
  | _ => cases (show false = true from h)
theorem RD.ofK {d : D} {v : V} (h : RD T ⟨fun _ => 0, 0, fun _ => none, fun _ => False⟩ d v) (w : Wd) : RD T w d v :=
  RD.inc ⟨Nat.zero_le _, fun i h => absurd h (Nat.not_lt_zero _), (fun a o h _ => nomatch (show (none : Option HO) = some o from h))⟩ d v h
theorem pe_false {e : Expr} : PE X e (fun _ _ _ => False) := ⟨fun _ _ _ _ _ _ h => h.elim⟩
theorem s_glo (g : Gd T P nm k W X) {i : Nat} {x : Str} {p : Pos} (h : chk nm X.N X.env.scope (.glo i) (.Name x p) = true) : PE X (.Name x p) (tE T W (cE P k (.glo i))) := by
  have h : (decide (nm.glob[i]? = some x) && glB X.env.scope x) = true := h
  rw [Bool.and_eq_true] at h
  obtain ⟨h1, h2⟩ := h
  obtain ⟨q1, q2⟩ := gl_of h2
  cases hd : P.glob[i]? with
  | none =>
    refine pe_imp pe_false fun σ H Q ⟨w, σa, A, e, hA, hS, hP⟩ => ?_
    have hP : Post T W (RD T) w σ (liftR (P.glob[i]?) A) Q := hP
    rw [hd] at hP
    exact hP
  | some d =>
    obtain ⟨u, v, m, r, rd⟩ := g.gl i x d (of_decide_eq_true h1) hd
    refine pe_imp (pe_glob q1 m r q2) fun σ H Q ⟨w, σa, A, e, hA, hS, hP⟩ => ?_
    have hP : Post T W (RD T) w σ (liftR (P.glob[i]?) A) Q := hP
    rw [hd] at hP
    subst e
    exact hP.now hA (rd.ofK w)

/-! ### lists of expressions, displays -/
theorem s_nil : PA X [] (tA T W (cA P k .nil)) := by
  refine pa_imp pa_nil fun σ H Q ⟨w, σa, A, e, hA, hS, hP⟩ => ?_
  subst e
  have hP : Post T W (RDs T) w σ (.ok [] A) Q := hP
  exact hP.now hA RDs.nil
theorem s_cons {e' es' : E} {e : Expr} {es : List Expr} (hp : plainE e = true) (he : PE X e (tE T W (cE P k e'))) (hes : PA X es (tA T W (cA P k es'))) : PA X (e :: es) (tA T W (cA P k (.cons e' es'))) := by
  refine pa_imp (pa_cons he hes (plain_star hp)) fun σ H Q ⟨w, σa, A, e, hA, hS, hP⟩ => ?_
  subst e
  have hP : Post T W (RDs T) w σ (bindR (cE P k e' σa A) fun x H1 => bindR (cA P k es' σa H1) fun xs H2 => .ok (x :: xs) H2) Q := hP
  refine ⟨w, σa, A, rfl, hA, hS, hP.bind fun w1 d v A1 e1 a1 r1 _ h1 => ⟨w1, σa, A1, rfl, a1, hS.mono e1, h1.bind fun w2 ds vs A2 e2 a2 r2 _ h2 => ?_⟩⟩
  exact h2.now a2 (RDs.cons (RD.mono e2 d v r1) r2)
/-- how many values come -/
theorem chks_len : ∀ (es' : E) (es : List Expr) (σa : Sl) (A A' : AH) (ds : List D), chks nm X.N sc es' es = true → cA P k es' σa A = .ok ds A' → ds.length = es.length := by
  intro es'
  induction es' with
  | nil =>
    intro es σa A A' ds h q
    cases es with
    | nil =>
      have q : Rs.ok [] A = Rs.ok ds A' := q
      cases q; rfl
    | cons _ _ => cases (show false = true from h)
  | cons e' es' _ ih =>
    intro es σa A A' ds h q
    cases es with
    | nil => cases (show false = true from h)
    | cons x xs =>
      have h : (plainE x && chk nm X.N sc e' x && chks nm X.N sc es' xs) = true := h
      have q : (bindR (cE P k e' σa A) fun x H1 => bindR (cA P k es' σa H1) fun xs H2 => Rs.ok (x :: xs) H2) = .ok ds A' := q
      cases h1 : cE P k e' σa A with
      | ok d A1 =>
        rw [h1] at q
        have q : (bindR (cA P k es' σa A1) fun xs H2 => Rs.ok (d :: xs) H2) = .ok ds A' := q
        cases h2 : cA P k es' σa A1 with
        | ok dd A2 =>
          rw [h2] at q
          have q : Rs.ok (d :: dd) A2 = .ok ds A' := q
          cases q
          simp [ih xs σa A1 _ dd (and3 h).2.2 h2]
        | ex _ _ _ => rw [h2] at q; cases q
        | no => rw [h2] at q; cases q
      | ex _ _ _ => rw [h1] at q; cases q
      | no => rw [h1] at q; cases q
  | _ =>
    intro es σa A A' ds h q
    cases es <;> cases (show false = true from h)
theorem small {n : Nat} (h : n ≤ 1000) : n ≤ sizeLine := Nat.le_trans h (by decide)
/-- a new list -/
theorem new_list {w : Wd} {A : AH} {m : Bool} {ds : List D} {vs : List V} {σ : L2.St} {Q : VK} {p : Addr} (hA : Abs T w A) (hp : w.H p = none) (r : RDs T w ds vs) (h : Post T W (RD T) w σ (liftH (some (mkL m ds A))) Q) : Q (.ref p) (upd w.H p (.lst vs)) := by
  cases m with
  | false =>
    have h : Post T W (RD T) w σ (.ok (.lst ds) A) Q := h
    refine h ⟨w.f, w.n, upd w.H p (.lst vs), w.hid⟩ (.ref p) (ext_laid hp) (hA.laid hp) ?_
    rw [RD]
    exact ⟨p, vs, rfl, lst_laid hA hp, RDs.mono (ext_laid hp) ds vs r⟩
  | true =>
    have h : Post T W (RD T) w σ (.ok (.ref A.length) (A ++ [.lst ds])) Q := h
    refine h (w.push p (.lst vs)) (.ref p) (ext_push hp) (hA.push hp ⟨vs, upd_same, RDs.mono (ext_push hp) ds vs r⟩) ?_
    rw [RD]
    refine ⟨by rw [hA.len]; exact Nat.lt_succ_self _, ?_⟩
    show V.ref p = .ref (if A.length = w.n then p else _)
    rw [if_pos hA.len]
theorem new_tup {w : Wd} {A : AH} {ds : List D} {vs : List V} {σ : L2.St} {Q : VK} {p : Addr} (hA : Abs T w A) (hp : w.H p = none) (r : RDs T w ds vs) (h : Post T W (RD T) w σ (.ok (.tup ds) A) Q) : Q (.ref p) (upd w.H p (.tup vs)) := by
  refine h ⟨w.f, w.n, upd w.H p (.tup vs), w.hid⟩ (.ref p) (ext_laid hp) (hA.laid hp) ?_
  rw [RD]
  exact ⟨p, vs, rfl, tup_laid hA hp, RDs.mono (ext_laid hp) ds vs r⟩
theorem s_tup {es' : E} {es : List Expr} {j : Nat} {p : Pos} (hl : es.length ≤ 1000) (hc : chks nm X.N X.env.scope es' es = true) (h : PA X es (tA T W (cA P k es'))) : PE X (.Tuple es j p) (tE T W (cE P k (.tup es'))) := by
  refine pe_imp (pe_tup h) fun σ H Q ⟨w, σa, A, e, hA, hS, hP⟩ => ?_
  subst e
  have hP : Post T W (RD T) w σ (bindR (cA P k es' σa A) fun ds H1 => .ok (.tup ds) H1) Q := hP
  refine ⟨w, σa, A, rfl, hA, hS, hP.bind fun w1 ds vs A1 e1 a1 r1 q1 h1 => ⟨?_, fun p hp => new_tup a1 hp r1 h1⟩⟩
  have := chks_len es' es σa A A1 ds hc q1
  rw [← r1.length, this]; exact small hl
theorem s_lst {es' : E} {es : List Expr} {m : Bool} {p : Pos} (hl : es.length ≤ 1000) (hc : chks nm X.N X.env.scope es' es = true) (h : PA X es (tA T W (cA P k es'))) : PE X (.List es p) (tE T W (cE P k (.lst m es'))) := by
  refine pe_imp (pe_lst h) fun σ H Q ⟨w, σa, A, e, hA, hS, hP⟩ => ?_
  subst e
  have hP : Post T W (RD T) w σ (bindR (cA P k es' σa A) fun ds H1 => liftH (some (mkL m ds H1))) Q := hP
  refine ⟨w, σa, A, rfl, hA, hS, hP.bind fun w1 ds vs A1 e1 a1 r1 q1 h1 => ⟨?_, fun p hp => new_list a1 hp r1 h1⟩⟩
  have := chks_len es' es σa A A1 ds hc q1
  rw [← r1.length, this]; exact small hl
theorem s_dnew {p : Pos} : PE X (.Dict [] [] p) (tE T W (cE P k .dnew)) := by
  refine pe_imp pe_dnewK fun σ H Q ⟨w, σa, A, e, hA, hS, hP⟩ => ?_
  subst e
  have h : Post T W (RD T) w σ (.ok (.ref A.length) (A ++ [.dic []])) Q := hP
  intro p hp
  refine h (w.push p (.dK [])) (.ref p) (ext_push hp) (hA.push hp ⟨[], upd_same, rfl⟩) ?_
  rw [RD]
  refine ⟨by rw [hA.len]; exact Nat.lt_succ_self _, ?_⟩
  show V.ref p = .ref (if A.length = w.n then p else _)
  rw [if_pos hA.len]

/-! ### operators -/
def CMulX (i j : Int) : Prop := i.natAbs.log2 + j.natAbs.log2 < 100000000
theorem CMulX.ok {i j : Int} (h : CMulX i j) : IntMulOk i j := by
  have b : ∀ x : Int, Builtin.Int.intBits x ≤ x.natAbs.log2 + 1 := fun x => by
    unfold Builtin.Int.intBits
    split <;> omega
  have h1 := b i
  have h2 := b j
  have h3 : i.natAbs.log2 + j.natAbs.log2 < 100000000 := h
  have e : bitsLine = 134217728 := by decide
  unfold IntMulOk
  intro z
  rw [Bool.and_eq_true] at z
  have z2 := z.2
  unfold Builtin.Int.intTooBig at z2
  have z3 := of_decide_eq_true z2
  rw [e] at z3
  omega
theorem op_mulX : OpR X (binaryOp .Mult) (rI CMulX fun i j => .int (i * j)) := opI fun _ _ _ _ _ _ _ hc q => mul_int q hc.ok
theorem sT_len (s : Tx) : (sT s).length = s.length := by simp [sT, Str.length]
theorem sT_app (s t : Tx) : sT s ++ sT t = sT (s ++ t) := by
  show (⟨s.toArray ++ t.toArray⟩ : Str) = ⟨(s ++ t).toArray⟩
  simp
theorem fold_rep (xs : List Nat) : ∀ (k : Nat) (acc : List Nat), (List.replicate k xs.toArray).foldl (· ++ ·) acc.toArray = (acc ++ (List.replicate k xs).flatten).toArray
  | 0, acc => by simp
  | k + 1, acc => by
    rw [List.replicate_succ, List.foldl_cons]
    have : acc.toArray ++ xs.toArray = (acc ++ xs).toArray := by simp
    rw [this, fold_rep xs k, List.replicate_succ, List.flatten_cons, List.append_assoc]
/-- a text times a number -/
def rRepS : R2 := fun x y H Q => ∃ (s : Tx) (n : Int), x = .str (sT s) ∧ y = .int n ∧ 2 ≤ n ∧ n ≤ 100000 ∧ 1 ≤ s.length ∧ s.length ≤ 100 ∧ Q (.str (sT (List.replicate n.toNat s).flatten)) H
theorem op_repS {X : Cx} : OpR X (binaryOp .Mult) rRepS := by
  intro pins st σ H x y v u Q I rx ry h
  obtain ⟨xs, n, rfl, rfl, h1, h2, h3, h4, q⟩ := h
  generalize hs : sT xs = s at *
  have hl : s.length = xs.length := by rw [← hs]; rfl
  rw [← hl] at h3 h4
  have hf : (⟨(List.replicate n.toNat s.cps).foldl (· ++ ·) #[]⟩ : Str) = sT (List.replicate n.toNat xs).flatten := by
    rw [← hs]
    refine congrArg Str.mk (Eq.trans (fold_rep xs n.toNat []) ?_)
    rw [List.nil_append]
  obtain ⟨t, rfl⟩ := rx
  obtain ⟨t', rfl⟩ := ry
  have hd : ¬ ((s.length : Int) > (2 ^ 63 - 1) / n) := by
    have : (100 : Int) ≤ (2 ^ 63 - 1) / n := Int.le_ediv_of_mul_le (by omega) (by omega)
    omega
  have hlen : s.length * n.toNat ≤ 10000000 := by
    have a1 : n.toNat ≤ 100000 := by omega
    exact Nat.le_trans (Nat.mul_le_mul h4 a1) (by decide)
  refine PySem.P.mul_str (by rw [decide_eq_false (by omega), decide_eq_false (by omega)]; rfl) (fun _ _ => hd) (fun _ _ => ?_) ?_
  · unfold Builtin.Str.tooLong
    have : ¬ s.length * n.toNat > sizeLine := by rw [sizeLine_eq]; omega
    exact decide_eq_false this
  · rw [if_neg (by omega)]
    have e : (n == 1 || s.length == 0) = false := by
      have a1 : (n == 1) = false := by
        have : n ≠ 1 := by omega
        simpa using this
      have a2 : (s.length == 0) = false := by
        have : s.length ≠ 0 := by omega
        simpa using this
      rw [a1, a2]; rfl
    rw [e]
    rw [if_neg (by decide), hf]
    refine ⟨?_, ⟨.str _, _, I.tok _, ⟨_, rfl⟩, q⟩⟩
    have e2 : (sT (List.replicate n.toNat xs).flatten).length = n.toNat * xs.length := by
      show (List.replicate n.toNat xs).flatten.toArray.size = _
      simp
    rw [e2, ← hl, Nat.mul_comm, sizeLine_eq]
    omega
def rOp (K : PySem.W.Frag) : Op → R2
  | .add => fun x y H Q => (fun x y H Q => (rI0 fun i j => .int (i + j)) x y H Q ∨ (∃ i j, x = .str i ∧ y = .str j ∧ i.length + j.length ≤ sizeLine ∧ Q (.str (i ++ j)) H)) x y H Q ∨ rCatT K x y H Q
  | .sub => rI0 fun i j => .int (i - j)
  | .mul => fun x y H Q => rI CMulX (fun i j => .int (i * j)) x y H Q ∨ rRepS x y H Q
  | .fdiv => rI CDiv fun i j => .int (i / j)
  | .mod => rI (fun _ j => 0 < j) fun i j => .int (i % j)
  | .pow => rI CPow fun i j => .int (i ^ j.toNat)
theorem op_op {o : Op} {p : Operator} (h : opB o p = true) : OpR X (binaryOp p) (rOp X.K o) := by
  cases o <;> cases p <;> first | cases h | skip
  · exact OpR.or (OpR.or op_add op_add_str) op_catT
  · exact op_sub
  · exact OpR.or op_mulX op_repS
  · exact op_fdiv
  · exact op_mod
  · exact op_pow
theorem op_of {w : Wd} {A : AH} {o : Op} {x y z : D} {v u : V} {σ : L2.St} {Q : VK} (hA : Abs T w A) (rx : RD T w x v) (ry : RD T w y u) (e : opD o x y = some z) (h : Post T W (RD T) w σ (.ok z A) Q) : rOp T.K o v u w.H Q := by
  unfold opD at e
  split at e
  · cases e
    rw [RD] at rx ry
    exact .inl (.inl ⟨_, _, rx, ry, h.now hA (by rw [RD])⟩)
  · split at e
    · cases e
      rw [RD] at rx ry
      refine .inl (.inr ⟨_, _, rx, ry, by rw [sT_len, sT_len]; assumption, ?_⟩)
      rw [sT_app]
      exact h.now hA (by rw [RD])
    · cases e
  · split at e
    · rename_i hz
      cases e
      have rx0 := rx
      have ry0 := ry
      rw [RD] at rx ry
      obtain ⟨a, vs, e1, t1, r1⟩ := rx
      obtain ⟨b, us, e2, t2, r2⟩ := ry
      refine .inr ⟨a, b, vs, us, e1, e2, t1.sq, t2.sq, fun z => hz.1 ?_, by rw [← r1.length, ← r2.length]; exact hz.2, fun z => ?_, fun _ p hp => new_tup hA hp (r1.append r2) h⟩
      · have := r1.length
        rw [z] at this
        exact List.eq_nil_of_length_eq_zero this
      · have hn := r2.length
        rw [z] at hn
        have hy := List.eq_nil_of_length_eq_zero hn
        subst hy
        rw [List.append_nil] at h
        rw [← e1]
        exact h.now hA rx0
    · cases e
  · cases e
    rw [RD] at rx ry
    exact ⟨_, _, rx, ry, h.now hA (by rw [RD])⟩
  · split at e
    · cases e
      rw [RD] at rx ry
      exact .inl ⟨_, _, rx, ry, by assumption, h.now hA (by rw [RD])⟩
    · cases e
  · split at e
    · rename_i hz
      cases e
      rw [RD] at rx
      rw [RD] at ry
      refine .inr ⟨_, _, rx, ry, hz.1, hz.2.1, hz.2.2.1, hz.2.2.2, ?_⟩
      exact h.now hA (by rw [RD])
    · cases e
  · split at e
    · cases e
      rw [RD] at rx ry
      exact ⟨_, _, rx, ry, by assumption, h.now hA (by rw [RD])⟩
    · cases e
  · split at e
    · cases e
      rw [RD] at rx ry
      exact ⟨_, _, rx, ry, by assumption, h.now hA (by rw [RD])⟩
    · cases e
  · split at e
    · cases e
      rw [RD] at rx ry
      exact ⟨_, _, rx, ry, by assumption, h.now hA (by rw [RD])⟩
    · cases e
  · cases e
theorem s_bin (g : Gd T P nm k W X) {o : Op} {p : Operator} {a b : E} {l r : Expr} {q : Pos} (ho : opB o p = true) (ha : PE X l (tE T W (cE P k a))) (hb : PE X r (tE T W (cE P k b))) : PE X (.BinOp l p r q) (tE T W (cE P k (.bin o a b))) := by
  refine pe_imp (pe_op (op_op ho) ha hb) fun σ H Q ⟨w, σa, A, e, hA, hS, hP⟩ => ?_
  subst e
  have hP : Post T W (RD T) w σ (bindR (cE P k a σa A) fun x H1 => bindR (cE P k b σa H1) fun y H2 => liftR (opD o x y) H2) Q := hP
  refine ⟨w, σa, A, rfl, hA, hS, hP.bind fun w1 x v A1 e1 a1 r1 _ h1 => ⟨w1, σa, A1, rfl, a1, hS.mono e1, h1.bind fun w2 y u A2 e2 a2 r2 _ h2 => ?_⟩⟩
  obtain ⟨z, ez, h3⟩ := h2.lift
  rw [g.K]
  exact op_of a2 (RD.mono e2 x v r1) r2 ez h3
end
end Ev
end

section
set_option Elab.async false
set_option linter.all false
set_option maxRecDepth 100000
/-! Comparisons, tests, subscripts. -/
namespace Ev
open PySem PySem.Spec PyProof.Rows L2
section
variable {T : Tb} {P : Pg} {nm : Nm} {k : Nat} {W : WX} {X : Cx} {sc : Scope} {w : Wd} {A : AH} {σ : L2.St}

/-! ### what a value is behind a reference -/
theorem view_lst (hA : Abs T w A) {x : D} {v : V} {xs : List D} (r : RD T w x v) (e : view A x = .lst xs) : ∃ a vs, v = .ref a ∧ w.H a = some (.lst vs) ∧ RDs T w xs vs := by
  cases x with
  | lst ys =>
    have e : D.lst ys = .lst xs := e
    cases e
    rw [RD] at r
    obtain ⟨a, vs, e1, t, q⟩ := r
    exact ⟨a, vs, e1, t.1, q⟩
  | ref i =>
    have e : (match A[i]? with
      | some (.lst xs) => D.lst xs
      | _ => .ref i) = .lst xs := e
    split at e
    · rename_i ys hy
      cases e
      rw [RD] at r
      obtain ⟨vs, h1, h2⟩ := hA.ob i _ hy
      exact ⟨_, vs, r.2, h1, h2⟩
    · cases e
  | non => cases (show D.non = .lst xs from e)
  | bl _ => cases (show D.bl _ = .lst xs from e)
  | int _ => cases (show D.int _ = .lst xs from e)
  | str _ => cases (show D.str _ = .lst xs from e)
  | tup _ => cases (show D.tup _ = .lst xs from e)
  | scr _ => cases (show D.scr _ = .lst xs from e)
theorem view_tup {x : D} {xs : List D} (e : view A x = .tup xs) : x = .tup xs := by
  cases x with
  | ref i =>
    have e : (match A[i]? with
      | some (.lst xs) => D.lst xs
      | _ => .ref i) = .tup xs := e
    split at e <;> cases e
  | lst _ => cases (show D.lst _ = .tup xs from e)
  | non => cases (show D.non = .tup xs from e)
  | bl _ => cases (show D.bl _ = .tup xs from e)
  | int _ => cases (show D.int _ = .tup xs from e)
  | str _ => cases (show D.str _ = .tup xs from e)
  | tup ys => exact e
  | scr _ => cases (show D.scr _ = .tup xs from e)
theorem view_str {x : D} {s : Tx} (e : view A x = .str s) : x = .str s := by
  cases x with
  | ref i =>
    have e : (match A[i]? with
      | some (.lst xs) => D.lst xs
      | _ => .ref i) = .str s := e
    split at e <;> cases e
  | lst _ => cases (show D.lst _ = .str s from e)
  | non => cases (show D.non = .str s from e)
  | bl _ => cases (show D.bl _ = .str s from e)
  | int _ => cases (show D.int _ = .str s from e)
  | str _ => exact e
  | tup ys => cases (show D.tup _ = .str s from e)
  | scr _ => cases (show D.scr _ = .str s from e)
theorem view_scr {x : D} {s : List Int} (e : view A x = .scr s) : x = .scr s := by
  cases x with
  | ref i =>
    have e : (match A[i]? with
      | some (.lst xs) => D.lst xs
      | _ => .ref i) = .scr s := e
    split at e <;> cases e
  | lst _ => cases (show D.lst _ = .scr s from e)
  | non => cases (show D.non = .scr s from e)
  | bl _ => cases (show D.bl _ = .scr s from e)
  | int _ => cases (show D.int _ = .scr s from e)
  | str _ => cases (show D.str _ = .scr s from e)
  | tup ys => cases (show D.tup _ = .scr s from e)
  | scr _ => exact e
theorem view_ref {x : D} {i : Nat} (e : view A x = .ref i) : x = .ref i := by
  cases x with
  | ref j =>
    have e : (match A[j]? with
      | some (.lst xs) => D.lst xs
      | _ => .ref j) = .ref i := e
    split at e <;> cases e
    rfl
  | lst _ => cases (show D.lst _ = .ref i from e)
  | non => cases (show D.non = .ref i from e)
  | bl _ => cases (show D.bl _ = .ref i from e)
  | int _ => cases (show D.int _ = .ref i from e)
  | str _ => cases (show D.str _ = .ref i from e)
  | tup ys => cases (show D.tup _ = .ref i from e)
  | scr _ => cases (show D.scr _ = .ref i from e)
theorem rd_str {s : Tx} {v : V} (r : RD T w (.str s) v) : v = .str (sT s) := by rw [RD] at r; exact r
theorem rd_int {s : Int} {v : V} (r : RD T w (.int s) v) : v = .int s := by rw [RD] at r; exact r
theorem rd_bl {s : Bool} {v : V} (r : RD T w (.bl s) v) : v = .bl s := by rw [RD] at r; exact r
theorem rd_non {v : V} (r : RD T w .non v) : v = .non := by rw [RD] at r; exact r
theorem rd_tup {xs : List D} {v : V} (r : RD T w (.tup xs) v) : ∃ a vs, v = .ref a ∧ TupAt T w a vs ∧ RDs T w xs vs := by rw [RD] at r; exact r
theorem rd_ref {i : Nat} {v : V} (r : RD T w (.ref i) v) : i < w.n ∧ v = .ref (w.f i) := by rw [RD] at r; exact r
theorem rd_bl' {b : Bool} : RD T w (.bl b) (.bl b) := by rw [RD]
theorem rd_int' {b : Int} : RD T w (.int b) (.int b) := by rw [RD]
theorem rd_str' {b : Tx} : RD T w (.str b) (.str (sT b)) := by rw [RD]
theorem rd_non' : RD T w .non .non := by rw [RD]
mutual
theorem dp_of : ∀ (d : D) (v : V) (p : PyData), RD T w d v → d.py = some p → Dp T.K w.H v p
  | .non, v, p, r, e => by rw [rd_non r]; cases e; exact .non
  | .bl b, v, p, r, e => by rw [rd_bl r]; cases e; exact .bl b
  | .int i, v, p, r, e => by rw [rd_int r]; cases e; exact .int i
  | .str s, v, p, r, e => by rw [rd_str r]; cases e; exact .str _
  | .tup xs, v, p, r, e => by
    rw [RD] at r
    obtain ⟨a, vs, rfl, t, q⟩ := r
    rw [D.py] at e
    split at e
    · rename_i ps hp
      cases e
      exact .tup t.sq (dps_of xs vs ps q hp)
    · cases e
  | .lst xs, v, p, r, e => by
    rw [RD] at r
    obtain ⟨a, vs, rfl, t, q⟩ := r
    rw [D.py] at e
    split at e
    · rename_i ps hp
      cases e
      exact .lst t.sq (dps_of xs vs ps q hp)
    · cases e
  | .ref i, v, p, r, e => by rw [D.py] at e; cases e
  | .scr i, v, p, r, e => by rw [D.py] at e; cases e
theorem dps_of : ∀ (ds : List D) (vs : List V) (ps : List PyData), RDs T w ds vs → D.pys ds = some ps → DpAll T.K w.H vs ps
  | [], vs, ps, r, e => by
    rw [RDs] at r; subst r
    rw [D.pys] at e; cases e
    exact .nil
  | x :: xs, vs, ps, r, e => by
    rw [RDs] at r
    obtain ⟨v, rr, rfl, h1, h2⟩ := r
    rw [D.pys] at e
    split at e
    · rename_i p ps' hp hps
      cases e
      exact .cons (dp_of x v p h1 hp) (dps_of xs rr ps' h2 hps)
    · cases e
end
theorem dp_view (hA : Abs T w A) {x : D} {v : V} {p : PyData} (r : RD T w x v) (e : (view A x).py = some p) : Dp T.K w.H v p := by
  cases h : view A x with
  | lst xs =>
    rw [h] at e
    obtain ⟨a, vs, rfl, h1, h2⟩ := view_lst hA r h
    rw [D.py] at e
    split at e
    · rename_i ps hp
      cases e
      exact .lst (.inl (.inl h1)) (dps_of xs vs ps h2 hp)
    · cases e
  | ref i =>
    rw [h, D.py] at e; cases e
  | scr i =>
    rw [h, D.py] at e; cases e
  | non =>
    have hx : x = .non := by
      cases x <;> first | rfl | cases (show D.bl _ = .non from h) | cases (show D.int _ = .non from h) | cases (show D.str _ = .non from h) | cases (show D.tup _ = .non from h) | cases (show D.lst _ = .non from h) | cases (show D.scr _ = .non from h) | skip
      · rename_i j
        have h : (match A[j]? with
          | some (.lst xs) => D.lst xs
          | _ => .ref j) = .non := h
        split at h <;> cases h
    rw [h] at e
    rw [hx] at r
    exact dp_of _ _ _ r e
  | bl b =>
    have hx : x = .bl b := by
      cases x <;> first | exact h | skip
      · rename_i j
        have h : (match A[j]? with
          | some (.lst xs) => D.lst xs
          | _ => .ref j) = .bl b := h
        split at h <;> cases h
    rw [h] at e
    rw [hx] at r
    exact dp_of _ _ _ r e
  | int b =>
    have hx : x = .int b := by
      cases x <;> first | exact h | skip
      · rename_i j
        have h : (match A[j]? with
          | some (.lst xs) => D.lst xs
          | _ => .ref j) = .int b := h
        split at h <;> cases h
    rw [h] at e
    rw [hx] at r
    exact dp_of _ _ _ r e
  | str b =>
    rw [h] at e
    rw [view_str h] at r
    exact dp_of _ _ _ r e
  | tup b =>
    rw [h] at e
    rw [view_tup h] at r
    exact dp_of _ _ _ r e

/-! ### == -/
theorem sT_eq (s t : Tx) : decide (V.str (sT s) = V.str (sT t)) = decide (s = t) := by
  by_cases h : s = t
  · subst h; simp
  · rw [decide_eq_false h, decide_eq_false]
    intro z
    exact h (sT_inj (V.str.inj z))
def rEqq (K : PySem.W.Frag) : R2 := fun x y H Q => rEq x y H Q ∨ rEqD K x y H Q
def rNee (K : PySem.W.Frag) : R2 := fun x y H Q => rNe x y H Q ∨ rNeD K x y H Q
theorem eq_of (hA : Abs T w A) {x y : D} {v u : V} {b : Bool} (rx : RD T w x v) (ry : RD T w y u) (e : eqD A x y = some b) : (scal v u = true ∧ b = decide (v = u)) ∨ ∃ p q, Dp T.K w.H v p ∧ Dp T.K w.H u q ∧ SeqAt.shaped p = true ∧ SeqAt.shaped q = true ∧ b = PyData.eqv p q := by
  unfold eqD at e
  split at e
  · cases e
    rw [rd_str rx, rd_str ry]
    exact .inl ⟨rfl, (sT_eq _ _).symm⟩
  · cases e
    rw [rd_int rx, rd_int ry]
    refine .inl ⟨rfl, ?_⟩
    simp
  · cases e
    rw [rd_bl rx, rd_bl ry]
    refine .inl ⟨rfl, ?_⟩
    simp
  · cases e
    rw [rd_non rx, rd_non ry]
    exact .inl ⟨rfl, by simp⟩
  · split at e
    · rename_i p q hp hq
      split at e
      · rename_i hs
        cases e
        exact .inr ⟨p, q, dp_view hA rx hp, dp_view hA ry hq, hs.1, hs.2, rfl⟩
      · cases e
    · cases e

/-! ### in -/
theorem flat_of {x : D} {v : V} (r : RD T w x v) (h : flatD x = true) : flatV v = true := by
  cases x with
  | non => rw [rd_non r]; rfl
  | bl _ => rw [rd_bl r]; rfl
  | int _ => rw [rd_int r]; rfl
  | str _ => rw [rd_str r]; rfl
  | _ => cases h
theorem feq_of {x y : D} {v u : V} (rx : RD T w x v) (ry : RD T w y u) (hx : flatD x = true) (hy : flatD y = true) : eqV v u = feq x y := by
  cases x <;> first | (cases hx; done) | skip
  all_goals cases y <;> first | (cases hy; done) | skip
  all_goals
    first | rw [rd_non rx] | rw [rd_bl rx] | rw [rd_int rx] | rw [rd_str rx]
    first | rw [rd_non ry] | rw [rd_bl ry] | rw [rd_int ry] | rw [rd_str ry]
  all_goals first | rfl | skip
  rename_i s t
  show (sT s == sT t) = decide (s = t)
  by_cases h : s = t
  · subst h; simp
  · rw [decide_eq_false h]
    simpa using fun z => h (sT_inj z)
theorem flats_of : ∀ {xs : List D} {vs : List V}, RDs T w xs vs → xs.all flatD = true → vs.all flatV = true
  | [], vs, r, _ => by rw [RDs] at r; subst r; rfl
  | x :: xs, vs, r, h => by
    rw [RDs] at r
    obtain ⟨v, rr, rfl, h1, h2⟩ := r
    rw [List.all_cons, Bool.and_eq_true] at h ⊢
    exact ⟨flat_of h1 h.1, flats_of h2 h.2⟩
theorem in_of {x : D} {v : V} (rx : RD T w x v) (hx : flatD x = true) : ∀ {xs : List D} {vs : List V}, RDs T w xs vs → xs.all flatD = true → inV v vs = xs.any fun y => feq y x
  | [], vs, r, _ => by rw [RDs] at r; subst r; rfl
  | y :: xs, vs, r, h => by
    rw [RDs] at r
    obtain ⟨u, rr, rfl, h1, h2⟩ := r
    rw [List.all_cons, Bool.and_eq_true] at h
    have ih := in_of rx hx h2 h.2
    show (eqV u v || rr.any fun y => eqV y v) = _
    rw [List.any_cons, feq_of h1 rx h.1 hx, ← ih]
    rfl
theorem rks_look : ∀ {kvs : List (DK × D)} {ws : List (Key × V)} {q : DK}, RKs T w kvs ws → (∀ d, lookK q kvs = some d → ∃ v, valV ws (kV' q) = some v ∧ RD T w d v) ∧ (lookK q kvs = none → valV ws (kV' q) = none)
  | [], ws, q, r => by
    have r : ws = [] := r
    subst r
    exact ⟨fun d h => absurd (show (none : Option D) = some d from h) (by simp), fun _ => rfl⟩
  | (p, e) :: kvs, ws, q, r => by
    obtain ⟨v, rr, rfl, h1, h2⟩ := r
    have ih := rks_look (q := q) h2
    by_cases hq : p = q
    · subst hq
      have l : lookK p ((p, e) :: kvs) = some e := by show (if p = p then _ else _) = _; rw [if_pos rfl]
      rw [l, valV_pos (by rfl)]
      exact ⟨fun d h => by cases h; exact ⟨v, rfl, h1⟩, fun h => absurd h (by simp)⟩
    · have l : lookK q ((p, e) :: kvs) = lookK q kvs := by show (if p = q then _ else _) = _; rw [if_neg hq]
      have hv : valV ((kV' p, v) :: rr) (kV' q) = valV rr (kV' q) := by
        unfold valV
        rw [List.find?_cons]
        have : decide ((kV' p, v).1 = kV' q) = false := decide_eq_false fun z => hq (kV'_inj z)
        rw [this]
      rw [l, hv]
      exact ih
theorem key_of {x : D} {v : V} {q : DK} (r : RD T w x v) (e : keyD x = some q) : v = kV (kV' q) := by
  cases x with
  | int i => cases e; rw [rd_int r]; rfl
  | str i => cases e; rw [rd_str r]; rfl
  | _ => cases e
theorem dic_at (hA : Abs T w A) {i : Nat} {kvs : List (DK × D)} (e : A[i]? = some (.dic kvs)) : ∃ ws, w.H (w.f i) = some (.dK ws) ∧ RKs T w kvs ws := hA.ob i _ e
def rInn (K : PySem.W.Frag) (neg : Bool) : R2 := fun x y H Q => (fun x y H Q => rIn K neg x y H Q ∨ (∃ (c : Nat) (z : Str), x = .str ⟨#[c]⟩ ∧ y = .str z ∧ Q (.bl (if neg then !decide (c ∈ z.cps.toList) else decide (c ∈ z.cps.toList))) H)) x y H Q ∨
  ∃ a o, y = .ref a ∧ DGet H a x o ∧ Q (.bl (if neg then !o.isSome else o.isSome)) H
theorem op_inn (hu : X.A.units + 1 < cLine) : OpR X (compareOp .In) (rInn X.K false) := by
  refine OpR.or (OpR.or op_in_seq op_in_sign) ?_
  intro pins s σ H x y v u Q I rx ry h
  obtain ⟨a, o, rfl, gd, q⟩ := h
  cases ry
  exact d_in hu I gd rx fun s' I' => ⟨.bl _, H, I', rfl, q⟩
theorem op_nin (hu : X.A.units + 1 < cLine) : OpR X (compareOp .NotIn) (rInn X.K true) := by
  refine OpR.or (OpR.or op_notIn_seq op_notIn_sign) ?_
  intro pins s σ H x y v u Q I rx ry h
  obtain ⟨a, o, rfl, gd, q⟩ := h
  cases ry
  exact d_notIn hu I gd rx fun s' I' => ⟨.bl _, H, I', rfl, q⟩
theorem inn_of (hA : Abs T w A) {neg : Bool} {x y : D} {v u : V} {b : Bool} {Q : VK} (rx : RD T w x v) (ry : RD T w y u) (e : inD A x y = some b) (q : Q (.bl (if neg then !b else b)) w.H) : rInn T.K neg v u w.H Q := by
  unfold inD at e
  split at e
  · rename_i xs hv
    split at e
    · rename_i hf
      cases e
      rw [Bool.and_eq_true] at hf
      obtain ⟨a, vs, rfl, h1, h2⟩ := view_lst hA ry hv
      refine .inl (.inl ⟨a, vs, rfl, .inl (.inl (.inl h1)), flat_of rx hf.1, flats_of h2 hf.2, ?_⟩)
      rw [in_of rx hf.1 h2 hf.2]; exact q
    · cases e
  · rename_i xs hv
    split at e
    · rename_i hf
      cases e
      rw [Bool.and_eq_true] at hf
      rw [view_tup hv] at ry
      obtain ⟨a, vs, rfl, h1, h2⟩ := rd_tup ry
      refine .inl (.inl ⟨a, vs, rfl, .inr h1.sq, flat_of rx hf.1, flats_of h2 hf.2, ?_⟩)
      rw [in_of rx hf.1 h2 hf.2]; exact q
    · cases e
  · rename_i s hv
    split at e
    · rename_i c
      cases e
      rw [view_str hv] at ry
      rw [rd_str ry]
      refine .inl (.inr ⟨c, sT s, ?_, rfl, q⟩)
      rw [rd_str rx]; rfl
    · cases e
  · rename_i i hv
    split at e
    · rename_i kvs kk hk hq
      cases e
      rw [view_ref hv] at ry
      obtain ⟨ws, h1, h2⟩ := dic_at hA hk
      have l := rks_look (q := kk) h2
      refine .inr ⟨w.f i, valV ws (kV' kk), (rd_ref ry).2, ?_, ?_⟩
      · rw [key_of rx hq]; exact DGet.k h1
      · cases hl : lookK kk kvs with
        | none =>
          rw [l.2 hl]
          rw [hl] at q; exact q
        | some d =>
          obtain ⟨v', e1, _⟩ := l.1 d hl
          rw [e1]
          rw [hl] at q; exact q
    · cases e
  · cases e

/-! ### a comparison -/
def rC (K : PySem.W.Frag) : Cp → R2
  | .eq => rEqq K
  | .ne => rNee K
  | .lt => fun x y H Q => (rI0 fun i j => .bl (decide (i < j))) x y H Q ∨ (∃ i j, x = .str i ∧ y = .str j ∧ Q (.bl (decide (i.cps.toList < j.cps.toList))) H)
  | .le => fun x y H Q => (rI0 fun i j => .bl (decide (i ≤ j))) x y H Q ∨ (∃ i j, x = .str i ∧ y = .str j ∧ Q (.bl (!decide (j.cps.toList < i.cps.toList))) H)
  | .gt => rI0 fun i j => .bl (decide (j < i))
  | .ge => rI0 fun i j => .bl (decide (j ≤ i))
  | .inn => rInn K false
  | .nin => rInn K true
theorem op_cp (g : Gd T P nm k W X) {o : Cp} {p : CmpOp} (h : cpB o p = true) : OpR X (compareOp p) (rC X.K o) := by
  have hu := g.room.units
  have hu1 : X.A.units + 1 < cLine := by omega
  cases o <;> cases p <;> first | cases h | skip
  · exact OpR.or op_eq (op_eqD hu)
  · exact OpR.or op_ne (op_neD hu)
  · exact OpR.or op_lt op_lt_str
  · exact OpR.or op_le op_le_str
  · exact op_gt
  · exact op_ge
  · exact op_inn hu1
  · exact op_nin hu1
theorem cp_of (hA : Abs T w A) {o : Cp} {x y : D} {v u : V} {b : Bool} {Q : VK} (rx : RD T w x v) (ry : RD T w y u) (e : cmpD A o x y = some b) (q : Q (.bl b) w.H) : rC T.K o v u w.H Q := by
  unfold cmpD at e
  split at e
  · rcases eq_of hA rx ry e with ⟨h1, rfl⟩ | ⟨p, r, h1, h2, h3, h4, rfl⟩
    · exact .inl ⟨h1, q⟩
    · exact .inr ⟨p, r, h1, h2, h3, h4, q⟩
  · obtain ⟨c, hc, rfl⟩ := Option.map_eq_some_iff.mp e
    rcases eq_of hA rx ry hc with ⟨h1, rfl⟩ | ⟨p, r, h1, h2, h3, h4, rfl⟩
    · exact .inl ⟨h1, q⟩
    · exact .inr ⟨p, r, h1, h2, h3, h4, q⟩
  · cases e
    exact .inl ⟨_, _, rd_int rx, rd_int ry, q⟩
  · cases e
    exact .inl ⟨_, _, rd_int rx, rd_int ry, q⟩
  · cases e
    exact ⟨_, _, rd_int rx, rd_int ry, q⟩
  · cases e
    exact ⟨_, _, rd_int rx, rd_int ry, q⟩
  · cases e
    exact .inr ⟨_, _, rd_str rx, rd_str ry, q⟩
  · cases e
    exact .inr ⟨_, _, rd_str rx, rd_str ry, q⟩
  · exact inn_of hA (neg := false) rx ry e q
  · obtain ⟨c, hc, rfl⟩ := Option.map_eq_some_iff.mp e
    exact inn_of hA (neg := true) rx ry hc q
  · cases e
theorem s_cmp (g : Gd T P nm k W X) {o : Cp} {p : CmpOp} {a b : E} {l r : Expr} {q : Pos} (ho : cpB o p = true) (hr : plainE r = true) (ha : PE X l (tE T W (cE P k a))) (hb : PE X r (tE T W (cE P k b))) :
    PE X (.Compare l [p] [r] q) (tE T W (cE P k (.cmp o a b))) ∧ PT X (.Compare l [p] [r] q) (tT T W (cT P k (.cmp o a b))) := by
  constructor
  · refine pe_imp (pe_cmpR (op_cp g ho) ha hb (plain_mark hr)) fun σ H Q ⟨w, σa, A, e, hA, hS, hP⟩ => ?_
    subst e
    have hP : Post T W (RD T) w σ (bindR (cE P k a σa A) fun x H1 => bindR (cE P k b σa H1) fun y H2 => liftR ((cmpD H2 o x y).map .bl) H2) Q := hP
    refine ⟨w, σa, A, rfl, hA, hS, hP.bind fun w1 x v A1 e1 a1 r1 _ h1 => ⟨w1, σa, A1, rfl, a1, hS.mono e1, h1.bind fun w2 y u A2 e2 a2 r2 _ h2 => ?_⟩⟩
    obtain ⟨z, ez, h3⟩ := h2.lift
    obtain ⟨c, hc, rfl⟩ := Option.map_eq_some_iff.mp ez
    rw [g.K]
    exact cp_of a2 (RD.mono e2 x v r1) r2 hc (h3.now a2 rd_bl')
  · refine pt_imp (pt_cmpR (op_cp g ho) ha hb (plain_mark hr)) fun σ H Q ⟨w, σa, A, e, hA, hS, hP⟩ => ?_
    subst e
    have hP : Post T W RB w σ (bindR (cE P k a σa A) fun x H1 => bindR (cE P k b σa H1) fun y H2 => liftR (cmpD H2 o x y) H2) Q := hP
    refine ⟨w, σa, A, rfl, hA, hS, hP.bind fun w1 x v A1 e1 a1 r1 _ h1 => ⟨w1, σa, A1, rfl, a1, hS.mono e1, h1.bind fun w2 y u A2 e2 a2 r2 _ h2 => ?_⟩⟩
    obtain ⟨z, ez, h3⟩ := h2.lift
    rw [g.K]
    exact cp_of a2 (RD.mono e2 x v r1) r2 ez ⟨z, rfl, h3.now a2 rfl⟩
theorem isNon_of {x : D} {v : V} (r : RD T w x v) : decide (v = .non) = isNon x := by
  cases x with
  | non => rw [rd_non r]; rfl
  | bl _ => rw [rd_bl r]; rfl
  | int _ => rw [rd_int r]; rfl
  | str _ => rw [rd_str r]; rfl
  | tup _ => obtain ⟨a, vs, rfl, _⟩ := rd_tup r; rfl
  | lst _ => rw [RD] at r; obtain ⟨a, vs, rfl, _⟩ := r; rfl
  | ref _ => rw [(rd_ref r).2]; rfl
  | scr _ => rw [RD] at r; obtain ⟨a, rfl, _⟩ := r; rfl
theorem s_isn {n : Bool} {p : CmpOp} {a : E} {l : Expr} {j : Nat} {q q' : Pos} (ho : p = if n then CmpOp.IsNot else CmpOp.Is) (ha : PE X l (tE T W (cE P k a))) :
    PE X (.Compare l [p] [.Constant .none j q'] q) (tE T W (cE P k (.isn n a))) ∧ PT X (.Compare l [p] [.Constant .none j q'] q) (tT T W (cT P k (.isn n a))) := by
  have pc : PC X p l (.Constant .none j q') (fun σ H Q => tE T W (cE P k a) σ H fun x H1 => Q (.bl (n != decide (x = .non))) H1) := by
    subst ho
    cases n with
    | false =>
      refine ⟨fun pins s σ H Q I h => (pc_isN ha).run pins s σ H Q I ?_⟩
      obtain ⟨w, σa, A, e, hA, hS, hP⟩ := h
      exact ⟨w, σa, A, e, hA, hS, hP.mono fun v H q => by simpa using q⟩
    | true =>
      refine ⟨fun pins s σ H Q I h => (pc_notN ha).run pins s σ H Q I ?_⟩
      obtain ⟨w, σa, A, e, hA, hS, hP⟩ := h
      exact ⟨w, σa, A, e, hA, hS, hP.mono fun v H q => by simpa using q⟩
  constructor
  · refine pe_imp (pe_cmp pc rfl) fun σ H Q ⟨w, σa, A, e, hA, hS, hP⟩ => ?_
    subst e
    have hP : Post T W (RD T) w σ (bindR (cE P k a σa A) fun x H1 => .ok (.bl (n != isNon x)) H1) Q := hP
    refine ⟨w, σa, A, rfl, hA, hS, hP.bind fun w1 x v A1 e1 a1 r1 _ h1 => ?_⟩
    rw [isNon_of r1]
    exact h1.now a1 rd_bl'
  · refine pt_imp (pt_cmp pc rfl) fun σ H Q ⟨w, σa, A, e, hA, hS, hP⟩ => ?_
    subst e
    have hP : Post T W RB w σ (bindR (cE P k a σa A) fun x H1 => .ok (n != isNon x) H1) Q := hP
    refine ⟨w, σa, A, rfl, hA, hS, hP.bind fun w1 x v A1 e1 a1 r1 _ h1 => ⟨_, rfl, ?_⟩⟩
    rw [isNon_of r1]
    exact h1.now a1 rfl
theorem s_chain (g : Gd T P nm k W X) {o o2 : Cp} {p p2 : CmpOp} {a b c : E} {l m r : Expr} {q : Pos} (ho : cpB o p = true) (ho2 : cpB o2 p2 = true) (hr : plainE r = true) (ha : PE X l (tE T W (cE P k a))) (hb : PE X m (tE T W (cE P k b))) (hc : PE X r (tE T W (cE P k c))) :
    PE X (.Compare l [p, p2] [m, r] q) (tE T W (cE P k (.chain o o2 a b c))) ∧ PT X (.Compare l [p, p2] [m, r] q) (tT T W (cT P k (.chain o o2 a b c))) := by
  have hm : lastMarks [p, p2] [m, r] = false := plain_mark hr
  constructor
  · refine pe_imp (pe_chain (op_cp g ho) (op_cp g ho2) ha hb hc hm) fun σ H Q ⟨w, σa, A, e, hA, hS, hP⟩ => ?_
    subst e
    have hP : Post T W (RD T) w σ (bindR (cE P k a σa A) fun x H1 => bindR (cE P k b σa H1) fun y H2 => bindR (liftR (cmpD H2 o x y) H2) fun z H2 =>
      if z then bindR (cE P k c σa H2) fun w H3 => liftR ((cmpD H3 o2 y w).map .bl) H3 else .ok (.bl false) H2) Q := hP
    refine ⟨w, σa, A, rfl, hA, hS, hP.bind fun w1 x v A1 e1 a1 r1 _ h1 => ⟨w1, σa, A1, rfl, a1, hS.mono e1, h1.bind fun w2 y u A2 e2 a2 r2 _ h2 => ?_⟩⟩
    cases ez : cmpD A2 o x y with
    | none => rw [ez] at h2; exact h2.elim
    | some z =>
      rw [ez] at h2
      have h2 : Post T W (RD T) w2 σ (if z then bindR (cE P k c σa A2) fun w H3 => liftR ((cmpD H3 o2 y w).map .bl) H3 else .ok (.bl false) A2) Q := h2
      rw [g.K]
      refine cp_of a2 (RD.mono e2 x v r1) r2 ez ⟨z, rfl, ?_⟩
      cases z with
      | false => exact h2.now a2 rd_bl'
      | true =>
        refine ⟨w2, σa, A2, rfl, a2, hS.mono (e1.trans e2), h2.bind fun w3 t tv A3 e3 a3 r3 _ h3 => ?_⟩
        obtain ⟨z, ez, h4⟩ := h3.lift
        obtain ⟨c, hc, rfl⟩ := Option.map_eq_some_iff.mp ez
        exact cp_of a3 (RD.mono e3 y u r2) r3 hc (h4.now a3 rd_bl')
  · refine pt_imp (pt_chain (op_cp g ho) (op_cp g ho2) ha hb hc hm) fun σ H Q ⟨w, σa, A, e, hA, hS, hP⟩ => ?_
    subst e
    have hP : Post T W RB w σ (bindR (cE P k a σa A) fun x H1 => bindR (cE P k b σa H1) fun y H2 => bindR (liftR (cmpD H2 o x y) H2) fun z H2 =>
      if z then bindR (cE P k c σa H2) fun w H3 => liftR (cmpD H3 o2 y w) H3 else .ok false H2) Q := hP
    refine ⟨w, σa, A, rfl, hA, hS, hP.bind fun w1 x v A1 e1 a1 r1 _ h1 => ⟨w1, σa, A1, rfl, a1, hS.mono e1, h1.bind fun w2 y u A2 e2 a2 r2 _ h2 => ?_⟩⟩
    cases ez : cmpD A2 o x y with
    | none => rw [ez] at h2; exact h2.elim
    | some z =>
      rw [ez] at h2
      have h2 : Post T W RB w2 σ (if z then bindR (cE P k c σa A2) fun w H3 => liftR (cmpD H3 o2 y w) H3 else .ok false A2) Q := h2
      rw [g.K]
      refine cp_of a2 (RD.mono e2 x v r1) r2 ez ⟨z, rfl, ?_⟩
      cases z with
      | false => exact ⟨false, rfl, h2.now a2 rfl⟩
      | true =>
        refine ⟨w2, σa, A2, rfl, a2, hS.mono (e1.trans e2), h2.bind fun w3 t tv A3 e3 a3 r3 _ h3 => ?_⟩
        obtain ⟨z, ez, h4⟩ := h3.lift
        exact cp_of a3 (RD.mono e3 y u r2) r3 ez ⟨z, rfl, h4.now a3 rfl⟩
theorem putK_map : ∀ {kvs : List (DK × D)} {ws : List (Key × V)} {w : Wd} {q : DK} {d : D} {v : V}, RKs T w kvs ws → RD T w d v → RKs T w (putK q d kvs) (L2.putK ws (kV' q) v) := by
  intro kvs ws w q d v r rd
  have any : (kvs.any fun kv => decide (kv.1 = q)) = (ws.any fun kv => decide (kv.1 = kV' q)) := by
    clear rd
    induction kvs generalizing ws with
    | nil =>
      have r : ws = [] := r
      subst r; rfl
    | cons x r' ih =>
      obtain ⟨p, e⟩ := x
      obtain ⟨u, rr, rfl, h1, h2⟩ := r
      rw [List.any_cons, List.any_cons, ih h2]
      congr 1
      by_cases h : p = q
      · subst h; simp
      · rw [decide_eq_false h, decide_eq_false fun z => h (kV'_inj z)]
  have mp : ∀ {kvs : List (DK × D)} {ws : List (Key × V)}, RKs T w kvs ws → RKs T w (kvs.map (fun kv => if kv.1 = q then (kv.1, d) else kv)) (ws.map (fun kv => if kv.1 = kV' q then (kv.1, v) else kv)) := by
    intro kvs
    induction kvs with
    | nil =>
      intro ws r
      have r : ws = [] := r
      subst r
      exact (show RKs T w [] [] from rfl)
    | cons x r' ih =>
      intro ws r
      obtain ⟨p, e⟩ := x
      obtain ⟨u, rr, rfl, h1, h2⟩ := r
      rw [List.map_cons, List.map_cons]
      by_cases h : p = q
      · subst h
        simp only [if_pos]
        exact ⟨v, _, rfl, rd, ih h2⟩
      · have h' : ¬ kV' p = kV' q := fun z => h (kV'_inj z)
        rw [if_neg h, if_neg h']
        exact ⟨u, _, rfl, h1, ih h2⟩
  have app : ∀ {kvs : List (DK × D)} {ws : List (Key × V)}, RKs T w kvs ws → RKs T w (kvs ++ [(q, d)]) (ws ++ [(kV' q, v)]) := by
    intro kvs
    induction kvs with
    | nil =>
      intro ws r
      have r : ws = [] := r
      subst r
      exact ⟨v, [], rfl, rd, rfl⟩
    | cons x r' ih =>
      intro ws r
      obtain ⟨p, e⟩ := x
      obtain ⟨u, rr, rfl, h1, h2⟩ := r
      exact ⟨u, _, rfl, h1, ih h2⟩
  unfold putK L2.putK
  rw [any]
  split
  · exact mp r
  · exact app r
theorem rks_length : ∀ {kvs : List (DK × D)} {ws : List (Key × V)} {w : Wd}, RKs T w kvs ws → kvs.length = ws.length
  | [], ws, w, r => by
    have r : ws = [] := r
    subst r; rfl
  | (p, e) :: kvs, ws, w, r => by
    obtain ⟨u, rr, rfl, h1, h2⟩ := r
    simp [rks_length h2]
/-! ### a written dict -/
theorem pe_conB {d : D} {e : Expr} (h : conB d e = true) : ∃ v, PE X e (tC v) ∧ ∀ w, RD T w d v := by
  cases e <;> first | (cases (show false = true from h); done) | skip
  rename_i c j p
  have h : conC d c = true := h
  cases d <;> cases c <;> first | (cases (show false = true from h); done) | skip
  · exact ⟨_, pe_non, fun w => rd_non'⟩
  · obtain rfl := eq_of_beq h
    exact ⟨_, pe_bl, fun w => rd_bl'⟩
  · obtain rfl := of_decide_eq_true h
    exact ⟨_, pe_int, fun w => rd_int'⟩
  · obtain rfl := of_decide_eq_true h
    exact ⟨_, pe_str, fun w => rd_str'⟩
theorem kD_of {q : DK} {v : V} (r : RD T w (kD q) v) : v = kV (kV' q) := by
  cases q with
  | inl i => rw [rd_int r]; rfl
  | inr s => rw [rd_str r]; rfl
theorem pps_of {pos : Pos} : ∀ (kvs : List (DK × D)) (ks : List (Option Expr)) (vs : List Expr), dlB kvs ks vs = true → ∃ (trs : List (TE × TE)) (ws : List (Key × V)), PPs X pos ks vs trs ∧ ks.all (·.isSome) = true ∧ ks.length = vs.length ∧ ks.length = kvs.length ∧ ws.length = kvs.length ∧
    (∀ w : Wd, RKs T w kvs ws) ∧ ∀ σ H Q, Q (ws.map fun kv => (kV kv.1, kv.2)) H → tPairs trs σ H Q
  | [], [], [], _ => ⟨[], [], pps_nil, rfl, rfl, rfl, rfl, fun _ => rfl, fun _ _ _ q => q⟩
  | [], _ :: _, _, h => by cases (show false = true from h)
  | [], [], _ :: _, h => by cases (show false = true from h)
  | (k, d) :: r, [], _, h => by cases (show false = true from h)
  | (k, d) :: r, none :: _, _, h => by cases (show false = true from h)
  | (k, d) :: r, some _ :: _, [], h => by cases (show false = true from h)
  | (k, d) :: r, some e :: ks, v :: vs, h => by
    have h : (conB (kD k) e && conB d v && dlB r ks vs) = true := h
    obtain ⟨h1, h2, h3⟩ := and3 h
    obtain ⟨x, p1, r1⟩ := pe_conB (X := X) (T := T) h1
    obtain ⟨y, p2, r2⟩ := pe_conB (X := X) (T := T) h2
    obtain ⟨trs, ws, q1, q2, q3, q4, q5, q6, q7⟩ := pps_of r ks vs h3
    refine ⟨(tC x, tC y) :: trs, (kV' k, y) :: ws, pps_cons p1 p2 q1, by rw [List.all_cons, q2]; rfl, by simp [q3], by simp [q4], by simp [q5], fun w => ⟨y, ws, rfl, r2 w, q6 w⟩, fun σ H Q q => ?_⟩
    show tPairs trs σ H fun ps H3 => Q ((x, y) :: ps) H3
    refine q7 σ H _ ?_
    rw [kD_of (r1 ⟨fun _ => 0, 0, fun _ => none, fun _ => False⟩)]
    exact q
theorem merge_rk : ∀ {kvs : List (DK × D)} {ws : List (Key × V)} {acc : List (DK × D)} {bs : List (Key × V)}, RKs T w kvs ws → RKs T w acc bs → RKs T w (kvs.foldl (fun acc kv => putK kv.1 kv.2 acc) acc) (mergeK bs ws)
  | [], ws, acc, bs, r, q => by
    have r : ws = [] := r
    subst r; exact q
  | (k, d) :: r, ws, acc, bs, rr, q => by
    obtain ⟨v, ws', rfl, h1, h2⟩ := rr
    exact merge_rk (kvs := r) (ws := ws') h2 (putK_map q h1)
theorem upd_upd {H : Hp} {p : Addr} {a b : HO} : upd (upd H p a) p b = upd H p b := by
  funext x
  by_cases h : x = p
  · subst h; rw [upd_same, upd_same]
  · rw [upd_ne h, upd_ne h, upd_ne h]
theorem s_dlit {kvs : List (DK × D)} {ks : List (Option Expr)} {vs : List Expr} {p : Pos} (h : dlB kvs ks vs = true) (h0 : kvs ≠ []) (h15 : kvs.length ≤ 15) : PE X (.Dict ks vs p) (tE T W (cE P k (.dlit kvs))) := by
  obtain ⟨trs, ws, q1, q2, q3, q4, q5, q6, q7⟩ := pps_of (X := X) (T := T) (pos := p) kvs ks vs h
  refine pe_imp (pe_disp q1 q2 q3 (fun z => h0 (by rw [z] at q4; exact List.eq_nil_of_length_eq_zero q4.symm)) (by rw [q4]; exact h15)) fun σ H Q ⟨w, σa, A, e, hA, hS, hP⟩ => ?_
  subst e
  have hP : Post T W (RD T) w σ (.ok (.ref A.length) (A ++ [.dic (mergeD kvs)])) Q := hP
  intro a ha
  refine q7 _ _ _ ⟨upd_same, ws, rfl, by rw [q5]; exact h15, ?_⟩
  rw [upd_upd]
  refine hP (w.push a (.dK (mergeK [] ws))) (.ref a) (ext_push ha) (hA.push ha ⟨_, upd_same, merge_rk (q6 _) rfl⟩) ?_
  rw [RD]
  refine ⟨by rw [hA.len]; exact Nat.lt_succ_self _, ?_⟩
  show V.ref a = .ref (if A.length = w.n then a else _)
  rw [if_pos hA.len]
end
end Ev
end

section
set_option Elab.async false
set_option linter.all false
set_option maxRecDepth 100000
/-! Booleans, subscripts, slices, calls. -/
namespace Ev
open PySem PySem.Spec PyProof.Rows L2
abbrev cAnd (P : Pg) (k : Nat) (e : E) : Sl → AH → Rs D := evAnd (callF P k) P.glob e
abbrev cOr (P : Pg) (k : Nat) (e : E) : Sl → AH → Rs D := evOr (callF P k) P.glob e
abbrev cAndT (P : Pg) (k : Nat) (e : E) : Sl → AH → Rs Bool := evAndT (callF P k) P.glob e
abbrev cOrT (P : Pg) (k : Nat) (e : E) : Sl → AH → Rs Bool := evOrT (callF P k) P.glob e
section
variable {T : Tb} {P : Pg} {nm : Nm} {k : Nat} {W : WX} {X : Cx} {sc : Scope} {w : Wd} {A : AH} {σ : L2.St}
theorem boolD_of {x : D} {v : V} {b : Bool} (r : RD T w x v) (e : boolD x = some b) : v = .bl b := by
  cases x <;> cases e
  exact rd_bl r
/-! ### and, or, not -/
theorem s_and1 {e' : E} {e : Expr} {p : Pos} (h : PE X e (tE T W (cE P k e'))) : PE X (.BoolOp .And [e] p) (tE T W (cAnd P k (.cons e' .nil))) := pe_imp (pe_one h) fun σ H Q q => q
theorem s_or1 {e' : E} {e : Expr} {p : Pos} (h : PE X e (tE T W (cE P k e'))) : PE X (.BoolOp .Or [e] p) (tE T W (cOr P k (.cons e' .nil))) := pe_imp (pe_one h) fun σ H Q q => q
theorem s_andT1 {e' : E} {e : Expr} {p : Pos} (h : PT X e (tT T W (cT P k e'))) : PW X (.BoolOp .And [e] p) (tT T W (cAndT P k (.cons e' .nil))) := pw_imp (pw_and1 h) fun σ H Q q => q
theorem s_orT1 {e' : E} {e : Expr} {p : Pos} (h : PT X e (tT T W (cT P k e'))) : PW X (.BoolOp .Or [e] p) (tT T W (cOrT P k (.cons e' .nil))) := pw_imp (pw_or1 h) fun σ H Q q => q
theorem s_and {e' es' : E} {e x : Expr} {xs : List Expr} {p : Pos} (hn : isNil es' = false) (h : PE X e (tE T W (cE P k e'))) (hr : PE X (.BoolOp .And (x :: xs) p) (tE T W (cAnd P k es'))) : PE X (.BoolOp .And (e :: x :: xs) p) (tE T W (cAnd P k (.cons e' es'))) := by
  refine pe_imp (pe_and h hr) fun σ H Q ⟨w, σa, A, e, hA, hS, hP⟩ => ?_
  subst e
  have hP : Post T W (RD T) w σ (if isNil es' then cE P k e' σa A else bindR (cE P k e' σa A) fun x H1 => bindR (liftR (boolD x) H1) fun z H1 => if z then cAnd P k es' σa H1 else .ok (.bl false) H1) Q := hP
  rw [hn, if_neg Bool.false_ne_true] at hP
  refine ⟨w, σa, A, rfl, hA, hS, hP.bind fun w1 x v A1 e1 a1 r1 _ h1 => ?_⟩
  cases ez : boolD x with
  | none => rw [ez] at h1; exact h1.elim
  | some z =>
    rw [ez] at h1
    have h1 : Post T W (RD T) w1 σ (if z then cAnd P k es' σa A1 else .ok (.bl false) A1) Q := h1
    refine ⟨z, boolD_of r1 ez, ?_⟩
    cases z with
    | false => exact h1.now a1 rd_bl'
    | true => exact ⟨w1, σa, A1, rfl, a1, hS.mono e1, h1⟩
theorem s_or {e' es' : E} {e x : Expr} {xs : List Expr} {p : Pos} (hn : isNil es' = false) (h : PE X e (tE T W (cE P k e'))) (hr : PE X (.BoolOp .Or (x :: xs) p) (tE T W (cOr P k es'))) : PE X (.BoolOp .Or (e :: x :: xs) p) (tE T W (cOr P k (.cons e' es'))) := by
  refine pe_imp (pe_or h hr) fun σ H Q ⟨w, σa, A, e, hA, hS, hP⟩ => ?_
  subst e
  have hP : Post T W (RD T) w σ (if isNil es' then cE P k e' σa A else bindR (cE P k e' σa A) fun x H1 => bindR (liftR (boolD x) H1) fun z H1 => if z then .ok (.bl true) H1 else cOr P k es' σa H1) Q := hP
  rw [hn, if_neg Bool.false_ne_true] at hP
  refine ⟨w, σa, A, rfl, hA, hS, hP.bind fun w1 x v A1 e1 a1 r1 _ h1 => ?_⟩
  cases ez : boolD x with
  | none => rw [ez] at h1; exact h1.elim
  | some z =>
    rw [ez] at h1
    have h1 : Post T W (RD T) w1 σ (if z then .ok (.bl true) A1 else cOr P k es' σa A1) Q := h1
    refine ⟨z, boolD_of r1 ez, ?_⟩
    cases z with
    | true => exact h1.now a1 rd_bl'
    | false => exact ⟨w1, σa, A1, rfl, a1, hS.mono e1, h1⟩
theorem s_andT {e' es' : E} {e x : Expr} {xs : List Expr} {p : Pos} (hn : isNil es' = false) (h : PT X e (tT T W (cT P k e'))) (hr : PW X (.BoolOp .And (x :: xs) p) (tT T W (cAndT P k es'))) : PW X (.BoolOp .And (e :: x :: xs) p) (tT T W (cAndT P k (.cons e' es'))) := by
  refine pw_imp (pw_and h hr) fun σ H Q ⟨w, σa, A, e, hA, hS, hP⟩ => ?_
  subst e
  have hP : Post T W RB w σ (if isNil es' then cT P k e' σa A else bindR (cT P k e' σa A) fun x H1 => if x then cAndT P k es' σa H1 else .ok false H1) Q := hP
  rw [hn, if_neg Bool.false_ne_true] at hP
  refine ⟨w, σa, A, rfl, hA, hS, hP.bind fun w1 z v A1 e1 a1 r1 _ h1 => ?_⟩
  cases r1
  cases z with
  | false => exact h1.now a1 rfl
  | true => exact ⟨w1, σa, A1, rfl, a1, hS.mono e1, h1⟩
theorem s_orT {e' es' : E} {e x : Expr} {xs : List Expr} {p : Pos} (hn : isNil es' = false) (h : PT X e (tT T W (cT P k e'))) (hr : PW X (.BoolOp .Or (x :: xs) p) (tT T W (cOrT P k es'))) : PW X (.BoolOp .Or (e :: x :: xs) p) (tT T W (cOrT P k (.cons e' es'))) := by
  refine pw_imp (pw_or h hr) fun σ H Q ⟨w, σa, A, e, hA, hS, hP⟩ => ?_
  subst e
  have hP : Post T W RB w σ (if isNil es' then cT P k e' σa A else bindR (cT P k e' σa A) fun x H1 => if x then .ok true H1 else cOrT P k es' σa H1) Q := hP
  rw [hn, if_neg Bool.false_ne_true] at hP
  refine ⟨w, σa, A, rfl, hA, hS, hP.bind fun w1 z v A1 e1 a1 r1 _ h1 => ?_⟩
  cases r1
  cases z with
  | true => exact h1.now a1 rfl
  | false => exact ⟨w1, σa, A1, rfl, a1, hS.mono e1, h1⟩
theorem s_not {e' : E} {e : Expr} {p : Pos} (h : PE X e (tE T W (cE P k e'))) : PE X (.UnaryOp .Not e p) (tE T W (cE P k (.not e'))) := by
  refine pe_imp (pe_not h) fun σ H Q ⟨w, σa, A, e, hA, hS, hP⟩ => ?_
  subst e
  have hP : Post T W (RD T) w σ (bindR (cE P k e' σa A) fun x H1 => liftR ((notD x).map .bl) H1) Q := hP
  refine ⟨w, σa, A, rfl, hA, hS, hP.bind fun w1 x v A1 e1 a1 r1 _ h1 => ?_⟩
  obtain ⟨z, ez, h2⟩ := h1.lift
  obtain ⟨b, hb, rfl⟩ := Option.map_eq_some_iff.mp ez
  cases x <;> cases hb
  exact ⟨_, rd_bl r1, h2.now a1 rd_bl'⟩
theorem s_notT {e' : E} {e : Expr} {p : Pos} (h : PT X e (tT T W (cT P k e'))) : PT X (.UnaryOp .Not e p) (tT T W (cT P k (.not e'))) := by
  refine pt_imp (pt_not h) fun σ H Q ⟨w, σa, A, e, hA, hS, hP⟩ => ?_
  subst e
  have hP : Post T W RB w σ (bindR (cT P k e' σa A) fun x H1 => .ok (!x) H1) Q := hP
  refine ⟨w, σa, A, rfl, hA, hS, hP.bind fun w1 x v A1 e1 a1 r1 _ h1 => ?_⟩
  cases r1
  exact h1.now a1 rfl
theorem s_ite {c' a' b' : E} {c a b : Expr} {p : Pos} (hc : PT X c (tT T W (cT P k c'))) (ha : PE X a (tE T W (cE P k a'))) (hb : PE X b (tE T W (cE P k b'))) : PE X (.IfExp c a b p) (tE T W (cE P k (.ite c' a' b'))) := by
  refine pe_imp (pe_ifExp hc ha hb) fun σ H Q ⟨w, σa, A, e, hA, hS, hP⟩ => ?_
  subst e
  have hP : Post T W (RD T) w σ (bindR (cT P k c' σa A) fun z H1 => if z then cE P k a' σa H1 else cE P k b' σa H1) Q := hP
  refine ⟨w, σa, A, rfl, hA, hS, hP.bind fun w1 z v A1 e1 a1 r1 _ h1 => ?_⟩
  cases r1
  cases z with
  | true => exact ⟨w1, σa, A1, rfl, a1, hS.mono e1, h1⟩
  | false => exact ⟨w1, σa, A1, rfl, a1, hS.mono e1, h1⟩
theorem s_neg {a' : E} {a : Expr} {p : Pos} (ha : PE X a (tE T W (cE P k a'))) : PE X (.UnaryOp .USub a p) (tE T W (cE P k (.neg a'))) := by
  refine pe_imp (pe_un un_neg ha) fun σ H Q ⟨w, σa, A, e, hA, hS, hP⟩ => ?_
  subst e
  have hP : Post T W (RD T) w σ (bindR (cE P k a' σa A) fun x H1 => liftR ((intD x).map fun i => .int (-i)) H1) Q := hP
  refine ⟨w, σa, A, rfl, hA, hS, hP.bind fun w1 x v A1 e1 a1 r1 _ h1 => ?_⟩
  obtain ⟨z, ez, h2⟩ := h1.lift
  obtain ⟨b, hb, rfl⟩ := Option.map_eq_some_iff.mp ez
  cases x <;> cases hb
  exact ⟨_, rd_int r1, h2.now a1 rd_int'⟩
theorem s_cat {m : Bool} {a b : E} {l r : Expr} {q : Pos} (ha : PE X l (tE T W (cE P k a))) (hb : PE X r (tE T W (cE P k b))) : PE X (.BinOp l .Add r q) (tE T W (cE P k (.cat m a b))) := by
  refine pe_imp (pe_op op_cat ha hb) fun σ H Q ⟨w, σa, A, e, hA, hS, hP⟩ => ?_
  subst e
  have hP : Post T W (RD T) w σ (bindR (cE P k a σa A) fun x H1 => bindR (cE P k b σa H1) fun y H2 => liftH (catD m H2 x y)) Q := hP
  refine ⟨w, σa, A, rfl, hA, hS, hP.bind fun w1 x v A1 e1 a1 r1 _ h1 => ⟨w1, σa, A1, rfl, a1, hS.mono e1, h1.bind fun w2 y u A2 e2 a2 r2 _ h2 => ?_⟩⟩
  unfold catD at h2
  split at h2
  · rename_i xs ys hx hy
    split at h2
    · rename_i hl
      obtain ⟨p, vs, rfl, t1, q1⟩ := view_lst a2 (RD.mono e2 x v r1) hx
      obtain ⟨p', us, rfl, t2, q2⟩ := view_lst a2 r2 hy
      exact ⟨p, p', vs, us, rfl, rfl, t1, t2, by rw [← q1.length, ← q2.length]; exact hl, fun p hp => new_list a2 hp (q1.append q2) h2⟩
    · exact h2.elim
  · exact h2.elim

/-! ### subscripts, slices -/
theorem place_at {α : Type} (xs : List α) (i : Int) : place xs i = atI xs i := by
  unfold place atI ixN
  by_cases h : 0 ≤ i
  · rw [if_pos h, if_pos h]
    by_cases hl : i < xs.length
    · rw [if_pos hl]; rfl
    · rw [if_neg hl]
      show _ = none
      exact List.getElem?_eq_none (by omega)
  · rw [if_neg h, if_neg h]
    by_cases hl : -(xs.length : Int) ≤ i
    · rw [if_pos hl, if_pos (by omega)]; rfl
    · rw [if_neg hl, if_neg (by omega)]; rfl
theorem rds_place {xs : List D} {vs : List V} {i : Int} {d : D} (r : RDs T w xs vs) (h : place xs i = some d) : ∃ v, atI vs i = some v ∧ RD T w d v := by
  have hl := r.length
  unfold place at h
  split at h
  · rename_i h0
    obtain ⟨v, e, q⟩ := r.get h
    refine ⟨v, ?_, q⟩
    rw [← place_at]
    unfold place
    rw [if_pos h0]; exact e
  · split at h
    · rename_i h0 h1
      obtain ⟨v, e, q⟩ := r.get h
      refine ⟨v, ?_, q⟩
      rw [← place_at]
      unfold place
      rw [if_neg h0, if_pos (by omega), ← hl]; exact e
    · cases h
theorem idx_ok (g : Gd T P nm k W X) {a i : E} (σ : L2.St) (H : Hp) (Q : VK) (h : tE T W (cE P k (.idx a i)) σ H Q) : tOp (rIx X.K) (tE T W (cE P k a)) (tE T W (cE P k i)) σ H Q ∨ tDGet (tE T W (cE P k a)) (tE T W (cE P k i)) σ H Q := by
  obtain ⟨w, σa, A, e, hA, hS, hP⟩ := h
  subst e
  have hP : Post T W (RD T) w σ (bindR (cE P k a σa A) fun x H1 => bindR (cE P k i σa H1) fun y H2 => liftR (idxD H2 x y) H2) Q := hP
  by_cases hd : ∃ x A1 y A2 j, cE P k a σa A = .ok x A1 ∧ cE P k i σa A1 = .ok y A2 ∧ view A2 x = .ref j
  · obtain ⟨x0, A10, y0, A20, j, q1, q2, q3⟩ := hd
    refine .inr ⟨w, σa, A, rfl, hA, hS, hP.bind fun w1 x v A1 e1 a1 r1 e11 h1 => ⟨w1, σa, A1, rfl, a1, hS.mono e1, h1.bind fun w2 y u A2 e2 a2 r2 e22 h2 => ?_⟩⟩
    rw [q1] at e11; cases e11
    rw [q2] at e22; cases e22
    obtain ⟨z, ez, h3⟩ := h2.lift
    unfold idxD at ez
    rw [q3] at ez
    simp only at ez
    split at ez
    · rename_i kvs kk hk hq
      have rx := RD.mono e2 x0 v r1
      rw [view_ref q3] at rx
      obtain ⟨ws, t1, t2⟩ := dic_at a2 hk
      obtain ⟨v', e4, r4⟩ := (rks_look (q := kk) t2).1 z ez
      refine ⟨w2.f j, v', (rd_ref rx).2, ?_, h3.now a2 r4⟩
      rw [key_of r2 hq, ← e4]
      exact DGet.k t1
    · cases ez
  · refine .inl ⟨w, σa, A, rfl, hA, hS, hP.bind fun w1 x v A1 e1 a1 r1 e11 h1 => ⟨w1, σa, A1, rfl, a1, hS.mono e1, h1.bind fun w2 y u A2 e2 a2 r2 e22 h2 => ?_⟩⟩
    obtain ⟨z, ez, h3⟩ := h2.lift
    have rx := RD.mono e2 x v r1
    rw [g.K]
    unfold idxD at ez
    split at ez
    · rename_i xs j hx
      obtain ⟨p, vs, rfl, t1, t2⟩ := view_lst a2 rx hx
      obtain ⟨v', e4, r4⟩ := rds_place t2 ez
      exact .inl ⟨p, vs, j, v', rfl, rd_int r2, .inl (.inl t1), e4, h3.now a2 r4⟩
    · rename_i xs j hx
      rw [view_tup hx] at rx
      obtain ⟨p, vs, rfl, t1, t2⟩ := rd_tup rx
      obtain ⟨v', e4, r4⟩ := rds_place t2 ez
      exact .inr (.inl ⟨p, vs, j, v', rfl, rd_int r2, t1.sq, e4, h3.now a2 r4⟩)
    · rename_i s j hx
      rw [view_str hx] at rx
      split at ez
      · rename_i hl
        obtain ⟨c, hc, rfl⟩ := Option.map_eq_some_iff.mp ez
        rw [place_at] at hc
        exact .inr (.inr ⟨sT s, j, c, rd_str rx, rd_int r2, by rw [sT_len]; exact hl, hc, h3.now a2 rd_str'⟩)
      · cases ez
    · rename_i j d hx
      exact absurd ⟨_, _, _, _, _, e11, e22, hx⟩ hd
    · cases ez
theorem s_idx (g : Gd T P nm k W X) {a i : E} {l r : Expr} {q : Pos} (hr : plainE r = true) (ha : PE X l (tE T W (cE P k a))) (hb : PE X r (tE T W (cE P k i))) : PE X (.Subscript l r q) (tE T W (cE P k (.idx a i))) := by
  have hu := g.room.units
  exact pe_imp (pe_orE (pe_ix ix_seq ha hb (plain_ix hr)) (pe_dget (by omega) ha hb (plain_nosl hr))) (idx_ok g)
theorem s_part0 : PO X none (tP T W (cP P k .nil)) := ⟨fun pins s σ H Q I ⟨w, σa, A, e, hA, hS, hP⟩ => po_none.run pins s σ H Q I (by
  subst e
  have hP : Post T W RI w σ (.ok none A) Q := hP
  exact hP.now hA rfl)⟩
theorem s_part1 {e' es' : E} {e : Expr} (h : PE X e (tE T W (cE P k e'))) : PO X (some e) (tP T W (cP P k (.cons e' es'))) := ⟨fun pins s σ H Q I ⟨w, σa, A, e, hA, hS, hP⟩ => (po_some h).run pins s σ H Q I (by
  subst e
  have hP : Post T W RI w σ (bindR (cE P k e' σa A) fun x H1 => liftR ((intD x).map some) H1) Q := hP
  refine ⟨w, σa, A, rfl, hA, hS, hP.bind fun w1 x v A1 e1 a1 r1 _ h1 => ?_⟩
  obtain ⟨z, ez, h2⟩ := h1.lift
  obtain ⟨b, hb, rfl⟩ := Option.map_eq_some_iff.mp ez
  cases x <;> cases hb
  exact ⟨_, rd_int r1, h2.now a1 rfl⟩)⟩
theorem rds_cut {xs : List D} {vs : List V} (lo hi : Option Int) (r : RDs T w xs vs) : RDs T w (cutL xs lo hi) (cutV vs lo hi) := by
  have hl := r.length
  unfold cutL cutV
  rw [← hl]
  exact (r.drop _).take _
theorem rds_ints : ∀ (xs : List Int), RDs T w (xs.map .int) (xs.map .int)
  | [] => RDs.nil
  | x :: xs => RDs.cons rd_int' (rds_ints xs)
theorem cutV_ints (xs : List Int) (lo hi : Option Int) : cutV (xs.map V.int) lo hi = (cutL xs lo hi).map .int := by
  unfold cutV cutL
  rw [List.length_map, List.map_take, List.map_drop]
  rfl
theorem s_slc (g : Gd T P nm k W X) {m : Bool} {a lo hi : E} {l : Expr} {x1 x2 : Option Expr} {q q2 : Pos} (ha : PE X l (tE T W (cE P k a))) (hl : PO X x1 (tP T W (cP P k lo))) (hh : PO X x2 (tP T W (cP P k hi))) :
    PE X (.Subscript l (.Slice x1 x2 none q) q2) (tE T W (cE P k (.slc m a lo hi))) := by
  refine pe_imp (pe_slice (SlR.or sl_list (SlR.or sl_tup sl_str)) ha hl hh) fun σ H Q ⟨w, σa, A, e, hA, hS, hP⟩ => ?_
  subst e
  have hP : Post T W (RD T) w σ (bindR (cE P k a σa A) fun x H1 => bindR (cP P k lo σa H1) fun l H2 => bindR (cP P k hi σa H2) fun h H3 => liftH (slcD m H3 x l h)) Q := hP
  refine ⟨w, σa, A, rfl, hA, hS, hP.bind fun w1 x v A1 e1 a1 r1 _ h1 => ⟨w1, σa, A1, rfl, a1, hS.mono e1, h1.bind fun w2 l u A2 e2 a2 r2 _ h2 => ⟨w2, σa, A2, rfl, a2, hS.mono (e1.trans e2), h2.bind fun w3 h u2 A3 e3 a3 r3 _ h3 => ?_⟩⟩⟩
  have rx := RD.mono (e2.trans e3) x v r1
  cases r2
  cases r3
  rw [g.K]
  unfold slcD at h3
  split at h3
  · rename_i xs hx
    obtain ⟨p, vs, rfl, t1, t2⟩ := view_lst a3 rx hx
    exact .inl ⟨p, vs, rfl, .inl (.inl t1), fun p hp => new_list a3 hp (rds_cut l h t2) h3⟩
  · rename_i xs hx
    rw [view_tup hx] at rx
    obtain ⟨p, vs, rfl, t1, t2⟩ := rd_tup rx
    split at h3
    · exact h3.elim
    · rename_i hn
      exact .inr (.inl ⟨p, vs, rfl, t1.sq, by rw [← t2.length]; exact hn, fun p hp => new_tup a3 hp (rds_cut l h t2) h3⟩)
  · rename_i s hx
    rw [view_str hx] at rx
    split at h3
    · rename_i hz
      have h3 : Post T W (RD T) w3 σ (.ok (.str (cutL s l h)) A3) Q := h3
      have e : cutS (sT s) l h = sT (cutL s l h) := by
        unfold cutS cutL sT Str.length
        simp [cutI]
        rfl
      refine .inr (.inr ⟨sT s, rd_str rx, by rw [sT_len]; exact hz, ?_⟩)
      rw [e]
      exact h3.now a3 rd_str'
    · exact h3.elim
  · rename_i xs hx
    rw [view_scr hx, RD] at rx
    obtain ⟨p, rfl, t1⟩ := rx
    refine .inl ⟨p, xs.map V.int, rfl, t1.sq, fun p hp => ?_⟩
    rw [cutV_ints]
    exact new_list a3 hp (rds_ints _) h3
  · exact h3.elim

/-! ### attributes -/
theorem rfs_get (inj : ∀ i j, T.fld i = T.fld j → i = j) : ∀ {fs : List (Nat × D)} {ws : List (Str × V)} {f : Nat} {d : D}, RFs T w fs ws → getA f fs = some d → ∃ v, ws.lookup (T.fld f) = some v ∧ RD T w d v
  | [], ws, f, d, r, h => by cases h
  | (p, e) :: fs, ws, f, d, r, h => by
    obtain ⟨v, rr, rfl, h1, h2⟩ := r
    by_cases hq : p = f
    · subst hq
      have l : getA p ((p, e) :: fs) = some e := by show (if p = p then _ else _) = _; rw [if_pos rfl]
      rw [l] at h; cases h
      exact ⟨v, by simp [List.lookup], h1⟩
    · have l : getA f ((p, e) :: fs) = getA f fs := by show (if p = f then _ else _) = _; rw [if_neg hq]
      rw [l] at h
      obtain ⟨u, e1, e2⟩ := rfs_get inj h2 h
      have : (T.fld f == T.fld p) = false := by simpa using fun z => hq (inj _ _ z).symm
      exact ⟨u, by simp [List.lookup, this, e1], e2⟩
theorem s_att (g : Gd T P nm k W X) {a : E} {f : Nat} {l : Expr} {n : Str} {q : Pos} (hs : notSuper l = true) (hf : nm.fld[f]? = some n) (ha : PE X l (tE T W (cE P k a))) : PE X (.Attribute l n q) (tE T W (cE P k (.att a f))) := by
  obtain ⟨hn, rfl⟩ := g.fl f n hf
  refine pe_imp (pe_orE (pe_fld ha (plain_sup hs)) (pe_fx ha (plain_sup hs))) fun σ H Q ⟨w, σa, A, e, hA, hS, hP⟩ => ?_
  subst e
  have hP : Post T W (RD T) w σ (bindR (cE P k a σa A) fun x H1 => liftR (attD H1 f x) H1) Q := hP
  by_cases hx : ∃ x A1 c, cE P k a σa A = .ok x A1 ∧ xcD A1 x = some c
  · obtain ⟨x0, A0, c0, i0, hc0⟩ := hx
    refine .inr ⟨w, σa, A, rfl, hA, hS, hP.bind fun w1 x v A1 e1 a1 r1 i h1 => ?_⟩
    rw [i0] at i
    cases i
    obtain ⟨d, ed, h2⟩ := h1.lift
    unfold xcD at hc0
    split at hc0
    · rename_i j
      split at hc0
      · rename_i c fs hi
        have ed : (match A0[j]? with
          | some (.ins _ fs) => getA f fs
          | some (.exo _ fs) => getA f fs
          | _ => none) = some d := ed
        rw [hi] at ed
        have ed : getA f fs = some d := ed
        obtain ⟨dx, ws, t1, t2, t3, t4, t5⟩ := a1.ob _ _ hi
        obtain ⟨u, q1, q2⟩ := rfs_get g.inj t4 ed
        rw [g.K]
        exact ⟨_, T.xad c, dx, ws, u, (rd_ref r1).2, t1, t2, t5.2.1, t5.2.2 f hn, q1, h2.now a1 q2⟩
      · cases hc0
    · cases hc0
  · refine .inl ⟨w, σa, A, rfl, hA, hS, hP.bind fun w1 x v A1 e1 a1 r1 i h1 => ?_⟩
    obtain ⟨d, ed, h2⟩ := h1.lift
    cases x with
    | ref j =>
      have ed : (match A1[j]? with
        | some (.ins _ fs) => getA f fs
        | some (.exo _ fs) => getA f fs
        | _ => none) = some d := ed
      cases hi : A1[j]? with
      | none => rw [hi] at ed; cases ed
      | some o =>
        rw [hi] at ed
        cases o with
        | ins c fs =>
          have ed : getA f fs = some d := ed
          obtain ⟨dx, ws, t1, t2, t3⟩ := a1.ob _ _ hi
          obtain ⟨u, q1, q2⟩ := rfs_get g.inj t2 ed
          rw [g.K]
          exact ⟨_, T.cad c, dx, ws, u, (rd_ref r1).2, t1, t3.1, t3.2 f hn, q1, h2.now a1 q2⟩
        | exo c fs =>
          exact absurd ⟨_, _, c, i, by simp only [xcD, hi]⟩ hx
        | _ => cases ed
    | _ => cases ed
end
end Ev
end

section
set_option Elab.async false
set_option linter.all false
set_option maxRecDepth 100000
/-! Calls. -/
namespace Ev
open PySem PySem.Spec PyProof.Rows L2
section
variable {T : Tb} {P : Pg} {nm : Nm} {k : Nat} {W : WX} {X : Cx} {sc : Scope} {w : Wd} {A : AH} {σ : L2.St}

theorem chks_plain {N : List Str} : ∀ (es' : E) (es : List Expr), chks nm N sc es' es = true → ∀ x ∈ es, plainE x = true
  | .nil, [], _ => fun x h => absurd h (by simp)
  | .nil, _ :: _, h => by cases (show false = true from h)
  | .cons e' es', [], h => by cases (show false = true from h)
  | .cons e' es', x :: xs, h => by
    have h : (plainE x && chk nm N sc e' x && chks nm N sc es' xs) = true := h
    intro y hy
    rcases List.mem_cons.mp hy with e | hy
    · rw [e]; exact (and3 h).1
    · exact chks_plain es' xs (and3 h).2.2 y hy
  | .var _, [], h | .con _, [], h | .glo _, [], h | .tup _, [], h | .lst _ _, [], h | .dnew, [], h | .dlit _, [], h | .bin _ _ _, [], h | .cat _ _ _, [], h | .neg _, [], h | .cmp _ _ _, [], h | .isn _ _, [], h | .chain _ _ _ _ _, [], h
  | .and _, [], h | .or _, [], h | .not _, [], h | .ite _ _ _, [], h | .idx _ _, [], h | .slc _ _ _ _, [], h | .att _ _, [], h | .call _ _, [], h | .mth _ _ _ _, [], h | .mak _ _, [], h | .bi _ _, [], h | .bm _ _ _, [], h | .comp _ _ _ _ _ _ _, [], h
  | .var _, _ :: _, h | .con _, _ :: _, h | .glo _, _ :: _, h | .tup _, _ :: _, h | .lst _ _, _ :: _, h | .dnew, _ :: _, h | .dlit _, _ :: _, h | .bin _ _ _, _ :: _, h | .cat _ _ _, _ :: _, h | .neg _, _ :: _, h | .cmp _ _ _, _ :: _, h | .isn _ _, _ :: _, h | .chain _ _ _ _ _, _ :: _, h
  | .and _, _ :: _, h | .or _, _ :: _, h | .not _, _ :: _, h | .ite _ _ _, _ :: _, h | .idx _ _, _ :: _, h | .slc _ _ _ _, _ :: _, h | .att _ _, _ :: _, h | .call _ _, _ :: _, h | .mth _ _ _ _, _ :: _, h | .mak _ _, _ :: _, h | .bi _ _, _ :: _, h | .bm _ _ _, _ :: _, h | .comp _ _ _ _ _ _ _, _ :: _, h => by cases (show false = true from h)
theorem star_any {env : Env} {pos : Pos} : ∀ {es : List Expr}, (∀ x ∈ es, plainE x = true) → (backTo pos (starEach es env)).any (·.1) = false
  | [], _ => rfl
  | e :: es, h => by
    rw [plain_star (h e (by simp))]
    show (false || (backTo pos (starEach es env)).any (·.1)) = false
    rw [star_any fun x hx => h x (by simp [hx])]
    rfl
theorem star_all {env : Env} {pos : Pos} : ∀ {es : List Expr}, (∀ x ∈ es, plainE x = true) → (backTo pos (starEach es env)).all (fun x => !x.1) = true
  | [], _ => rfl
  | e :: es, h => by
    rw [plain_star (h e (by simp))]
    show (true && (backTo pos (starEach es env)).all (fun x => !x.1)) = true
    rw [star_all fun x hx => h x (by simp [hx])]
    rfl
theorem Post.sig {α β : Type} {R : Wd → α → β → Prop} {r : Rs α} {Q : β → Hp → Prop} (h : Post T W R w σ r Q) : Post T (fun c d _ H => WE W σ c d H) R w [] r Q := by
  cases r with
  | ok d A => exact h
  | ex c fs A => exact h
  | no => exact h
theorem sp_of {f : Fid} {ds : List D} {vs : List V} {Q : VK} (hA : Abs T w A) (r : RDs T w ds vs) (h : Post T W (RD T) w σ (callF P k f ds A) Q) : spF T P k f vs w.H Q (WE W σ) := ⟨w, ds, A, rfl, hA, r, h.sig⟩
theorem tk_at (g : Gd T P nm k W X) (σ : L2.St) : PassesAt (L2.CX X.prog X.w) X σ (WE W σ) := passAt g.take σ
theorem db_of {x : Str} (h : glB X.env.scope x = true) : (x == ("__debug__" : Str)) = false := (gl_of h).2

/-! ### f(..) -/
theorem s_call (g : Gd T P nm k W X) {f : Nat} {x : Str} {es' : E} {es : List Expr} {p q : Pos} (hx : nm.fns[f]? = some (none, x)) (hg : glB X.env.scope x = true) (hc : chks nm X.N X.env.scope es' es = true)
    (ha : PA X es (tA T W (cA P k es'))) : PE X (.Call (.Name x p) es [] q) (tE T W (cE P k (.call f es'))) := by
  obtain ⟨a, fd, ps, hm, hk, F, hb⟩ := g.fn f x hx
  have hpl := chks_plain es' es hc
  have step : ∀ (σ : L2.St) (H : Hp) (Q : VK), tE T W (cE P k (.call f es')) σ H Q → tA T W (cA P k es') σ H fun vs H1 => spF T P k (.fn f) vs H1 Q (WE W σ) := fun σ H Q ⟨w, σa, A, e, hA, hS, hP⟩ => by
    have hP : Post T W (RD T) w σ (bindR (cA P k es' σa A) fun ds H1 => callF P k (.fn f) ds H1) Q := hP
    refine ⟨w, σa, A, e, hA, hS, hP.bind fun w1 ds vs A1 e1 a1 r1 _ h1 => sp_of a1 r1 h1⟩
  cases es with
  | nil =>
    refine ⟨fun pins s σ H Q I h => ?_⟩
    refine wpAny_Call_Name_kw (ld_glob I (gl_of hg).1 hm ?_ (db_of hg))
    have h2 := step σ H Q h
    -- the empty list of arguments
    have h3 : spF T P k (.fn f) [] H Q (WE W σ) := by
      obtain ⟨w, σa, A, e, hA, hS, hP⟩ := h2
      cases es' with
      | nil =>
        subst e
        have hP : Post T W (RDs T) w σ (.ok [] A) _ := hP
        exact hP.now hA RDs.nil
      | _ => cases (show false = true from hc)
    exact PySem.W.callWith_K0 I.kIn hk (run_fnS (us := []) F g.room hb (tk_at g σ) I .nil h3)
  | cons e es =>
    refine pe_imp (pe_callS F g.room (gl_of hg).1 hm hk hb (tk_at g) ha (db_of hg) (plain_star (hpl e (by simp))) (star_any fun x hx => hpl x (by simp [hx]))) step
/-! ### f(k = .., ..), every parameter by its name -/
theorem s_callK (g : Gd T P nm k W X) {f : Nat} {x : Str} {es' : E} {kws : List Keyword} {ps : List Str} {p q : Pos} (hx : nm.fns[f]? = some (none, x)) (hg : glB X.env.scope x = true) (hps : nm.par[f]? = some ps) (hk1 : kws.map (·.arg) = ps.map some)
    (ha : PK X kws (tA T W (cA P k es'))) : PE X (.Call (.Name x p) [] kws q) (tE T W (cE P k (.call f es'))) := by
  obtain ⟨a, fd, hm, hk, F, hb⟩ := g.kw f x ps hx hps
  have names : ∀ (kws : List Keyword) (ps : List Str), kws.map (·.arg) = ps.map some → (backToKw q (keywordEach kws X.env)).all (·.1.isSome) = true ∧ (backToKw q (keywordEach kws X.env)).filterMap (·.1) = ps ∧ (backToKw q (keywordEach kws X.env)).any (·.1.isNone) = false := by
    intro kws
    induction kws with
    | nil =>
      intro ps h
      have : ps = [] := by simpa using h.symm
      subst this
      exact ⟨rfl, rfl, rfl⟩
    | cons kw kws ih =>
      intro ps h
      cases ps with
      | nil => simp at h
      | cons y ps =>
        obtain ⟨nm', e, pp⟩ := kw
        simp only [List.map_cons, List.cons.injEq] at h
        obtain ⟨h1, h2⟩ := h
        subst h1
        obtain ⟨i1, i2, i3⟩ := ih ps h2
        refine ⟨?_, ?_, ?_⟩
        · show (true && (backToKw q (keywordEach kws X.env)).all (·.1.isSome)) = true
          rw [i1]; rfl
        · show y :: (backToKw q (keywordEach kws X.env)).filterMap (·.1) = y :: ps
          rw [i2]
        · show (false || (backToKw q (keywordEach kws X.env)).any (·.1.isNone)) = false
          rw [i3]; rfl
  obtain ⟨n1, n2, n3⟩ := names kws ps hk1
  refine ⟨fun pins s σ H Q I ⟨w, σa, A, e, hA, hS, hP⟩ => ?_⟩
  have hP : Post T W (RD T) w σ (bindR (cA P k es' σa A) fun ds H1 => callF P k (.fn f) ds H1) Q := hP
  refine wpAny_Call_Name_kw (ld_glob I (gl_of hg).1 hm ?_ (db_of hg))
  have hq : tA T W (cA P k es') σ H fun vs H1 => spF T P k (.fn f) vs H1 Q (WE W σ) := ⟨w, σa, A, e, hA, hS, hP.bind fun w1 ds vs A1 e1 a1 r1 _ h1 => sp_of a1 r1 h1⟩
  refine PySem.W.callWith_KW0 (h₀ := X.base) I.ok.mod.kin hk n1 (thn (ha.run q pins s σ H _ I hq) fun ws s2 ⟨zs, H2, I2, rz, q2⟩ => ⟨I2.kIn, ?_⟩) (by show (false || _) = false; rw [n3]; rfl)
  rw [n2]
  have hl : ws.length = ps.length := by rw [← rz.length]; exact F.len _ _ _ _ q2
  refine wpAny_call (codeAny_mono (F.run X.A X.stack s2 H2 ⟨[], ps.zip ws⟩ ws zs Q (WE W σ) g.room I2.env0 (hb s2 ws hl) rz q2) fun r s' hq => ?_)
  cases r with
  | error e => exact tk_at g σ pins H2 s2 e s' I2 hq
  | ok fl =>
    cases fl with
    | ret u => exact I2.after hq
    | next => exact False.elim hq
    | brk => exact False.elim hq
    | cont => exact False.elim hq
/-! ### o.m(..) -/
theorem rfs_no {m : Str} (h : ∀ j, T.fld j ≠ m) : ∀ {fs : List (Nat × D)} {ws : List (Str × V)}, RFs T w fs ws → ws.lookup m = none
  | [], ws, r => by
    have r : ws = [] := r
    subst r; rfl
  | (p, e) :: fs, ws, r => by
    obtain ⟨v, rr, rfl, h1, h2⟩ := r
    have : (m == T.fld p) = false := by simpa using fun z => h p z.symm
    simp [List.lookup, this, rfs_no h h2]
theorem s_mth (g : Gd T P nm k W X) {c f : Nat} {m : Str} {o' es' : E} {o : Expr} {es : List Expr} {p q : Pos} (hx : nm.fns[f]? = some (some c, m)) (hs : notSuper o = true) (hl : (p.endLine == q.line) = true) (hn : es.length ≤ 20)
    (hc : chks nm X.N X.env.scope es' es = true) (ho : PE X o (tE T W (cE P k o'))) (ha : PA X es (tA T W (cA P k es'))) : PE X (.Call (.Attribute o m p) es [] q) (tE T W (cE P k (.mth c f o' es'))) := by
  obtain ⟨a, fd, ps, hcl, hme, F, hb, hno⟩ := g.mt f c m hx
  have hpl := chks_plain es' es hc
  have hf : methodCallForm (es.length + ([] : List Keyword).length) (backTo q (starEach es X.env)) (backToKw q (keywordEach [] X.env)) = true := by
    unfold methodCallForm
    rw [star_all hpl]
    show (true && true && decide (es.length + 0 + 0 < 30)) = true
    rw [decide_eq_true (by omega)]; rfl
  have ht := mcall_of (m := m) (apos := p) (pos := q) (args := es) (kws := []) (env := X.env) (plain_sup hs) fun ov => mcall_line (ov := ov) (n := es.length + ([] : List Keyword).length) hf hl
  refine ⟨fun pins s σ H Q I h => ?_⟩
  have h2 : tE T W (cE P k o') σ H fun x H1 => ∃ i dx fs, x = .ref i ∧ H1 i = some (.ins (T.cad c) dx fs) ∧ fs.lookup m = none ∧ tA T W (cA P k es') σ H1 fun vs H2 => spF T P k (.fn f) (x :: vs) H2 Q (WE W σ) := by
    obtain ⟨w, σa, A, e, hA, hS, hP⟩ := h
    subst e
    have hP : Post T W (RD T) w σ (bindR (cE P k o' σa A) fun x H1 => if clsD H1 x = some c then bindR (cA P k es' σa H1) fun ds H2 => callF P k (.fn f) (x :: ds) H2 else .no) Q := hP
    refine ⟨w, σa, A, rfl, hA, hS, hP.bind fun w1 x v A1 e1 a1 r1 hev h1 => ?_⟩
    clear hev
    split at h1
    · rename_i hcd
      unfold clsD at hcd
      split at hcd
      · rename_i i
        split at hcd
        · rename_i c' fs hi
          cases hcd
          obtain ⟨dx, ws, t1, t2, t3⟩ := a1.ob _ _ hi
          refine ⟨w1.f i, dx, ws, (rd_ref r1).2, t1, rfs_no hno t2, w1, σa, A1, rfl, a1, hS.mono e1, h1.bind fun w2 ds vs A2 e2 a2 r2 _ h2 => ?_⟩
          exact sp_of a2 (RDs.cons (RD.mono e2 _ _ r1) r2) h2
        · cases hcd
      · cases hcd
    · exact h1.elim
  refine PySem.W.methodCall_KW (pl := plainOf o X.env) (thn (ho.run pins s σ H _ I h2) fun u s1 ⟨x, H1, I1, rx, i, dx, fs, ex, ea, l, q2⟩ => ?_) ht
  subst ex
  obtain rfl : u = Value.ref i := rx
  refine getmeth_ok I1 ea hcl hme l ?_
  cases es with
  | nil =>
    have q3 : spF T P k (.fn f) [.ref i] H1 Q (WE W σ) := by
      obtain ⟨w, σa, A, e, hA, hS, hP⟩ := q2
      cases es' with
      | nil =>
        subst e
        have hP : Post T W (RDs T) w σ (.ok [] A) _ := hP
        exact hP.now hA RDs.nil
      | _ => cases (show false = true from hc)
    exact PySem.W.callWith_K0 (first := [.ref i]) I1.kIn hme.kp (run_fnS (us := [.ref i]) (vs := [.ref i]) F g.room hb (tk_at g σ) I1 (.cons rfl .nil) q3)
  | cons e es =>
    refine PySem.W.callWith_K (first := [.ref i]) (h₀ := X.base) I.ok.mod.kin hme.kp (thn (ha.run q pins s1 σ H1 _ I1 q2) fun us s2 ⟨vs, H2, I2, r, q2⟩ => ⟨I2.kIn, ?_⟩) (plain_star (hpl e (by simp))) (star_any fun x hx => hpl x (by simp [hx]))
    exact run_fnS (us := .ref i :: us) (vs := .ref i :: vs) F g.room hb (tk_at g σ) I2 (.cons rfl r) q2

/-! ### C(..) -/
theorem run_makeS {j : Nat} {C f : Addr} {fd : FuncData} {ps : List Str} {sp : Sp} {E : XK} {pins : List (Addr × Obj)} {H : Hp} {s : Shared} {Q : VK} {us : List Value} {vs : List V} (M : Mk X.K C f) (F : FnOk X.prog X.w X.K X.mg X.base (L2.CX X.prog X.w) j f fd ps sp) (hr : Room (j + 1) X.A) (hb : Binds X.K fd ps [])
    (hx : PassesAt (L2.CX X.prog X.w) X σ E) (I : Inv X pins σ H s) (r : Vals vs us)
    (h : ∀ x dx, H x = none → H dx = none → dx ≠ x → sp (.ref x :: vs) (upd (upd H dx (.own x)) x (.ins C dx [])) (fun v H2 => v = .non ∧ Q (.ref x) H2) E) :
    wpAny (model X.prog X.w) X.A (call (.ref C) us) (EP X pins σ Q) X.xe s := by
  have hq := h (s.heap.objs.size + 1) s.heap.objs.size (I.hok.fresh (Nat.le_succ _)) (I.hok.fresh (Nat.le_refl _)) (Nat.ne_of_lt (Nat.lt_succ_self _))
  have I2 := Inv.made (C := C) I
  have r2 : Vals (V.ref (s.heap.objs.size + 1) :: vs) (Value.ref (s.heap.objs.size + 1) :: us) := .cons rfl r
  have hl : (Value.ref (s.heap.objs.size + 1) :: us).length = ps.length := by
    have e := r2.length
    rw [F.len _ _ _ _ hq] at e
    exact e.symm
  have b := hb _ (Value.ref (s.heap.objs.size + 1) :: us) I2.kIn (by rw [List.append_nil]; exact hl)
  rw [List.append_nil] at b
  refine wpAny_call (make_map (f := f) I.kIn M.makes M.init (beq_iff_eq.mp M.fn) (codeAny_mono (F.run _ X.stack _ _ ⟨Value.ref (s.heap.objs.size + 1) :: us, []⟩ (Value.ref (s.heap.objs.size + 1) :: us) _ _ E (hr.make C us [])
    (I2.env0.make C us []) b r2 hq) fun r s' hq' => ?_))
  cases r with
  | error e => exact hx pins _ _ e s' I2 hq'
  | ok fl =>
    cases fl with
    | ret u =>
      obtain ⟨v, H', I3, rv, ev, q3⟩ := I2.after hq'
      subst ev
      exact ⟨rv, ⟨V.ref (s.heap.objs.size + 1), H', I3, rfl, q3⟩⟩
    | next => exact False.elim hq'
    | brk => exact False.elim hq'
    | cont => exact False.elim hq'
theorem s_mak (g : Gd T P nm k W X) {c : Nat} {x : Str} {es' : E} {es : List Expr} {p q : Pos} (hx : nm.cls[c]? = some x) (hg : glB X.env.scope x = true) (hc : chks nm X.N X.env.scope es' es = true)
    (ha : PA X es (tA T W (cA P k es'))) : PE X (.Call (.Name x p) es [] q) (tE T W (cE P k (.mak c es'))) := by
  obtain ⟨a, hm, M, hk⟩ := g.mak c x hx
  have hpl := chks_plain es' es hc
  have run : ∀ (σ : L2.St) (pins : List (Addr × Obj)) (s : Shared) (w : Wd) (ds : List D) (vs : List V) (A : AH) (Q : VK) (us : List Value), Inv X pins σ w.H s → Vals vs us → Abs T w A → RDs T w ds vs → Post T W (RD T) w σ (callF P k (.mk c) ds A) Q →
      wpAny (model X.prog X.w) X.A (call (.ref (T.cad c)) us) (EP X pins σ Q) X.xe s := by
    intro σ pins s w ds vs A Q us I r hA rd h
    cases k with
    | zero => exact h.elim
    | succ j =>
      cases hf : P.mks[c]? with
      | none =>
        have h : Post T W (RD T) w σ (match P.mks[c]? with
          | some f => (match callF P j (.fn f) (.ref A.length :: ds) (A ++ [.ins c []]) with
            | .ok .non H' => Rs.ok (.ref A.length) H'
            | .ex c fs H' => .ex c fs H'
            | _ => .no)
          | none => .no) Q := h
        rw [hf] at h
        exact h.elim
      | some f =>
        have h : Post T W (RD T) w σ (match P.mks[c]? with
          | some f => (match callF P j (.fn f) (.ref A.length :: ds) (A ++ [.ins c []]) with
            | .ok .non H' => Rs.ok (.ref A.length) H'
            | .ex c fs H' => .ex c fs H'
            | _ => .no)
          | none => .no) Q := h
        rw [hf] at h
        have h : Post T W (RD T) w σ (match callF P j (.fn f) (.ref A.length :: ds) (A ++ [.ins c []]) with
            | .ok .non H' => Rs.ok (.ref A.length) H'
            | .ex c fs H' => .ex c fs H'
            | _ => .no) Q := h
        obtain ⟨fd, ps, F, hb⟩ := hk f hf j rfl
        refine run_makeS M F g.room hb (tk_at g σ) I r fun x dx hx hdx hne => ?_
        have e1 : Ext w ⟨w.f, w.n, upd w.H dx (.own x), w.hid⟩ := ext_laid hdx
        have hx2 : (⟨w.f, w.n, upd w.H dx (.own x), w.hid⟩ : Wd).H x = none := by
          show upd w.H dx (.own x) x = none
          rw [upd_ne hne.symm]; exact hx
        have e2 := ext_push (w := ⟨w.f, w.n, upd w.H dx (.own x), w.hid⟩) (o := .ins (T.cad c) dx []) hx2
        have a2 : Abs T ((⟨w.f, w.n, upd w.H dx (.own x), w.hid⟩ : Wd).push x (.ins (T.cad c) dx [])) (A ++ [.ins c []]) := (hA.laid hdx).push hx2 ⟨dx, [], upd_same, rfl, g.cls c f hf⟩
        refine ⟨(⟨w.f, w.n, upd w.H dx (.own x), w.hid⟩ : Wd).push x (.ins (T.cad c) dx []), .ref A.length :: ds, A ++ [.ins c []], rfl, a2, RDs.cons ?_ (RDs.mono (e1.trans e2) ds vs rd), ?_⟩
        · rw [RD]
          refine ⟨by rw [hA.len]; exact Nat.lt_succ_self _, ?_⟩
          show V.ref x = .ref (if A.length = w.n then x else _)
          rw [if_pos hA.len]
        · have hlt : A.length < ((⟨w.f, w.n, upd w.H dx (.own x), w.hid⟩ : Wd).push x (.ins (T.cad c) dx [])).n := by rw [hA.len]; exact Nat.lt_succ_self _
          have hfx : ((⟨w.f, w.n, upd w.H dx (.own x), w.hid⟩ : Wd).push x (.ins (T.cad c) dx [])).f A.length = x := by
            show (if A.length = w.n then x else _) = x
            rw [if_pos hA.len]
          revert h
          generalize callF P j (.fn f) (.ref A.length :: ds) (A ++ [.ins c []]) = res
          intro h
          cases res with
          | no => exact h.elim
          | ex c' fs A' => exact fun w' dx' ws e a q x => h w' dx' ws ((e1.trans e2).trans e) a q x
          | ok d A' =>
            cases d with
            | non =>
              intro w' v e a r
              refine ⟨rd_non r, ?_⟩
              refine h w' (.ref x) ((e1.trans e2).trans e) a ?_
              rw [RD]
              exact ⟨Nat.lt_of_lt_of_le hlt e.le, by rw [e.ag _ hlt, hfx]⟩
            | _ => exact h.elim
  have step : ∀ (σ : L2.St) (H : Hp) (Q : VK), tE T W (cE P k (.mak c es')) σ H Q → tA T W (cA P k es') σ H fun vs H1 => ∃ w ds A, w.H = H1 ∧ Abs T w A ∧ RDs T w ds vs ∧ Post T W (RD T) w σ (callF P k (.mk c) ds A) Q := fun σ H Q ⟨w, σa, A, e, hA, hS, hP⟩ => by
    have hP : Post T W (RD T) w σ (bindR (cA P k es' σa A) fun ds H1 => callF P k (.mk c) ds H1) Q := hP
    exact ⟨w, σa, A, e, hA, hS, hP.bind fun w1 ds vs A1 e1 a1 r1 _ h1 => ⟨w1, ds, A1, rfl, a1, r1, h1⟩⟩
  refine ⟨fun pins s σ H Q I h => ?_⟩
  refine wpAny_Call_Name_kw (ld_glob I (gl_of hg).1 hm ?_ (db_of hg))
  have h2 := step σ H Q h
  cases es with
  | nil =>
    have h3 : ∃ w ds A, w.H = H ∧ Abs T w A ∧ RDs T w ds [] ∧ Post T W (RD T) w σ (callF P k (.mk c) ds A) Q := by
      obtain ⟨w, σa, A, e, hA, hS, hP⟩ := h2
      cases es' with
      | nil =>
        subst e
        have hP : Post T W (RDs T) w σ (.ok [] A) _ := hP
        exact hP.now hA RDs.nil
      | _ => cases (show false = true from hc)
    obtain ⟨w, ds, A, e, hA, rd, hP⟩ := h3
    subst e
    exact PySem.W.callWith_K0 I.kIn M.kp (run σ pins s w ds [] A Q [] I .nil hA rd hP)
  | cons e es =>
    refine PySem.W.callWith_K (h₀ := X.base) I.ok.mod.kin M.kp (thn (ha.run q pins s σ H _ I h2) fun us s1 ⟨vs, H1, I1, r, w, ds, A, e, hA, rd, hP⟩ => ⟨I1.kIn, ?_⟩) (plain_star (hpl e (by simp))) (star_any fun x hx => hpl x (by simp [hx]))
    subst e
    exact run σ pins s1 w ds vs A Q us I1 r hA rd hP
end
end Ev
end

section
set_option Elab.async false
set_option linter.all false
set_option maxRecDepth 100000
/-! Built-in functions. -/
namespace Ev
open PySem PySem.Spec PyProof.Rows L2
section
variable {T : Tb} {P : Pg} {nm : Nm} {k : Nat} {W : WX} {X : Cx} {sc : Scope} {w : Wd} {A : AH} {σ : L2.St}

/-! ### what the rules ask -/
theorem view_vals (hA : Abs T w A) {x : D} {v : V} {xs : List D} (r : RD T w x v) (e : view A x = .lst xs ∨ view A x = .tup xs) : ∃ a vs, v = .ref a ∧ (SqL T.K w.H a vs ∨ SqT T.K w.H a vs) ∧ RDs T w xs vs := by
  rcases e with e | e
  · obtain ⟨a, vs, e1, t1, t2⟩ := view_lst hA r e
    exact ⟨a, vs, e1, .inl (.inl (.inl t1)), t2⟩
  · rw [view_tup e] at r
    obtain ⟨a, vs, e1, t1, t2⟩ := rd_tup r
    exact ⟨a, vs, e1, .inr t1.sq, t2⟩
theorem bools_of : ∀ {xs : List D} {bs : List Bool} {vs : List V}, bools xs = some bs → RDs T w xs vs → vs = bs.map V.bl
  | [], bs, vs, e, r => by
    have e : some [] = some bs := e
    cases e
    rw [RDs] at r
    exact r
  | x :: xs, bs, vs, e, r => by
    rw [RDs] at r
    obtain ⟨v, rr, rfl, h1, h2⟩ := r
    cases x with
    | bl b =>
      have e : (bools xs).map (b :: ·) = some bs := e
      obtain ⟨cs, hc, rfl⟩ := Option.map_eq_some_iff.mp e
      rw [rd_bl h1, bools_of hc h2]; rfl
    | _ => cases (show (none : Option (List Bool)) = some bs from e)
theorem texts_of : ∀ {xs : List D} {bs : List Tx} {vs : List V}, texts xs = some bs → RDs T w xs vs → vs = bs.map fun s => V.str (sT s)
  | [], bs, vs, e, r => by
    have e : some [] = some bs := e
    cases e
    rw [RDs] at r
    exact r
  | x :: xs, bs, vs, e, r => by
    rw [RDs] at r
    obtain ⟨v, rr, rfl, h1, h2⟩ := r
    cases x with
    | str b =>
      have e : (texts xs).map (b :: ·) = some bs := e
      obtain ⟨cs, hc, rfl⟩ := Option.map_eq_some_iff.mp e
      rw [rd_str h1, texts_of hc h2]; rfl
    | _ => cases (show (none : Option (List Tx)) = some bs from e)

/-! ### isinstance -/
def tyS : Ty → String
  | .int => "int"
  | .str => "str"
  | .bool => "bool"
  | .tuple => "tuple"
  | .list => "list"
def tyOf (A : AH) : D → String
  | .non => "NoneType"
  | .bl _ => "bool"
  | .int _ => "int"
  | .str _ => "str"
  | .tup _ => "tuple"
  | .lst _ => "list"
  | .scr _ => "list"
  | .ref i => match A[i]? with
    | some (.dic _) => "dict"
    | _ => "list"
inductive Tn where
  | non | bl | int | str | tup | lst | dic
def tnS : Tn → String
  | .non => "NoneType"
  | .bl => "bool"
  | .int => "int"
  | .str => "str"
  | .tup => "tuple"
  | .lst => "list"
  | .dic => "dict"
def tnB : Tn → Ty → Bool
  | .bl, .int => true
  | .bl, .bool => true
  | .int, .int => true
  | .str, .str => true
  | .tup, .tuple => true
  | .lst, .list => true
  | _, _ => false
theorem kit_tab (n : Tn) (t : Ty) : kitB (tnS n) (tyS t) = some (tnB n t) := by cases n <;> cases t <;> decide +kernel
theorem kit_all (d : D) (h : plainD A d = true) (t : Ty) : PySem.W.kitOne T.K (.type (tyOf A d)) (.type (tyS t)) = some (isTy A t d) := by
  cases d with
  | ref i =>
    unfold plainD at h
    split at h
    · rename_i i' hd
      cases hd
      cases hi : A[i]? with
      | none => rw [hi] at h; cases h
      | some o =>
        cases o with
        | ins c fs => rw [hi] at h; cases h
        | exo c fs => rw [hi] at h; cases h
        | lst xs =>
          have e : tyOf A (.ref i) = "list" := by
            show (match A[i]? with
              | some (.dic _) => "dict"
              | _ => "list") = _
            rw [hi]
          rw [e]
          have q := kit_tab .lst t
          have e2 : isTy A t (.ref i) = tnB .lst t := by
            cases t <;> first
              | rfl
              | (show (match A[i]? with
                   | some (.lst _) => true
                   | _ => false) = true
                 rw [hi])
          rw [e2]
          exact kit_ty q
        | dic kvs =>
          have e : tyOf A (.ref i) = "dict" := by
            show (match A[i]? with
              | some (.dic _) => "dict"
              | _ => "list") = _
            rw [hi]
          rw [e]
          have q := kit_tab .dic t
          have e2 : isTy A t (.ref i) = tnB .dic t := by
            cases t <;> first
              | rfl
              | (show (match A[i]? with
                   | some (.lst _) => true
                   | _ => false) = false
                 rw [hi])
          rw [e2]
          exact kit_ty q
    · rename_i hd
      exact absurd rfl (hd i)
  | non => have q := kit_tab .non t; cases t <;> exact kit_ty q
  | bl b => have q := kit_tab .bl t; cases t <;> exact kit_ty q
  | int b => have q := kit_tab .int t; cases t <;> exact kit_ty q
  | str b => have q := kit_tab .str t; cases t <;> exact kit_ty q
  | tup b => have q := kit_tab .tup t; cases t <;> exact kit_ty q
  | lst b => have q := kit_tab .lst t; cases t <;> exact kit_ty q
  | scr b => have q := kit_tab .lst t; cases t <;> exact kit_ty q
theorem rd_frz_tup {a : Addr} {vs : List V} (h : Rd w.H a (.tup vs)) {K : PySem.W.Frag} : TyX K w.H (.ref a) (.type "tuple") := by
  rcases h with h | ⟨o, h⟩
  · exact .base (.tup h)
  · exact .fTuple h
theorem tyx_of (hA : Abs T w A) {d : D} {v : V} (r : RD T w d v) (h : plainD A d = true) : TyX T.K w.H v (.type (tyOf A d)) := by
  cases d with
  | non => rw [rd_non r]; exact .base .non
  | bl b => rw [rd_bl r]; exact .base (.bl b)
  | int b => rw [rd_int r]; exact .base (.int b)
  | str b => rw [rd_str r]; exact .base (.str _)
  | tup xs =>
    obtain ⟨a, vs, rfl, t, _⟩ := rd_tup r
    rcases t with ⟨t, _⟩ | t
    · exact rd_frz_tup t
    · rcases t with t | ⟨o, its, n, h1, h2, _⟩
      · exact absurd t no_rd
      · exact .kTuple h1 h2
  | lst xs =>
    rw [RD] at r
    obtain ⟨a, vs, rfl, t, _⟩ := r
    exact .base (.lst t.1)
  | scr xs =>
    rw [RD] at r
    obtain ⟨a, rfl, t⟩ := r
    rcases t with ⟨t, _⟩ | t
    · rcases t with t | ⟨o, t⟩
      · exact .base (.lst t)
      · exact .base (.frz t)
    · rcases t with t | ⟨o, its, n, h1, h2, _⟩
      · exact absurd t no_rd
      · exact .kList h1 h2
  | ref i =>
    obtain ⟨_, rfl⟩ := rd_ref r
    unfold plainD at h
    split at h
    · rename_i i' hd
      cases hd
      cases hi : A[i]? with
      | none => rw [hi] at h; cases h
      | some o =>
        cases o with
        | ins c fs => rw [hi] at h; cases h
        | exo c fs => rw [hi] at h; cases h
        | lst xs =>
          obtain ⟨vs, t, _⟩ := hA.ob i _ hi
          have e : tyOf A (.ref i) = "list" := by
            show (match A[i]? with
              | some (.dic _) => "dict"
              | _ => "list") = _
            rw [hi]
          rw [e]
          exact .base (.lst t)
        | dic kvs =>
          obtain ⟨vs, t, _⟩ := hA.ob i _ hi
          have e : tyOf A (.ref i) = "dict" := by
            show (match A[i]? with
              | some (.dic _) => "dict"
              | _ => "list") = _
            rw [hi]
          rw [e]
          exact .base (.dK t)
    · rename_i hd
      exact absurd rfl (hd i)
theorem boot_ty (t : Ty) : bootBuiltins (tyN t) = some (.type (tyS t)) := by cases t <;> decide +kernel
theorem ty_bl (t : Ty) : tyN t ∈ builtins := by cases t <;> decide
theorem ty_nn (t : Ty) : tyN t ≠ "__name__" := by cases t <;> decide
theorem pe_tyn (g : Gd T P nm k W X) {t : Ty} {p : Pos} (hg : glB X.env.scope (tyN t) = true) : PE X (.Name (tyN t) p) (tC (.ty (tyS t))) :=
  ⟨fun pins s σ H Q I h => ld_blt I (gl_of hg).1 (g.bl _ (ty_bl t)) (boot_ty t) ⟨V.ty (tyS t), H, I, rfl, h⟩ (ty_nn t) (gl_of hg).2⟩
theorem pa_tys (g : Gd T P nm k W X) : ∀ (ts : List Ty) (ys : List Expr), tyB X.env.scope ts ys = true → PA X ys (fun _ H Q => Q (ts.map fun t => V.ty (tyS t)) H)
  | [], [], _ => pa_nil
  | [], _ :: _, h => by cases (show false = true from h)
  | _ :: _, [], h => by cases (show false = true from h)
  | t :: ts, y :: ys, h => by
    cases y with
    | Name x p =>
      have h : (decide (x = tyN t) && glB X.env.scope x && tyB X.env.scope ts ys) = true := h
      obtain ⟨h1, h2, h3⟩ := and3 h
      have h1 := of_decide_eq_true h1
      subst h1
      exact pa_cons (pe_tyn g h2) (pa_tys g ts ys h3) rfl
    | _ => cases (show false = true from h)
theorem kit_any (d : D) (h : plainD A d = true) : ∀ ts : List Ty, PySem.W.kitAny T.K (.type (tyOf A d)) (ts.map fun t => Value.type (tyS t)) = some (ts.any fun t => isTy A t d)
  | [] => rfl
  | t :: ts => by
    have h1 := kit_all (T := T) d h t
    refine kitAny_cons h1 (fun e => ?_) (fun e => ?_)
    · rw [kit_any d h ts, List.any_cons, e]; rfl
    · rw [List.any_cons, e]; rfl
theorem pair_tys : ∀ ts : List Ty, Paired ClsV (ts.map fun t => V.ty (tyS t)) (ts.map fun t => Value.type (tyS t))
  | [] => .nil
  | t :: ts => .cons (.ty _) (pair_tys ts)
theorem one_arg {es' : E} {σa : Sl} {a : Expr} {ds : List D} {A A' : AH} (h : chks nm X.N sc es' [a] = true) (q : cA P k es' σa A = .ok ds A') : ∃ d, ds = [d] := by
  have := chks_len es' [a] σa A A' ds h q
  match ds, this with
  | [d], _ => exact ⟨d, rfl⟩
end
end Ev
end

section
set_option Elab.async false
set_option linter.all false
set_option maxRecDepth 100000
/-! Built-in functions, two. -/
namespace Ev
open PySem PySem.Spec PyProof.Rows L2
/-! ### int of digits -/
section
open NumText (blank sign core digits? digit? worth)
theorem dig_take : ∀ {s : Tx}, (∀ c ∈ s, 48 ≤ c ∧ c ≤ 57) → s.takeWhile (· != 0) = s
  | [], _ => rfl
  | c :: r, h => by
    have hc := h c (by simp)
    rw [List.takeWhile_cons]
    have : (c != 0) = true := by simp; omega
    rw [this, if_pos rfl, dig_take fun x hx => h x (by simp [hx])]
theorem dig_drop {s : Tx} (h : ∀ c ∈ s, 48 ≤ c ∧ c ≤ 57) : s.dropWhile blank = s := by
  cases s with
  | nil => rfl
  | cons c r =>
    have hc := h c (by simp)
    rw [List.dropWhile_cons]
    have : blank c = false := by
      unfold blank
      rw [Bool.or_eq_false_iff, Bool.and_eq_false_iff]
      refine ⟨by simp; omega, .inr (by simp; omega)⟩
    rw [this, if_neg Bool.false_ne_true]
theorem dig_sign {s : Tx} (h : ∀ c ∈ s, 48 ≤ c ∧ c ≤ 57) : sign s = (false, s) := by
  unfold sign
  split
  · rename_i r
    have := h 45 (by simp); omega
  · rename_i r
    have := h 43 (by simp); omega
  · rfl
theorem dig_step {c : Nat} (h : 48 ≤ c ∧ c ≤ 57) (p : Array Nat × Bool) : NumText.step 10 p c = some (p.1.push (c - 48), true) := by
  unfold NumText.step
  have h1 : (c == 95) = false := by simp; omega
  have h2 : digit? c = some (c - 48) := by
    unfold digit?
    have : (decide (48 ≤ c) && decide (c ≤ 57)) = true := by rw [Bool.and_eq_true]; exact ⟨decide_eq_true h.1, decide_eq_true h.2⟩
    rw [if_pos this]
  rw [h1, if_neg Bool.false_ne_true, h2]
  show (if c - 48 < 10 then _ else _) = _
  rw [if_pos (by omega)]
theorem dig_fold : ∀ {s : Tx} (p : Array Nat × Bool), (∀ c ∈ s, 48 ≤ c ∧ c ≤ 57) → ∃ b, s.foldlM (NumText.step 10) p = some (p.1 ++ (s.map fun c => c - 48).toArray, b) ∧ (s ≠ [] → b = true)
  | [], p, _ => ⟨p.2, by simp, fun h => absurd rfl h⟩
  | c :: r, p, h => by
    rw [List.foldlM_cons, dig_step (h c (by simp))]
    obtain ⟨b, e, hb⟩ := dig_fold (s := r) (p.1.push (c - 48), true) fun x hx => h x (by simp [hx])
    refine ⟨b, ?_, fun _ => ?_⟩
    · show r.foldlM (NumText.step 10) (p.1.push (c - 48), true) = _
      rw [e]
      simp
    · cases r with
      | nil =>
        have e : some (p.1.push (c - 48), true) = some (_, b) := e
        injection e with e
        exact (congrArg Prod.snd e).symm
      | cons _ _ => exact hb (by simp)
theorem int_dig {s : Tx} (h : isDigits s = true) : PySem.intText? (sT s) = some (digVal s : Nat) ∧ (sT s).length ≤ 640 := by
  unfold isDigits at h
  simp only [Bool.and_eq_true, decide_eq_true_eq, List.all_eq_true] at h
  obtain ⟨⟨h0, h1⟩, h2⟩ := h
  have h0 : s ≠ [] := by simpa using h0
  have hd : ∀ c ∈ s, 48 ≤ c ∧ c ≤ 57 := fun c hc => by simpa using h2 c hc
  refine ⟨?_, by rw [sT_len]; exact h1⟩
  have ea : (sT s).cps.all (· < 128) = true := by
    show s.toArray.all (· < 128) = true
    rw [← Array.all_toList]
    simp only [List.all_eq_true, decide_eq_true_eq]
    intro c hc
    have := hd c (by simpa using hc); omega
  have et : numTextOf (sT s) = s := by
    show (if (sT s).cps.all (· < 128) then (sT s).cps.toList else _) = s
    rw [if_pos ea]; rfl
  have es : numSeenOf (sT s) = s := by
    show (numTextOf (sT s)).takeWhile (· != 0) = s
    rw [et]; exact dig_take hd
  have ec : core s = s := by
    unfold core
    rw [dig_drop hd, dig_sign hd]
    show (s.reverse.dropWhile blank).reverse = s
    rw [dig_drop fun c hc => hd c (by simpa using hc), List.reverse_reverse]
  obtain ⟨b, e, hb⟩ := dig_fold (s := s) (#[], false) hd
  have eg : digits? 10 s = some (s.map fun c => c - 48).toArray := by
    unfold digits?
    rw [e, hb h0]
    simp
  unfold PySem.intText?
  rw [es, et, ec, eg, dig_drop hd, dig_sign hd]
  have : (s.length == s.length) = true := by simp
  rw [this, if_pos rfl]
  have hsz : (s.map fun c => c - 48).toArray.size ≤ 4300 := by simp; omega
  show (if (s.map fun c => c - 48).toArray.size ≤ 4300 then some _ else none) = _
  rw [if_pos hsz]
  unfold worth digVal
  rw [if_neg Bool.false_ne_true]
  congr 2
  rw [List.foldl_toArray, List.foldl_map]
end

section
variable {T : Tb} {P : Pg} {nm : Nm} {k : Nat} {W : WX} {X : Cx} {sc : Scope} {w : Wd} {A : AH} {σ : L2.St}
theorem bi_of {b : Bi} {r : List V → Hp → VK → Prop} {es' : E} {a : Expr} (hc : chks nm X.N X.env.scope es' [a] = true)
    (key : ∀ (w : Wd) (d : D) (v : V) (A : AH) (Q : VK) (σ : L2.St), Abs T w A → RD T w d v → Post T W (RD T) w σ (liftH (evBi A b [d])) Q → r [v] w.H Q) :
    ∀ σ H Q, tE T W (cE P k (.bi b es')) σ H Q → tCB r (tA T W (cA P k es')) σ H Q := fun σ H Q ⟨w, σa, A, e, hA, hS, hP⟩ => by
  subst e
  have hP : Post T W (RD T) w σ (bindR (cA P k es' σa A) fun ds H1 => liftH (evBi H1 b ds)) Q := hP
  refine ⟨w, σa, A, rfl, hA, hS, hP.bind fun w1 ds vs A1 e1 a1 r1 q1 h1 => ?_⟩
  obtain ⟨d, rfl⟩ := one_arg hc q1
  rw [RDs] at r1
  obtain ⟨v, rr, rfl, h2, h3⟩ := r1
  rw [RDs] at h3
  subst h3
  exact key w1 d v A1 Q σ a1 h2 h1
theorem CallR.or {f : Value} {r r' : List V → Hp → VK → Prop} (h : CallR X f r) (h' : CallR X f r') : CallR X f (fun xs H Q => r xs H Q ∨ r' xs H Q) :=
  fun pins s σ H xs us Q I v q => q.elim (h pins s σ H xs us Q I v) (h' pins s σ H xs us Q I v)
theorem pl1 {es' : E} {a : Expr} (hc : chks nm X.N X.env.scope es' [a] = true) : plainE a = true := chks_plain es' [a] hc a (by simp)
theorem str_dig (i : Int) : Str.ofString (toString i) = sT (digits i) := by
  show _ = (⟨(Str.ofString (toString i)).cps.toList.toArray⟩ : Str)
  simp
section
variable {es' : E} {a : Expr} {p q : Pos} (g : Gd T P nm k W X) (hc : chks nm X.N X.env.scope es' [a] = true) (ha : PA X [a] (tA T W (cA P k es')))
include g hc ha
theorem s_len (hg : glB X.env.scope "len" = true) : PE X (.Call (.Name "len" p) [a] [] q) (tE T W (cE P k (.bi .len es'))) := by
  refine pe_imp (pe_callB call_len (gl_of hg).1 g.no (by decide +kernel) ha (by decide) (by decide) (plain_star (pl1 hc)) rfl) (bi_of hc fun w d v A Q σ hA r h => ?_)
  rw [g.K]
  obtain ⟨z, A', ez, h1⟩ := h.liftH
  unfold evBi at ez
  simp only at ez
  split at ez
  · rename_i xs hx
    cases ez
    obtain ⟨p, vs, rfl, t1, t2⟩ := view_lst hA r hx
    exact ⟨_, vs.length, rfl, .inl ⟨vs, .inl (.inl t1), rfl⟩, by rw [← t2.length]; exact h1.now hA rd_int'⟩
  · rename_i xs hx
    cases ez
    rw [view_tup hx] at r
    obtain ⟨p, vs, rfl, t1, t2⟩ := rd_tup r
    exact ⟨_, vs.length, rfl, .inr ⟨vs, t1.sq, rfl⟩, by rw [← t2.length]; exact h1.now hA rd_int'⟩
  · rename_i s hx
    rw [view_str hx] at r
    split at ez
    · rename_i hl
      cases ez
      exact ⟨_, s.length, rfl, by rw [rd_str r]; exact ⟨by rw [sT_len]; exact hl, (sT_len s).symm⟩, h1.now hA rd_int'⟩
    · cases ez
  · cases ez
theorem s_int (hg : glB X.env.scope "int" = true) : PE X (.Call (.Name "int" p) [a] [] q) (tE T W (cE P k (.bi .toInt es'))) := by
  refine pe_imp (pe_callTy (CallR.or call_int1 call_int_str) (gl_of hg).1 g.no (by decide +kernel) ha (by decide) (by decide) (plain_star (pl1 hc)) rfl) (bi_of hc fun w d v A Q σ hA r h => ?_)
  obtain ⟨z, A', ez, h1⟩ := h.liftH
  cases d with
  | int i =>
    have ez : some (D.int i, A) = some (z, A') := ez
    cases ez
    exact .inl (.inl ⟨i, by rw [rd_int r], h1.now hA rd_int'⟩)
  | str s =>
    have ez : (if isDigits s then some (D.int (digVal s), A) else none) = some (z, A') := ez
    split at ez
    · rename_i hd
      cases ez
      obtain ⟨e1, e2⟩ := int_dig hd
      exact .inr ⟨sT s, _, by rw [rd_str r], e1, e2, h1.now hA rd_int'⟩
    · cases ez
  | _ => cases (show (none : Option (D × AH)) = some (z, A') from ez)
theorem s_str (hg : glB X.env.scope "str" = true) : PE X (.Call (.Name "str" p) [a] [] q) (tE T W (cE P k (.bi .toStr es'))) := by
  refine pe_imp (pe_callTy call_str_int (gl_of hg).1 g.no (by decide +kernel) ha (by decide) (by decide) (plain_star (pl1 hc)) rfl) (bi_of hc fun w d v A Q σ hA r h => ?_)
  obtain ⟨z, A', ez, h1⟩ := h.liftH
  cases d with
  | int i =>
    have ez : (if i.natAbs.log2 < 1920 then some (D.str (digits i), A) else none) = some (z, A') := ez
    split at ez
    · rename_i hd
      cases ez
      exact ⟨i, by rw [rd_int r], hd, by rw [str_dig]; exact h1.now hA rd_str'⟩
    · cases ez
  | _ => cases (show (none : Option (D × AH)) = some (z, A') from ez)
theorem s_ord (hg : glB X.env.scope "ord" = true) : PE X (.Call (.Name "ord" p) [a] [] q) (tE T W (cE P k (.bi .ord es'))) := by
  refine pe_imp (pe_callB call_ord (gl_of hg).1 g.no (by decide +kernel) ha (by decide) (by decide) (plain_star (pl1 hc)) rfl) (bi_of hc fun w d v A Q σ hA r h => ?_)
  obtain ⟨z, A', ez, h1⟩ := h.liftH
  cases d with
  | str s =>
    match s, r, ez with
    | [c], r, ez =>
      have ez : some (D.int c, A) = some (z, A') := ez
      cases ez
      exact ⟨sT [c], by rw [rd_str r], rfl, h1.now hA rd_int'⟩
    | [], r, ez => cases (show (none : Option (D × AH)) = some (z, A') from ez)
    | _ :: _ :: _, r, ez => cases (show (none : Option (D × AH)) = some (z, A') from ez)
  | _ => cases (show (none : Option (D × AH)) = some (z, A') from ez)
theorem s_all (hg : glB X.env.scope "all" = true) : PE X (.Call (.Name "all" p) [a] [] q) (tE T W (cE P k (.bi .all es'))) := by
  refine pe_imp (pe_callB (cr_all g.calm) (gl_of hg).1 g.no (by decide +kernel) ha (by decide) (by decide) (plain_star (pl1 hc)) rfl) (bi_of hc fun w d v A Q σ hA r h => ?_)
  rw [g.K]
  obtain ⟨z, A', ez, h1⟩ := h.liftH
  unfold evBi at ez
  simp only at ez
  split at ez
  · rename_i xs hx
    split at ez
    · rename_i bs hb
      cases ez
      obtain ⟨p, vs, rfl, t1, t2⟩ := view_lst hA r hx
      rw [bools_of hb t2] at t1
      exact ⟨p, bs, rfl, .inl (.inl t1), h1.now hA rd_bl'⟩
    · cases ez
  · cases ez
theorem s_any (hg : glB X.env.scope "any" = true) : PE X (.Call (.Name "any" p) [a] [] q) (tE T W (cE P k (.bi .any es'))) := by
  refine pe_imp (pe_callB (cr_any g.calm) (gl_of hg).1 g.no (by decide +kernel) ha (by decide) (by decide) (plain_star (pl1 hc)) rfl) (bi_of hc fun w d v A Q σ hA r h => ?_)
  rw [g.K]
  obtain ⟨z, A', ez, h1⟩ := h.liftH
  unfold evBi at ez
  simp only at ez
  split at ez
  · rename_i xs hx
    split at ez
    · rename_i bs hb
      cases ez
      obtain ⟨p, vs, rfl, t1, t2⟩ := view_lst hA r hx
      rw [bools_of hb t2] at t1
      exact ⟨p, bs, rfl, .inl (.inl t1), h1.now hA rd_bl'⟩
    · cases ez
  · cases ez
theorem s_tuple (hg : glB X.env.scope "tuple" = true) : PE X (.Call (.Name "tuple" p) [a] [] q) (tE T W (cE P k (.bi .tuple es'))) := by
  refine pe_imp (pe_callTy call_tuple_of (gl_of hg).1 g.no (by decide +kernel) ha (by decide) (by decide) (plain_star (pl1 hc)) rfl) (bi_of hc fun w d v A Q σ hA r h => ?_)
  rw [g.K]
  obtain ⟨z, A', ez, h1⟩ := h.liftH
  unfold evBi at ez
  simp only at ez
  obtain ⟨xs, hx, e2⟩ := Option.map_eq_some_iff.mp ez
  cases e2
  unfold seqD at hx
  split at hx
  · rename_i ys hy
    cases hx
    obtain ⟨p, vs, rfl, t1, t2⟩ := view_lst hA r hy
    exact ⟨p, vs, rfl, .inl ⟨.inl (.inl t1), fun l hl => new_tup hA hl t2 h1⟩⟩
  · rename_i ys hy
    cases hx
    rw [view_tup hy] at r
    have r0 := r
    obtain ⟨p, vs, rfl, t1, t2⟩ := rd_tup r
    exact ⟨p, vs, rfl, .inr ⟨t1.sq, h1.now hA r0⟩⟩
  · cases hx
theorem s_list {m : Bool} (hg : glB X.env.scope "list" = true) : PE X (.Call (.Name "list" p) [a] [] q) (tE T W (cE P k (.bi (.list m) es'))) := by
  refine pe_imp (pe_callTy call_list_of (gl_of hg).1 g.no (by decide +kernel) ha (by decide) (by decide) (plain_star (pl1 hc)) rfl) (bi_of hc fun w d v A Q σ hA r h => ?_)
  rw [g.K]
  have h : Post T W (RD T) w σ (liftH ((seqD A d).map fun xs => mkL m xs A)) Q := h
  obtain ⟨z, A', ez, h1⟩ := h.liftH
  obtain ⟨xs, hx, e2⟩ := Option.map_eq_some_iff.mp ez
  rw [← e2] at ez
  have hv : view A d = .lst xs ∨ view A d = .tup xs := by
    unfold seqD at hx
    split at hx
    · cases hx; exact .inl (by assumption)
    · cases hx; exact .inr (by assumption)
    · cases hx
  obtain ⟨p, vs, rfl, t1, t2⟩ := view_vals hA r hv
  have h3 : Post T W (RD T) w σ (liftH (some (mkL m xs A))) Q := by
    rw [e2]; exact h1
  exact ⟨p, vs, rfl, t1, fun l hl => new_list hA hl t2 h3⟩
end
theorem s_isi (g : Gd T P nm k W X) {e' : E} {a t : Expr} {ts : List Ty} {p q : Pos} (hpa : plainE a = true) (ha : PE X a (tE T W (cE P k e'))) (hg : glB X.env.scope "isinstance" = true)
    (ht : isiB X.env.scope ts t = true) :
    PE X (.Call (.Name "isinstance" p) [a, t] [] q) (tE T W (cE P k (.bi (.isi ts) (.cons e' .nil)))) := by
  have start : ∀ (r : V → Hp → VK → Prop), (∀ (w : Wd) (d : D) (v : V) (A : AH) (Q : VK) (σ : L2.St), Abs T w A → RD T w d v → Post T W (RD T) w σ (liftH (evBi A (.isi ts) [d])) Q → r v w.H Q) →
      ∀ σ H Q, tE T W (cE P k (.bi (.isi ts) (.cons e' .nil))) σ H Q → tE T W (cE P k e') σ H fun v H1 => r v H1 Q := fun r key σ H Q ⟨w, σa, A, e, hA, hS, hP⟩ => by
    subst e
    have hP : Post T W (RD T) w σ (bindR (bindR (cE P k e' σa A) fun x H1 => bindR (.ok [] H1) fun xs H2 => .ok (x :: xs) H2) fun ds H1 => liftH (evBi H1 (.isi ts) ds)) Q := hP
    refine ⟨w, σa, A, rfl, hA, hS, ?_⟩
    cases hr : cE P k e' σa A with
    | no => rw [hr] at hP; exact hP.elim
    | ex c fs A' => rw [hr] at hP; exact hP
    | ok d A1 =>
      rw [hr] at hP
      have hP : Post T W (RD T) w σ (liftH (evBi A1 (.isi ts) [d])) Q := hP
      exact fun w' v e a r' => key w' d v A1 Q σ a r' (hP.later e)
  have fin : ∀ {w : Wd} {d : D} {A : AH} {Q : VK} {σ : L2.St}, Post T W (RD T) w σ (liftH (evBi A (.isi ts) [d])) Q → plainD A d = true ∧ Post T W (RD T) w σ (.ok (.bl (ts.any fun t => isTy A t d)) A) Q := fun {w d A Q σ} h => by
    obtain ⟨z, A', ez, h1⟩ := h.liftH
    have ez : (if plainD A d then some (D.bl (ts.any fun t => isTy A t d), A) else none) = some (z, A') := ez
    split at ez
    · rename_i hp
      cases ez
      exact ⟨hp, h1⟩
    · cases ez
  cases t with
  | Name x tp =>
    have ht : (decide (ts.length = 1) && tyB X.env.scope ts [.Name x tp]) = true := ht
    rw [Bool.and_eq_true] at ht
    match ts, ht with
    | [t], ht =>
      have h2 : (decide (x = tyN t) && glB X.env.scope x && tyB X.env.scope [] []) = true := ht.2
      obtain ⟨h2, h3, _⟩ := and3 h2
      have h2 := of_decide_eq_true h2
      subst h2
      refine pe_imp (pe_callB call_isi (gl_of hg).1 g.no PyProof.Rows.boot_isinstance (pa_cons ha (pa_cons (pe_tyn g h3) pa_nil rfl) (plain_star hpa)) (by decide) (by decide) (plain_star hpa) rfl)
        (start (fun v H Q => rIsi X.K [v, .ty (tyS t)] H Q) fun w d v A Q σ hA r h => ?_)
      obtain ⟨hp, h1⟩ := fin h
      rw [g.K]
      refine ⟨v, .ty (tyS t), _, _, _, rfl, .ty _, tyx_of hA r hp, kit_all d hp t, ?_⟩
      have e : ([t].any fun t => isTy A t d) = isTy A t d := by simp
      rw [e] at h1
      exact h1.now hA rd_bl'
  | Tuple ys j tp =>
    have ht : (tyB X.env.scope ts ys && decide (ys.length ≤ 1000)) = true := ht
    rw [Bool.and_eq_true] at ht
    have tl : ∀ (ts : List Ty) (ys : List Expr), tyB X.env.scope ts ys = true → ts.length = ys.length := by
      intro ts
      induction ts with
      | nil =>
        intro ys h
        cases ys with
        | nil => rfl
        | cons _ _ => cases (show false = true from h)
      | cons t ts ih =>
        intro ys h
        cases ys with
        | nil => cases (show false = true from h)
        | cons y ys =>
          cases y with
          | Name x p =>
            have h : (decide (x = tyN t) && glB X.env.scope x && tyB X.env.scope ts ys) = true := h
            simp [ih ys (and3 h).2.2]
          | _ => cases (show false = true from h)
    refine pe_imp (pe_callB call_isiT (gl_of hg).1 g.no PyProof.Rows.boot_isinstance (pa_cons ha (pa_cons (pe_tup (pa_tys g ts ys ht.1)) pa_nil rfl) (plain_star hpa)) (by decide) (by decide) (plain_star hpa) rfl)
      (start (fun v H Q => (ts.map fun t => V.ty (tyS t)).length ≤ sizeLine ∧ ∀ p, H p = none → rIsiT X.K [v, .ref p] (upd H p (.tup (ts.map fun t => V.ty (tyS t)))) Q) fun w d v A Q σ hA r h => ?_)
    obtain ⟨hp, h1⟩ := fin h
    rw [g.K]
    refine ⟨by rw [List.length_map, tl ts ys ht.1]; exact small (of_decide_eq_true ht.2), fun p hp' => ?_⟩
    have e := ext_laid (w := w) (p := p) (o := .tup (ts.map fun t => V.ty (tyS t))) hp'
    exact ⟨v, p, _, _, _, _, rfl, upd_same, pair_tys ts, tyx_of (hA.laid hp') (RD.mono e d v r) hp, kit_any d hp ts, h1 _ _ e (hA.laid hp') rd_bl'⟩
  | _ =>
    have ht : (decide (ts.length = 1) && tyB X.env.scope ts [_]) = true := ht
    rw [Bool.and_eq_true] at ht
    match ts, ht with
    | [t], ht => cases (show false = true from ht.2)
end
end Ev
end

section
set_option Elab.async false
set_option linter.all false
set_option maxRecDepth 100000
/-! len(set(texts)), by the number of the different ones. -/
namespace Ev
open PySem PySem.Spec PyProof.Rows L2 SS
def dcnt (xs : List Str) : Nat → Nat
  | 0 => 0
  | i + 1 => if (xs.take i).any (· == xs.getD i Str.empty) = true then dcnt xs i else dcnt xs i + 1
theorem dcnt_le (xs : List Str) : ∀ i, dcnt xs i ≤ i
  | 0 => Nat.le_refl _
  | i + 1 => by
    have := dcnt_le xs i
    unfold dcnt
    split <;> omega
theorem take_any (xs : List Str) (i : Nat) (k : Str) (h : i < xs.length) : (xs.take (i + 1)).any (· == k) = ((xs.take i).any (· == k) || decide (k = xs.getD i Str.empty)) := by
  rw [List.take_succ, List.any_append, List.getD_eq_getElem?_getD, List.getElem?_eq_getElem h]
  show (_ || (xs[i] == k || false)) = (_ || decide (k = xs[i]))
  rw [Bool.or_false]
  congr 1
  by_cases e : k = xs[i]
  · subst e; simp
  · rw [decide_eq_false e]
    simpa using fun z => e z.symm
section
variable {prog : Program} {w : World} {A : Around} {R : Result → Shared → Prop} {I : Addr} {fp wr : List Addr} {G : Array GenState → Array GenState → Prop} {n : Nat} {P : Nat → Value → Prop} {St : Nat → Shared → Prop}
theorem loopN (W : WalksS prog w A.in1 I fp wr G n P St) (S : Addr) (hSf : S ∉ fp) (xs : List Str) (hsz : xs.length = n) (hn1 : n ≤ 1000)
    (hval : ∀ i v, P i v → ∃ t, v = .str (xs.getD i Str.empty) t) :
    ∀ (k i : Nat) (s : Shared), n - i = k → i ≤ n → St i s →
      s.heap.SetOf (PySem.strKind prog w) S (fun k' => (xs.take i).any (· == k')) (dcnt xs i) →
      (∀ s', Moved (S :: wr) G s s' → s'.heap.SetOf (PySem.strKind prog w) S (fun k' => (xs.take n).any (· == k')) (dcnt xs n) → R (.ok (.ret .none)) s') →
      codeAny (model prog w) A (.builtin "set.update.loop" ⟨[.ref S, .ref I], []⟩) R s := by
  have hSw : S ∉ wr := fun h => hSf (W.sub _ h)
  have hsub : ∀ b ∈ wr, b ∈ S :: wr := fun b hb => List.mem_cons_of_mem _ hb
  intro k
  induction k with
  | zero =>
    intro i s hk hi hst hS hR
    have hin : i = n := by omega
    subst hin
    refine codeAny_builtin PyProof.Rows.F.entry_set_update_loop ?_
    rw [Around.under_plainId PyProof.Rows.F.plain_set_update_loop _]
    show wpAny _ A.in1 (pyNext (.ref I) >>= _) _ _ s
    refine wpAny_bind (W.done s _ _ hst fun s' hm => ?_)
    show wpAny _ A.in1 (ret Value.none) _ _ s'
    exact wpAny_pure (hR s' (hm.mono hsub) (by
      obtain ⟨o, es, ep, t, ho, rest⟩ := hS
      exact ⟨o, es, ep, t, hm.heap S _ hSw ho, rest⟩))
  | succ k ih =>
    intro i s hk hi hst hS hR
    have hlt : i < n := by omega
    have hcl := dcnt_le xs i
    refine codeAny_builtin PyProof.Rows.F.entry_set_update_loop ?_
    rw [Around.under_plainId PyProof.Rows.F.plain_set_update_loop _]
    show wpAny _ A.in1 (pyNext (.ref I) >>= _) _ _ s
    refine wpAny_bind (W.item i s _ _ hlt hst fun v s' hP hst' hm => ?_)
    obtain ⟨t, rfl⟩ := hval i v hP
    have hS' : s'.heap.SetOf (PySem.strKind prog w) S (fun k' => (xs.take i).any (· == k')) (dcnt xs i) := by
      obtain ⟨o, es, ep, tb, ho, rest⟩ := hS
      exact ⟨o, es, ep, tb, hm.heap S _ hSw ho, rest⟩
    show wpAny _ A.in1 (holding [Value.str (xs.getD i Str.empty) t] (setAdd S (.str (xs.getD i Str.empty) t)) >>= _) _ _ s'
    refine wpAny_bind (wpAny_holding ?_)
    unfold setAdd
    refine wpAny_holding ?_
    refine wpAny_bind ((PySem.strKind prog w).pyHash (k := xs.getD i Str.empty) (strKind_is _ _ _ _) ?_)
    refine wpAny_setAddHashed_of (knd := PySem.strKind prog w) (s := { s' with toks := s'.toks + 1 }) (strKind_is _ _ _ _) rfl hS' (by unfold scanBound; omega) fun h' hsb hS2 => ?_
    have hSi : h'.SetOf (PySem.strKind prog w) S (fun k' => (xs.take (i + 1)).any (· == k')) (dcnt xs (i + 1)) :=
      SetOf_congr hS2 (fun k' => (take_any xs i k' (by omega)).symm) rfl
    refine wpAny_pure ⟨plainId_quiet PyProof.Rows.F.plain_set_update_loop _, ih (i + 1) _ (by omega) hlt (W.frame _ s' _ _ hst' (Nat.le_succ _) fun b hb o e => ?_) hSi fun s'' hm'' hS'' => ?_⟩
    · rw [hsb.2 b (fun h : b = S => hSf (by rw [← h]; exact hb))]; exact e
    · refine hR s'' (Moved.trans W.gtrans ((hm.mono hsub).then_heap (Nat.le_succ _) fun b o hb e => ?_) hm'') hS''
      rw [hsb.2 b (fun h : b = S => hb (by rw [h]; exact List.mem_cons_self))]; exact e
end

section
variable {prog : Program} {w : World} {A : Around} {E : Value → Shared → Prop} {s : Shared}
set_option maxHeartbeats 3200000 in
theorem call_set_listN {l : Addr} {items : Array Value} {xs : List Str} {Q : Value → Shared → Prop}
    (hh : A.handled = none) (hl : s.heap.IsList l items) (hi : PyProof.Rows.StrsAre items.toList xs) (hn1 : xs.length ≤ 1000)
    (h : ∀ (h' : Heap) (tk : Nat), h'.SetOf (PySem.strKind prog w) s.heap.objs.size (fun k' => (xs.take items.size).any (· == k')) (dcnt xs items.size) →
      (∀ b o, b < s.heap.objs.size → s.heap.get? b = some o → h'.get? b = some o) → Q (.ref s.heap.objs.size) { s with heap := h', toks := tk }) :
    wpAny (model prog w) A (call (.type "set") [.ref l]) Q E s := by
  obtain ⟨c, tl, hmro⟩ := PySem.F.called_set.mro
  have hmade := PySem.F.called_set.made
  have hsub := PySem.F.called_set.sub
  refine wpAny_call (codeAny_of_tree ?_)
  show wpAny _ _ (callAny (.type "set") _) _ _ _
  refine wpAny_pure ⟨Code.quiet_builtin _ (by decide +kernel), codeAny_builtin PySem.F.entry_type_call ?_⟩
  rw [Around.under_plain (weight_type_call_type "set" [.ref l] []) rfl]
  have h1 := PySem.F.called_set.notType
  have h2 := PySem.F.called_set.canCreate
  have hct := PySem.F.typeCall_set_1 (.ref l)
  repeat (any_goals (first | assumption | wp_step))

  refine codeAny_mono (code_set_new_1 (.ref l) (E := E) (Q₁ := fun obj s₁ => ∃ led : Bool, obj = .ref s.heap.objs.size ∧ s₁ = { s with heap := s.heap.push { cls := .type "set", dict := none, data := .set #[] 0 (.fresh 0 0 led) } }) fun led => ⟨led, rfl, rfl⟩) fun r s₁ hr => ?_
  cases r with
  | error e => exact hr
  | ok fl =>
    cases fl with
    | ret obj =>
      obtain ⟨led, rfl, rfl⟩ := hr
      have hS : (s.heap.push { cls := .type "set", dict := none, data := .set #[] 0 (.fresh 0 0 led) }).get? s.heap.objs.size = some { cls := .type "set", dict := none, data := .set #[] 0 (.fresh 0 0 led) } := Heap.get?_push_size _ rfl
      have hT : Shared.TypeIs { s with heap := s.heap.push { cls := .type "set", dict := none, data := .set #[] 0 (.fresh 0 0 led) } } (.ref s.heap.objs.size) "set" := ⟨_, hS, rfl⟩
      have hli := PySem.F.called_set.init.lookup
      have hbi := PySem.F.called_set.init.bind (.ref s.heap.objs.size)
      repeat (any_goals (first | assumption | wp_step))

      refine codeAny_mono (codeAny_call_builtin (R := wants (fun r s₂ => r = .none ∧ ∃ h' tk, s₂ = { s with heap := h', toks := tk } ∧
          h'.SetOf (PySem.strKind prog w) s.heap.objs.size (fun k' => (xs.take items.size).any (· == k')) (dcnt xs items.size) ∧
          (∀ b o, b < s.heap.objs.size → s.heap.get? b = some o → h'.get? b = some o)) E) PySem.F.called_set.init.plain PySem.F.entry_set_init (check_set_init_1 hT ?_)) fun r₂ s₂ hr₂ => ?_
      · obtain ⟨ol, hol, hcl, nl, hdl⟩ := hl
        obtain ⟨ocls, odict, odata, oslots⟩ := ol
        simp only at hcl hdl
        subst hcl; subst hdl
        have hol' : (s.heap.push { cls := .type "set", dict := none, data := .set #[] 0 (.fresh 0 0 led) }).get? l = some { cls := .type "list", dict := odict, data := .seq items nl, slots := oslots } := Heap.get?_push_of_some _ hol
        have hsls := PySem.F.sub_list_set
        have hslf := PySem.F.sub_list_frozenset
        have hne : (Value.type "list" == Value.type "dict") = false := by decide
        have hl1 : (s.heap.push { cls := .type "set", dict := none, data := .set #[] 0 (.fresh 0 0 led) }).IsList l items := ⟨_, hol', rfl, nl, rfl⟩
        unfold Builtin.«set.__init__» noKeywords Builtin.Frozenset.updateFrom
        generalize hPI : pyIter = PI
        wp_walk
        subst hPI

        refine wpAny_pyIter_list hl1 ?_
        refine wpAny_bind (wpAny_runValue ?_)
        have hlS : l < s.heap.objs.size := Heap.lt_size hol
        have hh3 : A.in1.in1.in1.handled = none := by simp [hh]
        have hneI : l ≠ (s.heap.push { cls := .type "set", dict := none, data := .set #[] 0 (.fresh 0 0 led) }).objs.size := by
          rw [Heap.size_push]; exact Nat.ne_of_lt (Nat.lt_succ_of_lt hlS)
        have hSf : s.heap.objs.size ∉ [(s.heap.push { cls := .type "set", dict := none, data := .set #[] 0 (.fresh 0 0 led) }).objs.size, l] := by
          rw [Heap.size_push]; simp only [List.mem_cons, List.mem_singleton, List.not_mem_nil, or_false, not_or]
          exact ⟨Nat.ne_of_lt (Nat.lt_succ_self _), Nat.ne_of_gt hlS⟩
        have hsz : xs.length = items.size := by rw [← StrsAre.len_eq hi, Array.length_toList]
        have hval : ∀ (i : Nat) (v : Value), items[i]? = some v → ∃ t, v = .str (xs.getD i Str.empty) t := fun i v hv => strs_at hi i v (by rw [Array.getElem?_toList]; exact hv)
        refine loopN ((Walks.list hh3 _ l hneI items).toS) s.heap.objs.size
          hSf xs hsz (by rw [← hsz]; exact hn1) hval (items.size - 0) 0 _ (by omega) (Nat.zero_le _)
          ⟨⟨_, Heap.get?_push_size _ rfl, rfl, rfl⟩, (hl1.push _)⟩ ?hS0 ?hR
        case hS0 =>
          have hget : ((s.heap.push { cls := .type "set", dict := none, data := .set #[] 0 (.fresh 0 0 led) }).push { cls := .type "list_iterator", data := .fields #[.ref l, .int 0 0] }).get? s.heap.objs.size
              = some { cls := .type "set", dict := none, data := .set #[] 0 (.fresh 0 0 led) } := Heap.get?_push_of_some _ hS
          exact PyProof.Rows.SetOf_congr ((PyProof.Rows.setObjOf_fresh (knd := PySem.strKind prog w) led).setOf hget (by unfold scanBound; omega)) (fun _ => rfl) rfl
        case hR =>
          intro s' hm hS'
          obtain ⟨h', g', d', tk', os'⟩ := s'
          have eg : g' = s.gens := hm.gens
          have ed : d' = s.drawn := hm.drawn
          have eo : os' = s.os := hm.os
          subst eg; subst ed; subst eo
          show wpAny _ _ _ _ _ _
          refine wpAny_pure ?_
          show wpAny _ _ (ret Value.none) _ _ _
          refine wpAny_pure ⟨rfl, h', tk', rfl, hS', fun b o hb e => ?_⟩
          have hb1 : b ≠ s.heap.objs.size := Nat.ne_of_lt hb
          have hb2 : b ≠ (s.heap.push { cls := .type "set", dict := none, data := .set #[] 0 (.fresh 0 0 led) }).objs.size := by
            rw [Heap.size_push]; exact Nat.ne_of_lt (Nat.lt_succ_of_lt hb)
          exact hm.heap b o (by simp only [List.mem_cons, List.mem_singleton, List.not_mem_nil, or_false, not_or]; exact ⟨hb1, hb2⟩) (Heap.get?_push_of_some _ (Heap.get?_push_of_some _ e))

      · cases r₂ with
        | error e => exact hr₂
        | ok fl₂ =>
          cases fl₂ with
          | ret r =>
            obtain ⟨rfl, h', tk, rfl, hS', hk'⟩ := hr₂
            repeat (any_goals (first | assumption | wp_step))
            exact h _ _ hS' hk'
          | _ => exact hr₂.elim
    | _ => exact hr.elim
end
end Ev
end

section
set_option Elab.async false
set_option linter.all false
set_option maxRecDepth 100000
/-! len(set(texts)), two. -/
namespace Ev
open PySem PySem.Spec PyProof.Rows L2 SS
theorem dedup_snoc : ∀ (xs : List Tx) (y : Tx), (dedup (xs ++ [y])).length = if y ∈ xs then (dedup xs).length else (dedup xs).length + 1
  | [], y => by simp [dedup]
  | x :: xs, y => by
    have ih := dedup_snoc xs y
    have e1 : dedup (x :: xs ++ [y]) = if x ∈ xs ++ [y] then dedup (xs ++ [y]) else x :: dedup (xs ++ [y]) := rfl
    have e2 : dedup (x :: xs) = if x ∈ xs then dedup xs else x :: dedup xs := rfl
    rw [e1, e2]
    by_cases h1 : x ∈ xs
    · have h2 : x ∈ xs ++ [y] := by simp [h1]
      rw [if_pos h2, if_pos h1, ih]
      by_cases h3 : y ∈ xs
      · rw [if_pos h3, if_pos (by simp [h3])]
      · have h4 : y ∉ x :: xs := by
          simp only [List.mem_cons, not_or]
          exact ⟨fun z => h3 (z ▸ h1), h3⟩
        rw [if_neg h3, if_neg h4]
    · rw [if_neg h1]
      by_cases h5 : x = y
      · subst h5
        rw [if_pos (by simp), ih, if_neg h1, if_pos (by simp)]
        rfl
      · rw [if_neg (by simp [h1, h5]), List.length_cons, ih, List.length_cons]
        by_cases h3 : y ∈ xs
        · rw [if_pos h3, if_pos (by simp [h3])]
        · have h4 : y ∉ x :: xs := by
            simp only [List.mem_cons, not_or]
            exact ⟨fun z => h5 z.symm, h3⟩
          rw [if_neg h3, if_neg h4]
theorem any_texts (ts : List Tx) (s : Tx) : (ts.map sT).any (· == sT s) = decide (s ∈ ts) := by
  induction ts with
  | nil => rfl
  | cons t ts ih =>
    rw [List.map_cons, List.any_cons, ih]
    by_cases h : s = t
    · subst h; simp
    · have : (sT t == sT s) = false := by simpa using fun z => h (sT_inj z).symm
      rw [this, Bool.false_or]
      by_cases h2 : s ∈ ts
      · rw [decide_eq_true h2, decide_eq_true (by simp [h2])]
      · rw [decide_eq_false h2, decide_eq_false (by simp [h, h2])]
theorem dcnt_texts (ts : List Tx) : ∀ i, i ≤ ts.length → dcnt (ts.map sT) i = (dedup (ts.take i)).length
  | 0, _ => by simp [dcnt, dedup]
  | i + 1, h => by
    have ih := dcnt_texts ts i (by omega)
    have hi : i < ts.length := h
    unfold dcnt
    rw [← List.map_take, List.getD_eq_getElem?_getD, List.getElem?_map, List.getElem?_eq_getElem hi]
    show (if ((ts.take i).map sT).any (· == sT ts[i]) = true then _ else _) = _
    rw [any_texts, ih, List.take_succ, List.getElem?_eq_getElem hi]
    show _ = (dedup (ts.take i ++ [ts[i]])).length
    rw [dedup_snoc]
    by_cases hm : ts[i] ∈ ts.take i
    · rw [if_pos hm, if_pos (decide_eq_true hm)]
    · rw [if_neg hm, if_neg (by simpa using hm)]
section
variable {X : Cx}
def tLenN (K : PySem.W.Frag) (ta : TA) : TE := fun σ H Q => ta σ H fun vs H1 => ∃ x l, ∃ xs : List Str, vs = [x] ∧ x = .ref l ∧ SqL K H1 l (xs.map V.str) ∧ xs.length ≤ 1000 ∧ Q (.int (dcnt xs xs.length)) H1
theorem pe_lenN {a : Expr} {ta : TA} {p p2 q pos : Pos} (hc : X.calm = true) (hg : Gl X "len") (hm : X.mg "len" = none) (hg2 : Gl X "set") (hm2 : X.mg "set" = none) (ha : PA X [a] ta)
    (na : starEach [a] X.env = (false, eval a X.env) :: starEach [] X.env) : PE X (.Call (.Name "len" p) [.Call (.Name "set" p2) [a] [] q] [] pos) (tLenN X.K ta) := by
  refine ⟨fun pins s σ H Q I h => ?_⟩
  refine Call_ (ld_blt I hg hm boot_len ?_)
  refine PyProof.Rows.callWith_builtin1 (PyProof.Rows.args_cons ?_ rfl) rfl rfl
  refine Call_ (ld_blt I hg2 hm2 boot_set ?_)
  refine PyProof.Rows.callWith_type1 (thn (ha.run q pins s σ H _ I h) fun us s1 ⟨vs, H1, I1, r1, q1⟩ => ?_) na rfl
  obtain ⟨x, l, xs, rfl, rfl, hq, h1, q1⟩ := q1
  obtain ⟨u, eu, rv⟩ := Vals.one r1
  subst eu
  obtain rfl : u = Value.ref l := rv
  obtain ⟨its, r, pl, hz⟩ := I1.list hq
  refine call_set_listN (I1.ok.hd hc) pl.isList (by simpa using strsAre_of r) h1 fun h' tk hS hk => ?_
  refine PyProof.Rows.args_nil ?_
  have hl : its.toArray.size = xs.length := by rw [List.size_toArray, ← r.length, List.length_map]
  rw [hl] at hS
  obtain ⟨o, es, ep, t, ho, hex, hd, _, _, _, hf, hn⟩ := hS
  have hle := dcnt_le xs xs.length
  have I2 : Inv X pins σ H1 { s1 with heap := h', toks := tk } := I1.kept fun b o e => hk b o (Heap.lt_size e) e
  exact call_len_set ho hex hd hf (by rw [hn] <;> omega) ⟨.int (dcnt xs xs.length), H1, I2.tok _, ⟨_, by rw [hn]⟩, q1⟩
end
section
variable {T : Tb} {P : Pg} {nm : Nm} {k : Nat} {W : WX} {X : Cx}
theorem s_lenSet (g : Gd T P nm k W X) {es' : E} {a : Expr} {p p2 q q2 : Pos} (hc : chks nm X.N X.env.scope es' [a] = true) (ha : PA X [a] (tA T W (cA P k es'))) (hg : glB X.env.scope "len" = true) (hg2 : glB X.env.scope "set" = true) :
    PE X (.Call (.Name "len" p) [.Call (.Name "set" p2) [a] [] q] [] q2) (tE T W (cE P k (.bi .lenSet es'))) := by
  refine pe_imp (pe_lenN g.calm (gl_of hg).1 g.no (gl_of hg2).1 g.no ha (plain_star (pl1 hc))) fun σ H Q hq => ?_
  refine bi_of (r := fun vs H Q => ∃ x l, ∃ xs : List Str, vs = [x] ∧ x = .ref l ∧ SqL X.K H l (xs.map V.str) ∧ xs.length ≤ 1000 ∧ Q (.int (dcnt xs xs.length)) H) hc (fun w d v A Q σ hA r h => ?_) σ H Q hq
  rw [g.K]
  obtain ⟨z, A', ez, h1⟩ := h.liftH
  unfold evBi at ez
  simp only at ez
  split at ez
  · rename_i xs hx
    split at ez
    · rename_i ts ht
      split at ez
      · rename_i hl
        cases ez
        obtain ⟨p, vs, rfl, t1, t2⟩ := view_lst hA r hx
        have e := texts_of ht t2
        subst e
        refine ⟨_, p, ts.map sT, rfl, rfl, .inl (.inl (by rw [List.map_map]; exact t1)), by simpa using hl, ?_⟩
        have e2 : dcnt (ts.map sT) (ts.map sT).length = (dedup ts).length := by
          rw [List.length_map, dcnt_texts ts ts.length (Nat.le_refl _), List.take_length]
        rw [e2]
        exact h1.now hA rd_int'
      · cases ez
    · cases ez
  · cases ez
end
end Ev
end

section
set_option Elab.async false
set_option linter.all false
set_option maxRecDepth 100000
/-! Built-in methods, truth. -/
namespace Ev
open PySem PySem.Spec PyProof.Rows L2
section
variable {T : Tb} {P : Pg} {nm : Nm} {k : Nat} {W : WX} {X : Cx} {sc : Scope} {w : Wd} {A : AH} {σ : L2.St}

/-! ### lists -/
theorem bm_lst {b : Bm} {x : D} (hb : b = .append ∨ b = .pop) (h : bmOk A b x = true) : ∃ i xs, x = .ref i ∧ A[i]? = some (.lst xs) := by
  rcases hb with rfl | rfl <;>
  · cases x with
    | ref i =>
      cases hi : A[i]? with
      | none =>
        have h : (match A[i]? with
          | some (.lst _) => true
          | _ => false) = true := h
        rw [hi] at h; cases h
      | some o =>
        have h : (match A[i]? with
          | some (.lst _) => true
          | _ => false) = true := h
        rw [hi] at h
        cases o with
        | lst xs => exact ⟨i, xs, rfl, hi⟩
        | _ => cases h
    | _ => cases (show false = true from h)
theorem s_append (g : Gd T P nm k W X) {o' es' : E} {o a : Expr} {p q : Pos} (hc : chks nm X.N X.env.scope es' [a] = true) (hs : notSuper o = true) (hl : (p.endLine == q.line) = true) (ho : PE X o (tE T W (cE P k o'))) (ha : PA X [a] (tA T W (cA P k es'))) :
    PE X (.Call (.Attribute o "append" p) [a] [] q) (tE T W (cE P k (.bm .append o' es'))) := by
  have hpl := chks_plain es' [a] hc
  refine pe_imp (pe_bm PySem.F.plainAttrs_list PySem.F.slot_list_append PySem.F.type_list_append mt_append ho ha (plain_sup hs) (by rw [star_all hpl]; rfl) hl (plain_star (pl1 hc)) rfl) fun σ H Q ⟨w, σa, A, e, hA, hS, hP⟩ => ?_
  subst e
  have hP : Post T W (RD T) w σ (bindR (cE P k o' σa A) fun x H1 => if bmOk H1 .append x then bindR (cA P k es' σa H1) fun ds H2 => liftH (evBm H2 .append x ds) else .no) Q := hP
  refine ⟨w, σa, A, rfl, hA, hS, hP.bind fun w1 x v A1 e1 a1 r1 hev h1 => ?_⟩
  clear hev
  split at h1
  · rename_i hb
    obtain ⟨i, xs, rfl, hi⟩ := bm_lst (.inl rfl) hb
    obtain ⟨vs, t1, t2⟩ := a1.ob _ _ hi
    have ev := (rd_ref r1).2
    refine ⟨by rw [ev]; exact .inl ⟨rfl, vs, .inl (.inl t1)⟩, w1, σa, A1, rfl, a1, hS.mono e1, h1.bind fun w2 ds us A2 e2 a2 r2 q2 h2 => ?_⟩
    obtain ⟨d, rfl⟩ := one_arg hc q2
    rw [RDs] at r2
    obtain ⟨u, rr, rfl, r3, r4⟩ := r2
    rw [RDs] at r4
    subst r4
    obtain ⟨z, A3, ez, h3⟩ := h2.liftH
    have rx := RD.mono e2 _ _ r1
    unfold evBm at ez
    simp only at ez
    split at ez
    · rename_i ys hy
      split at ez
      · rename_i hz
        cases ez
        obtain ⟨us, t3, t4⟩ := a2.ob _ _ hy
        obtain ⟨hlt, rfl⟩ := rd_ref rx
        refine ⟨w2.f i, us, u, rfl, rfl, t3, by rw [← t4.length]; exact hz, ?_⟩
        have ep := ext_put (o := .lst (us ++ [u])) a2 hlt t3
        exact h3 (w2.put i (.lst (us ++ [u]))) .non ep (a2.put hlt t3 ⟨_, upd_same, (RDs.mono ep ys us t4).append (RDs.cons (RD.mono ep d u r3) RDs.nil)⟩) rd_non'
      · cases ez
    · cases ez
  · exact h1.elim
theorem s_pop (g : Gd T P nm k W X) {o' : E} {o : Expr} {p q : Pos} (hs : notSuper o = true) (hl : (p.endLine == q.line) = true) (ho : PE X o (tE T W (cE P k o'))) :
    PE X (.Call (.Attribute o "pop" p) [] [] q) (tE T W (cE P k (.bm .pop o' .nil))) := by
  refine pe_imp (pe_bm0 PySem.F.plainAttrs_list PySem.F.slot_list_pop PySem.F.type_list_pop mt_pop ho (plain_sup hs) hl) fun σ H Q ⟨w, σa, A, e, hA, hS, hP⟩ => ?_
  subst e
  have hP : Post T W (RD T) w σ (bindR (cE P k o' σa A) fun x H1 => if bmOk H1 .pop x then liftH (evBm H1 .pop x []) else .no) Q := hP
  refine ⟨w, σa, A, rfl, hA, hS, hP.bind fun w1 x v A1 e1 a1 r1 hev h1 => ?_⟩
  clear hev
  split at h1
  · rename_i hb
    obtain ⟨i, xs, rfl, hi⟩ := bm_lst (.inr rfl) hb
    obtain ⟨vs, t1, t2⟩ := a1.ob _ _ hi
    obtain ⟨hlt, rfl⟩ := rd_ref r1
    refine ⟨.inl ⟨rfl, vs, .inl (.inl t1)⟩, ?_⟩
    obtain ⟨z, A3, ez, h3⟩ := h1.liftH
    unfold evBm at ez
    simp only at ez
    rw [hi] at ez
    simp only at ez
    split at ez
    · rename_i d hd
      cases ez
      rw [List.getLast?_eq_getElem?, t2.length] at hd
      obtain ⟨u, hu, ru⟩ := t2.get hd
      refine ⟨w1.f i, vs, u, rfl, rfl, t1, hu, ?_⟩
      have ep := ext_put (o := .lst vs.dropLast) a1 hlt t1
      exact h3 (w1.put i (.lst vs.dropLast)) u ep (a1.put hlt t1 ⟨_, upd_same, RDs.dropLast (RDs.mono ep xs vs t2)⟩) (RD.mono ep _ _ ru)
    · cases ez
  · exact h1.elim

/-! ### texts -/
theorem join_eq (s : Tx) : ∀ ts : List Tx, Txt.join (sT s) (ts.map sT) = sT (joinT s ts)
  | [] => rfl
  | [x] => by
    show Txt.join (sT s) [sT x] = sT x
    first
      | rfl
      | (unfold Txt.join; rfl)
  | x :: y :: r => by
    have ih := join_eq s (y :: r)
    have e : Txt.join (sT s) ((x :: y :: r).map sT) = sT x ++ sT s ++ Txt.join (sT s) ((y :: r).map sT) := by
      show Builtin.Str.glued (sT s) (sT x :: sT y :: r.map sT) = sT x ++ sT s ++ Builtin.Str.glued (sT s) (sT y :: r.map sT)
      rw [StrLaws.glued_eq_join, StrLaws.glued_eq_join]
      rfl
    rw [e, ih, sT_app, sT_app]
    rfl
theorem bind1 {β : Type} {r : Rs D} {g : List D → AH → Rs β} : bindR (bindR r fun x H1 => bindR (Rs.ok [] H1) fun xs H2 => Rs.ok (x :: xs) H2) g = bindR r fun x H => g [x] H := by
  cases r <;> rfl
theorem bm_str {b : Bm} {x : D} (hb : b = .join ∨ ∃ c, b = .dbl c) (h : bmOk A b x = true) : ∃ s, x = .str s := by
  rcases hb with rfl | ⟨c, rfl⟩ <;>
  · cases x with
    | str s => exact ⟨s, rfl⟩
    | _ => cases (show false = true from h)
theorem s_join (g : Gd T P nm k W X) {o' e' : E} {o a : Expr} {p q : Pos} (hpa : plainE a = true) (hs : notSuper o = true) (hl : (p.endLine == q.line) = true) (ho : PE X o (tE T W (cE P k o'))) (ha : PE X a (tE T W (cE P k e'))) :
    PE X (.Call (.Attribute o "join" p) [a] [] q) (tE T W (cE P k (.bm .join o' (.cons e' .nil)))) := by
  refine pe_imp (pe_join ho ha (plain_star hpa) (plain_sup hs) hl) fun σ H Q ⟨w, σa, A, e, hA, hS, hP⟩ => ?_
  subst e
  have hP : Post T W (RD T) w σ (bindR (cE P k o' σa A) fun x H1 => if bmOk H1 .join x then bindR (bindR (cE P k e' σa H1) fun x H1 => bindR (Rs.ok [] H1) fun xs H2 => Rs.ok (x :: xs) H2) fun ds H2 => liftH (evBm H2 .join x ds) else .no) Q := hP
  refine ⟨w, σa, A, rfl, hA, hS, hP.bind fun w1 x v A1 e1 a1 r1 hev h1 => ?_⟩
  clear hev
  split at h1
  · rename_i hb
    obtain ⟨s, rfl⟩ := bm_str (.inl rfl) hb
    rw [bind1] at h1
    have ev := rd_str r1
    subst ev
    refine ⟨⟨_, rfl⟩, w1, σa, A1, rfl, a1, hS.mono e1, h1.bind fun w2 d u A2 e2 a2 r2 q2 h2 => ?_⟩
    obtain ⟨z, A3, ez, h3⟩ := h2.liftH
    unfold evBm at ez
    simp only at ez
    split at ez
    · rename_i xs hx
      split at ez
      · rename_i ts ht
        split at ez
        · rename_i hz
          cases ez
          have hv : view A2 d = .lst xs ∨ view A2 d = .tup xs := by
            unfold seqD at hx
            split at hx
            · cases hx; exact .inl (by assumption)
            · cases hx; exact .inr (by assumption)
            · cases hx
          obtain ⟨p, vs, rfl, t1, t2⟩ := view_vals a2 r2 hv
          have e := texts_of ht t2
          subst e
          rw [g.K]
          have e3 : ts.map (fun s => V.str (sT s)) = (ts.map sT).map V.str := by rw [List.map_map]; rfl
          rw [e3] at t1
          refine ⟨sT s, p, ts.map sT, rfl, rfl, t1, ?_, ?_⟩
          · have : (ts.map sT).map (·.length) = ts.map List.length := by
              rw [List.map_map]
              apply List.map_congr_left
              intro t _
              exact sT_len t
            rw [this, List.length_map, sT_len]; exact hz
          · rw [join_eq]
            exact h3.now a2 rd_str'
        · cases ez
      · cases ez
    · cases ez
  · exact h1.elim
/-- a value, and a token is out -/
def PEU (X : Cx) (e : Expr) (t : TE) : Prop := ∀ (pins : List (Addr × Obj)) (s : Shared) (σ : L2.St) (H : Hp) (Q : VK), Inv X pins σ H s → t σ H Q → wpAny (model X.prog X.w) X.A (eval e X.env) (fun u s' => 1 ≤ s'.toks ∧ EP X pins σ Q u s') X.xe s
theorem PEU.pe {e : Expr} {t : TE} (h : PEU X e t) : PE X e t := ⟨fun pins s σ H Q I q => thn (h pins s σ H Q I q) fun _ _ z => z.2⟩
theorem peu_imp {e : Expr} {t t' : TE} (h : PEU X e t) (k : ∀ σ H Q, t' σ H Q → t σ H Q) : PEU X e t' := fun pins s σ H Q I q => h pins s σ H Q I (k σ H Q q)
theorem peu_ix {r : R2} {a : Expr} {ta tb : TE} {c : Int} {j : Nat} {pc pos : Pos} (hr : IxR X r) (ha : PE X a ta) (hb : ∀ σ H Q, tb σ H Q → Q (.int c) H) : PEU X (.Subscript a (.Constant (.int c) j pc) pos) (tOp r ta tb) := by
  intro pins s σ H Q I h
  refine Subscript_ (thn (ha.run pins s σ H _ I h) fun v s1 ⟨x, H1, I1, r1, q1⟩ => wpAny_Constant_int ?_)
  have hk : 1 ≤ s1.toks + 1 := by omega
  refine wpAny_mono (PySem.wpAny_toks_of (s := { s1 with toks := s1.toks + 1 }) hk (hr a (.Constant (.int c) j pc) pins { s1 with toks := s1.toks + 1 } σ H1 x (.int c) v _ Q (I1.tok _) r1 ⟨_, rfl⟩ (hb _ _ _ q1) rfl)) (fun u s' z => z) fun _ _ z => z.2
theorem peu_dg (hu : X.A.units + 1 < cLine) {a : Expr} {ta tb : TE} {c : Int} {j : Nat} {pc pos : Pos} (ha : PE X a ta) (hb : ∀ σ H Q, tb σ H Q → Q (.int c) H) : PEU X (.Subscript a (.Constant (.int c) j pc) pos) (tDGet ta tb) := by
  intro pins s σ H Q I h
  refine subD_of PySem.F.slot_dict_getitem.lookup (plain_nosl rfl) (thn (ha.run pins s σ H _ I h) fun u s1 ⟨x, H1, I1, rx, q1⟩ => wpAny_Constant_int ?_)
  obtain ⟨b, v, ex, gd, q2⟩ := hb _ _ _ q1
  subst ex
  obtain rfl : u = Value.ref b := rx
  have I2 : Inv X pins σ H1 { s1 with toks := s1.toks + 1 } := I1.tok _
  refine ⟨dict_typeIs I2 gd, ?_⟩
  have hk : 1 ≤ s1.toks + 1 := by omega
  exact wpAny_mono (PySem.wpAny_toks_of (s := { s1 with toks := s1.toks + 1 }) hk (d_getItem (E := X.xe) (Q := EP X pins σ Q) hu I2 gd ⟨_, rfl⟩ fun w' s3 I3 rw' => ⟨v, H1, I3, rw', q2⟩)) (fun u s' z => z) fun _ _ z => z.2
theorem peu_orE {e : Expr} {t t' : TE} (h : PEU X e t) (h' : PEU X e t') : PEU X e (fun σ H Q => t σ H Q ∨ t' σ H Q) := fun pins s σ H Q I q => q.elim (h pins s σ H Q I) (h' pins s σ H Q I)
theorem con_int {c : Int} (σ : L2.St) (H : Hp) (Q : VK) (h : tE T W (cE P k (.con (.int c))) σ H Q) : Q (.int c) H := by
  obtain ⟨w, σa, A, e, hA, hS, hP⟩ := h
  subst e
  have hP : Post T W (RD T) w σ (.ok (.int c) A) Q := hP
  exact hP.now hA rd_int'
theorem peu_repl {o : Expr} {to : TE} {y z : Str} {j i : Nat} {c0 c1 p q : Pos} (ho : PEU X o to) (hyz : (y == z) = false) (hbase : attributeBase o "replace" X.env (eval o X.env) = eval o X.env) (hline : (p.endLine == q.line) = true) :
    PEU X (.Call (.Attribute o "replace" p) [.Constant (.str y) j c0, .Constant (.str z) i c1] [] q) (CwR.tReplC to y z) := by
  intro pins s σ H Q I h
  refine PySem.Call_method2 hbase rfl hline (thn (ho pins s σ H _ I h) fun v s1 zz => ?_)
  obtain ⟨hk, v', H1, I1, r1, x, e1, hb, q⟩ := zz
  subst e1
  obtain ⟨tx, e2⟩ := r1
  subst e2
  refine ⟨"str", _, PySem.F.plainAttrs_str, PySem.F.slot_str_replace, PySem.F.type_str_replace, typeIs_str _ _ _, (fun _ e => nomatch e), Calls.callWith_builtin rfl (Calls.evalArgs_plain (Calls.spliced_cons ?_))⟩
  refine Calls.Constant_str (Calls.spliced_cons (Calls.Constant_str (Calls.spliced_nil ?_)))
  have hk2 : 1 ≤ s1.toks + 1 + 1 := by omega
  refine wpAny_mono (PySem.wpAny_toks_of (s := { s1 with toks := s1.toks + 1 + 1 }) hk2 (Q := EP X pins σ Q) (E := X.xe) ?_) (fun u s' z => z) fun _ _ z => z.2
  exact PySem.SC.replace (by show s1.toks ≠ 0; omega) (by show s1.toks + 1 ≠ 0; omega) (by show s1.toks ≠ s1.toks + 1; omega) hyz hb fun t' k => ⟨.str (Txt.replace x y z), H1, I1.tok k, ⟨t', rfl⟩, q⟩
theorem dbl_eq (c : Nat) : ∀ s : Tx, StrLaws.dbl c s = dblT c s
  | [] => rfl
  | k :: r => by
    show (if k = c then k :: k :: StrLaws.dbl c r else k :: StrLaws.dbl c r) = (if k = c then k :: k :: dblT c r else k :: dblT c r)
    rw [dbl_eq c r]
theorem repl_ok {o' : E} {c : Nat} (σ : L2.St) (H : Hp) (Q : VK) (h : tE T W (cE P k (.bm (.dbl c) o' .nil)) σ H Q) : CwR.tReplC (tE T W (cE P k o')) ⟨#[c]⟩ ⟨#[c, c]⟩ σ H Q := by
  obtain ⟨w, σa, A, e, hA, hS, hP⟩ := h
  subst e
  have hP : Post T W (RD T) w σ (bindR (cE P k o' σa A) fun x H1 => if bmOk H1 (.dbl c) x then liftH (evBm H1 (.dbl c) x []) else .no) Q := hP
  refine ⟨w, σa, A, rfl, hA, hS, hP.bind fun w1 x v A1 e1 a1 r1 hev h1 => ?_⟩
  clear hev
  split at h1
  · rename_i hb
    obtain ⟨s, rfl⟩ := bm_str (.inr ⟨c, rfl⟩) hb
    obtain ⟨z, A3, ez, h3⟩ := h1.liftH
    have ez : (if s.length + (s.length + 1) * 2 ≤ 16777216 then some (D.str (dblT c s), A1) else none) = some (z, A3) := ez
    split at ez
    · rename_i hz
      cases ez
      refine ⟨sT s, rd_str r1, by rw [sT_len]; exact hz, ?_⟩
      rw [replace_dbl (sT s) _ _ c rfl rfl]
      show Q (.str (sT (StrLaws.dbl c s))) w1.H
      rw [dbl_eq]
      exact h3.now a1 rd_str'
    · cases ez
  · exact h1.elim
theorem dbl_ne (c : Nat) : ((⟨#[c]⟩ : Str) == ⟨#[c, c]⟩) = false := by
  apply beq_eq_false_iff_ne.mpr
  intro e
  have := congrArg (fun s : Str => s.cps.size) e
  simp at this

/-! ### truth -/
theorem view_flat {x d : D} (e : view A x = d) (h : flatD d = true) : x = d := by
  cases x with
  | ref i =>
    have e : (match A[i]? with
      | some (.lst xs) => D.lst xs
      | _ => .ref i) = d := e
    split at e <;> · subst e; cases h
  | _ => exact e
theorem tru_of (hA : Abs T w A) {d : D} {v : V} {z : Bool} (r : RD T w d v) (e : truD A d = some z) : TruV T.K v w.H z := by
  unfold truD at e
  split at e
  · rename_i hv
    rw [view_flat hv rfl] at r
    cases e
    rw [rd_non r]; rfl
  · rename_i b hv
    rw [view_flat hv rfl] at r
    cases e
    rw [rd_bl r]; rfl
  · rename_i i hv
    rw [view_flat hv rfl] at r
    cases e
    rw [rd_int r]; rfl
  · rename_i s hv
    rw [view_str hv] at r
    split at e
    · rename_i hl
      cases e
      rw [rd_str r]
      refine ⟨by rw [sT_len]; exact hl, ?_⟩
      rw [sT_len]
      cases s with
      | nil => rfl
      | cons c l =>
        show true = (((c :: l).length : Int) != 0)
        symm
        simp
        omega
    · cases e
  · rename_i xs hv
    cases e
    obtain ⟨p, vs, rfl, t1, t2⟩ := view_lst hA r hv
    refine .inl ⟨vs, .inl (.inl t1), ?_⟩
    have := t2.length
    cases xs <;> cases vs <;> first | rfl | simp at this
  · rename_i xs hv
    cases e
    rw [view_tup hv] at r
    obtain ⟨p, vs, rfl, t1, t2⟩ := rd_tup r
    refine .inr (.inl ⟨vs, t1.sq, ?_⟩)
    have := t2.length
    cases xs <;> cases vs <;> first | rfl | simp at this
  · rename_i i hv
    split at e
    · rename_i kvs hk
      cases e
      rw [view_ref hv] at r
      obtain ⟨ws, h1, h2⟩ := dic_at hA hk
      rw [(rd_ref r).2]
      refine .inr (.inr ⟨ws, h1, ?_⟩)
      cases kvs with
      | nil =>
        have h2 : ws = [] := h2
        subst h2; rfl
      | cons x r =>
        obtain ⟨v, q, rfl, _⟩ := h2
        rfl
    · cases e
  · cases e
theorem s_truth (g : Gd T P nm k W X) {e' : E} {e : Expr} (h : PE X e (tE T W (cE P k e'))) (he : ∀ whole, isTrue e X.env whole = (do let v ← whole; standAt e.pos; holding [v] (truthy v))) :
    PT X e (tT T W fun σ H => bindR (cE P k e' σ H) fun d H2 => liftR (truD H2 d) H2) := by
  refine pt_imp (pt_truth h he) fun σ H Q ⟨w, σa, A, e, hA, hS, hP⟩ => ?_
  subst e
  refine ⟨w, σa, A, rfl, hA, hS, Post.bind hP fun w1 d v A1 e1 a1 r1 _ h1 => ?_⟩
  obtain ⟨z, ez, h2⟩ := h1.lift
  rw [g.K]
  exact ⟨z, tru_of a1 r1 ez, h2.now a1 rfl⟩
theorem pt_eq {e : Expr} {f f' : Sl → AH → Rs Bool} (h : PT X e (tT T W f)) (k : f' = f) : PT X e (tT T W f') := by rw [k]; exact h
theorem ct_var {i : Nat} : cT P k (.var i) = fun σ H => bindR (cE P k (.var i) σ H) fun d H2 => liftR (truD H2 d) H2 := by
  funext σ H
  show (match σ[i]? with
    | some (some d) => liftR (truD H d) H
    | _ => .no) = bindR (match σ[i]? with
    | some (some d) => .ok d H
    | _ => .no) fun d H2 => liftR (truD H2 d) H2
  split <;> rfl
theorem bind_assoc {α β γ : Type} {r : Rs α} {f : α → AH → Rs β} {h : β → AH → Rs γ} : bindR (bindR r f) h = bindR r fun a A => bindR (f a A) h := by cases r <;> rfl
theorem ct_call {f : Nat} {es : E} : cT P k (.call f es) = fun σ H => bindR (cE P k (.call f es) σ H) fun d H2 => liftR (truD H2 d) H2 := by
  funext σ H
  show _ = bindR (bindR (cA P k es σ H) fun ds H1 => callF P k (.fn f) ds H1) _
  rw [bind_assoc]
  rfl
theorem ct_mth {c f : Nat} {o es : E} : cT P k (.mth c f o es) = fun σ H => bindR (cE P k (.mth c f o es) σ H) fun d H2 => liftR (truD H2 d) H2 := by
  funext σ H
  show _ = bindR (bindR (cE P k o σ H) fun x H1 => if clsD H1 x = some c then bindR (cA P k es σ H1) fun ds H2 => callF P k (.fn f) (x :: ds) H2 else .no) _
  rw [bind_assoc]
  show (bindR (cE P k o σ H) fun x H1 => if clsD H1 x = some c then bindR (cA P k es σ H1) fun ds H2 => bindR (callF P k (.fn f) (x :: ds) H2) fun d H2 => liftR (truD H2 d) H2 else .no) = _
  congr 1
  funext x H1
  split
  · rw [bind_assoc]
  · rfl
theorem ct_bi {b : Bi} {es : E} : cT P k (.bi b es) = fun σ H => bindR (cE P k (.bi b es) σ H) fun d H2 => liftR (truD H2 d) H2 := by
  funext σ H
  show _ = bindR (bindR (cA P k es σ H) fun ds H1 => liftH (evBi H1 b ds)) _
  rw [bind_assoc]
  rfl
theorem ct_idx {a i : E} : cT P k (.idx a i) = fun σ H => bindR (cE P k (.idx a i) σ H) fun d H2 => liftR (truD H2 d) H2 := by
  funext σ H
  show _ = bindR (bindR (cE P k a σ H) fun x H1 => bindR (cE P k i σ H1) fun y H2 => liftR (idxD H2 x y) H2) _
  rw [bind_assoc]
  show (bindR (cE P k a σ H) fun x H1 => bindR (cE P k i σ H1) fun y H2 => bindR (liftR (idxD H2 x y) H2) fun d H2 => liftR (truD H2 d) H2) = _
  congr 1
  funext x H1
  rw [bind_assoc]
end
end Ev
end

section
set_option Elab.async false
set_option linter.all false
set_option maxRecDepth 100000
/-! Own exceptions as values: the evaluator's rules. -/
namespace Ev
open PySem PySem.Spec PyProof.Rows L2
section
variable {T : Tb} {P : Pg} {nm : Nm} {k : Nat} {W : WX} {X : Cx}
def swp {α : Type} : List α → List α
  | [x, y] => [y, x]
  | l => l
/-- the parameters in their order, from those in the call's -/
def ordg (b : Bool) {α : Type} (l : List α) : List α := if b then swp l else l
theorem ord_len (b : Bool) {α : Type} (l : List α) : (ordg b l).length = l.length := by
  cases b with
  | false => rfl
  | true =>
    match l with
    | [] => rfl
    | [_] => rfl
    | [_, _] => rfl
    | _ :: _ :: _ :: _ => rfl
theorem perm_by {fs ks : List Nat} (h : permB fs ks = true) : ∃ b : Bool, ks.length = fs.length ∧ fs.length ≤ 2 ∧ (b = false → ks = fs) ∧ (b = true → ∃ a c, fs = [a, c] ∧ ks = [c, a]) ∧ ∀ ds : List D, ds.length = ks.length → byName fs (ks.zip ds) = some (fs.zip (ordg b ds)) := by
  match fs, ks, h with
  | [a], [c], h =>
    have h : a = c := of_decide_eq_true h
    subst h
    refine ⟨false, rfl, by simp, fun _ => rfl, fun h => (by cases h), fun ds hd => ?_⟩
    match ds, hd with
    | [d], _ => simp [byName, getA, ordg]
  | [a, b], [c, d], h =>
    have h : (decide (a ≠ b) && ((decide (a = c) && decide (b = d)) || (decide (a = d) && decide (b = c)))) = true := h
    simp only [Bool.and_eq_true, Bool.or_eq_true, decide_eq_true_eq] at h
    obtain ⟨hab, h⟩ := h
    rcases h with ⟨rfl, rfl⟩ | ⟨rfl, rfl⟩
    · refine ⟨false, rfl, by simp, fun _ => rfl, fun h => (by cases h), fun ds hd => ?_⟩
      match ds, hd with
      | [x, y], _ => simp [byName, getA, ordg, hab]
    · refine ⟨true, rfl, by simp, fun h => (by cases h), fun _ => ⟨a, b, rfl, rfl⟩, fun ds hd => ?_⟩
      match ds, hd with
      | [x, y], _ => simp [byName, getA, ordg, swp, Ne.symm hab]
theorem rds_ord {w : Wd} (b : Bool) {ds : List D} {vs : List V} (h : RDs T w ds vs) : RDs T w (ordg b ds) (ordg b vs) := by
  cases b with
  | false => exact h
  | true =>
    match ds, h with
    | [], h => rw [RDs] at h; subst h; exact RDs.nil
    | [x], h =>
      rw [RDs] at h
      obtain ⟨v, r, rfl, h1, h2⟩ := h
      rw [RDs] at h2
      subst h2
      exact RDs.cons h1 RDs.nil
    | [x, y], h =>
      rw [RDs] at h
      obtain ⟨v, r, rfl, h1, h2⟩ := h
      rw [RDs] at h2
      obtain ⟨u, r2, rfl, h3, h4⟩ := h2
      rw [RDs] at h4
      subst h4
      exact RDs.cons h3 (RDs.cons h1 RDs.nil)
    | x :: y :: z :: xs, h =>
      have hl := h.length
      match vs, hl, h with
      | _ :: _ :: _ :: _, _, h => exact h
theorem rfs_zipX : ∀ {fs : List Nat} {ds : List D} {vs : List V} {w : Wd} {f1 : List (Nat × D)} {w1 : List (Str × V)}, RDs T w ds vs → RFs T w f1 w1 → RFs T w ((fs.zip ds).reverse ++ f1) (((fs.map T.fld).zip vs).reverse ++ w1)
  | [], ds, vs, w, f1, w1, _, r => by simpa using r
  | f :: fs, [], vs, w, f1, w1, h, r => by
    have h : vs = [] := by rw [RDs] at h; exact h
    subst h
    simpa using r
  | f :: fs, d :: ds, vs, w, f1, w1, h, r => by
    rw [RDs] at h
    obtain ⟨v, us, rfl, h1, h2⟩ := h
    have := rfs_zipX (fs := fs) (f1 := (f, d) :: f1) (w1 := (T.fld f, v) :: w1) h2 ⟨v, w1, rfl, h1, r⟩
    simpa using this
/-- a new error is held -/
theorem new_exo {w : Wd} {A : AH} {c : Nat} {fs : List Nat} {ds : List D} {vs : List V} {σ : L2.St} {Q : VK} {K : PySem.W.Frag} (hA : Abs T w A) (hx : XoOk T c) (r : RDs T w ds vs) (hl : vs.length = fs.length) (h : Post T W (RD T) w σ (.ok (.ref A.length) (A ++ [.exo c (fs.zip ds).reverse])) Q) (a : Addr) (na : w.H a = none) :
    spX K (T.xad c) (fs.map T.fld) (V.ref a :: vs) (upd w.H a (exo a (T.xad c) none)) (fun v H2 => v = .non ∧ Q (.ref a) H2) (fun _ _ _ => False) := by
  refine ⟨a, vs, rfl, by simp [hl], upd_same, fun dx nd ne => ⟨rfl, ?_⟩⟩
  have nd1 : w.H dx = none := by rw [upd_ne ne] at nd; exact nd
  have e : upd (upd (upd w.H a (exo a (T.xad c) none)) dx (exd dx ((fs.map T.fld).zip vs).reverse)) a (exo a (T.xad c) (some dx)) = ((⟨w.f, w.n, upd w.H dx (exd dx ((fs.map T.fld).zip vs).reverse), w.hid⟩ : Wd).push a (exo a (T.xad c) (some dx))).H := by
    show _ = upd (upd w.H dx _) a _
    rw [upd_cc (Ne.symm ne), upd_uu]
  have e1 : Ext w ⟨w.f, w.n, upd w.H dx (exd dx ((fs.map T.fld).zip vs).reverse), w.hid⟩ := ext_laid nd1
  have na2 : (⟨w.f, w.n, upd w.H dx (exd dx ((fs.map T.fld).zip vs).reverse), w.hid⟩ : Wd).H a = none := by
    show upd w.H dx _ a = none
    rw [upd_ne (Ne.symm ne)]; exact na
  have e2 := ext_push (w := ⟨w.f, w.n, upd w.H dx (exd dx ((fs.map T.fld).zip vs).reverse), w.hid⟩) (o := exo a (T.xad c) (some dx)) na2
  have of := hA.off nd1
  rw [e]
  refine h _ (.ref a) (e1.trans e2) ((hA.laid nd1).push na2 ⟨dx, ((fs.map T.fld).zip vs).reverse, upd_same, ?_, ?_, ?_, hx⟩) ?_
  · show upd (upd w.H dx _) a _ dx = _
    rw [upd_ne ne, upd_same]
  · refine ⟨fun i hi z => ?_, of.2⟩
    have hi : i < w.n + 1 := hi
    have z : (if i = w.n then a else w.f i) = dx := z
    by_cases h1 : i = w.n
    · rw [if_pos h1] at z; exact ne z.symm
    · rw [if_neg h1] at z; exact of.1 i (by omega) z
  · have := rfs_zipX (fs := fs) (f1 := []) (w1 := []) (RDs.mono (e1.trans e2) ds vs r) rfl
    simpa using this
  · rw [RD]
    refine ⟨by show A.length < w.n + 1; rw [hA.len]; omega, ?_⟩
    show _ = V.ref (if A.length = w.n then a else w.f A.length)
    rw [if_pos hA.len]
theorem vals_ord (b : Bool) {vs : List V} {ws : List Value} (h : Vals vs ws) : Vals (ordg b vs) (ordg b ws) := by
  cases b with
  | false => exact h
  | true =>
    match vs, ws, h with
    | [], [], h => exact h
    | [_], [_], h => exact h
    | [_, _], [_, _], .cons h1 (.cons h2 .nil) => exact .cons h2 (.cons h1 .nil)
    | _ :: _ :: _ :: _, _ :: _ :: _ :: _, h => exact h
theorem s_mkx (g : Gd T P nm k W X) {c : Nat} {x : Str} {fs ks : List Nat} {es' : E} {e : Expr} {es : List Expr} {p q : Pos} (hc : nm.exc[c]? = some (x, fs)) (hk : ks = fs) (hp : permB fs fs = true) (hg : glB X.env.scope x = true) (he : plainE e = true) (hpl : (backTo q (starEach es X.env)).any (·.1) = false)
    (ha : PA X (e :: es) (tA T W (cA P k es'))) : PE X (.Call (.Name x p) (e :: es) [] q) (tE T W (cE P k (.mkx c fs ks es'))) := by
  subst hk
  obtain ⟨xc, _, _⟩ := g.xcl c x ks hc
  obtain ⟨fI, fd, s0, i1, i2, i3, i4, i5⟩ := xc.ini
  have hlt : c < nm.exc.length := (List.getElem?_eq_some_iff.mp hc).1
  obtain ⟨b, q1, q2, q3, q4, q5⟩ := perm_by hp
  refine ⟨fun pins s σ H Q I ⟨w, σa, A, e0, hA, hS, hP⟩ => ?_⟩
  subst e0
  have hP : Post T W (RD T) w σ (bindR (callF P k (.xc 1) [] A) fun _ _ => bindR (cA P k es' σa A) fun ds H1 => if ds.length = ks.length then liftH ((byName ks (ks.zip ds)).map fun r => (D.ref H1.length, H1 ++ [.exo c r.reverse])) else .no) Q := hP
  rcases xc_cases (P := P) k A with ⟨h2, _⟩ | ⟨h2, hk⟩
  · rw [h2] at hP; exact hP.elim
  · rw [h2] at hP
    have hP : Post T W (RD T) w σ (bindR (cA P k es' σa A) fun ds H1 => if ds.length = ks.length then liftH ((byName ks (ks.zip ds)).map fun r => (D.ref H1.length, H1 ++ [.exo c r.reverse])) else .no) Q := hP
    refine (pe_exV (k := 1) (p := p) (pos := q) (n := ks.length) xc.ox i1 i2 i3 (g.room.mono hk) (passes_call g.take fun _ _ _ _ z => z.elim) (by simp) (by omega) i4 (gl_of hg).1 xc.mg ha (gl_of hg).2 (plain_star he) hpl).run pins s σ w.H Q I ⟨w, σa, A, rfl, hA, hS, hP.bind fun w1 ds vs A1 e1 a1 r1 _ h1 => ?_⟩
    by_cases hn : ds.length = ks.length
    · rw [if_pos hn, q5 ds hn] at h1
      cases b with
      | false => exact ⟨by rw [← r1.length, hn], fun a na => new_exo a1 (g.xo c hlt) r1 (by rw [← r1.length, hn]) h1 a na⟩
      | true =>
        obtain ⟨a, c', h5, h6⟩ := q4 rfl
        rw [h5] at h6
        simp only [List.cons.injEq, and_true] at h6
        rw [h5] at hp
        have : (decide (a ≠ c') && _) = true := hp
        rw [h6.1] at this
        simp at this
    · rw [if_neg hn] at h1; exact h1.elim
theorem kw_names {q : Pos} : ∀ (kws : List Keyword) (ps : List Str), kws.map (·.arg) = ps.map some → (backToKw q (keywordEach kws X.env)).all (·.1.isSome) = true ∧ (backToKw q (keywordEach kws X.env)).filterMap (·.1) = ps ∧ (backToKw q (keywordEach kws X.env)).any (·.1.isNone) = false := by
  intro kws
  induction kws with
  | nil =>
    intro ps h
    have : ps = [] := by simpa using h.symm
    subst this
    exact ⟨rfl, rfl, rfl⟩
  | cons kw kws ih =>
    intro ps h
    cases ps with
    | nil => simp at h
    | cons y ps =>
      obtain ⟨nm', e, pp⟩ := kw
      simp only [List.map_cons, List.cons.injEq] at h
      obtain ⟨h1, h2⟩ := h
      subst h1
      obtain ⟨i1, i2, i3⟩ := ih ps h2
      refine ⟨?_, ?_, ?_⟩
      · show (true && (backToKw q (keywordEach kws X.env)).all (·.1.isSome)) = true
        rw [i1]; rfl
      · show y :: (backToKw q (keywordEach kws X.env)).filterMap (·.1) = y :: ps
        rw [i2]
      · show (false || (backToKw q (keywordEach kws X.env)).any (·.1.isNone)) = false
        rw [i3]; rfl
theorem s_mkxK (g : Gd T P nm k W X) {c : Nat} {x : Str} {fs ks : List Nat} {es' : E} {kws : List Keyword} {p q : Pos} (hc : nm.exc[c]? = some (x, fs)) (hp : permB fs ks = true) (hks : ks.map (fun i => nm.fld[i]?) = kws.map (·.arg)) (hall : (ks.all fun i => decide (i < nm.fld.length)) = true) (hg : glB X.env.scope x = true)
    (ha : PK X kws (tA T W (cA P k es'))) : PE X (.Call (.Name x p) [] kws q) (tE T W (cE P k (.mkx c fs ks es'))) := by
  obtain ⟨xc, _, _⟩ := g.xcl c x fs hc
  obtain ⟨fI, fd, s0, i1, i2, i3, i4, kw1, kw2⟩ := xc.ini
  have hlt : c < nm.exc.length := (List.getElem?_eq_some_iff.mp hc).1
  obtain ⟨b, q1, q2, q3, q4, q5⟩ := perm_by hp
  have hnames : kws.map (·.arg) = (ks.map T.fld).map some := by
    rw [← hks, List.map_map]
    refine List.map_congr_left fun i hi => ?_
    have hl := of_decide_eq_true (List.all_eq_true.mp hall i hi)
    have e := List.getElem?_eq_getElem hl
    rw [e, ← (g.fl i _ e).2]; rfl
  obtain ⟨n1, n2, n3⟩ := kw_names (X := X) (q := q) kws (ks.map T.fld) hnames
  refine ⟨fun pins s σ H Q I ⟨w, σa, A, e0, hA, hS, hP⟩ => ?_⟩
  subst e0
  have hP : Post T W (RD T) w σ (bindR (callF P k (.xc 1) [] A) fun _ _ => bindR (cA P k es' σa A) fun ds H1 => if ds.length = ks.length then liftH ((byName fs (ks.zip ds)).map fun r => (D.ref H1.length, H1 ++ [.exo c r.reverse])) else .no) Q := hP
  rcases xc_cases (P := P) k A with ⟨h2, _⟩ | ⟨h2, hk⟩
  · rw [h2] at hP; exact hP.elim
  · rw [h2] at hP
    have hP : Post T W (RD T) w σ (bindR (cA P k es' σa A) fun ds H1 => if ds.length = ks.length then liftH ((byName fs (ks.zip ds)).map fun r => (D.ref H1.length, H1 ++ [.exo c r.reverse])) else .no) Q := hP
    refine (pe_exK (k := 1) (p := p) (q := q) (n := ks.length) (ks := ks.map T.fld) (g := fun {α} l => ordg b l) xc.ox i1 i2 i3 (g.room.mono hk) (passes_call g.take fun _ _ _ _ z => z.elim) (gl_of hg).1 xc.mg ha (gl_of hg).2 n1 n2 n3 (fun _ r => vals_ord b r) (fun s' u ws hw _ => ?_)).run pins s σ w.H Q I ⟨w, σa, A, rfl, hA, hS, hP.bind fun w1 ds vs A1 e1 a1 r1 _ h1 => ?_⟩
    · cases b with
      | false =>
        rw [q3 rfl]
        exact kw1 s' u ws (by rw [hw, q1]; simp)
      | true =>
        obtain ⟨a, c', h5, h6⟩ := q4 rfl
        subst h5 h6
        match ws, hw with
        | [x1, y1], _ => exact kw2 (T.fld a) (T.fld c') rfl s' u x1 y1
    · by_cases hn : ds.length = ks.length
      · rw [if_pos hn, q5 ds hn] at h1
        exact ⟨by rw [← r1.length, hn], fun a na => new_exo a1 (g.xo c hlt) (rds_ord b r1) (by rw [ord_len, ← r1.length, hn, q1]) h1 a na⟩
      · rw [if_neg hn] at h1; exact h1.elim
theorem s_isx (g : Gd T P nm k W X) {i : Nat} {ts : List Nat} {a' : E} {y : Str} {e : Expr} {p r q : Pos} (hi : nm.isx[i]? = some (y, ts)) (hg : glB X.env.scope "isinstance" = true) (hy : glB X.env.scope y = true) (hy2 : y ≠ ("__name__" : Str)) (he : plainE e = true) (ha : PE X e (tE T W (cE P k a'))) :
    PE X (.Call (.Name "isinstance" p) [e, .Name y r] [] q) (tE T W (cE P k (.isx i ts a'))) := by
  obtain ⟨cv, u, hc, hr, hm, hk⟩ := g.isx i y ts hi
  have hn : PE X (.Name y r) (tC cv) := by
    rcases hm with hm | ⟨hm, hb⟩
    · exact pe_glob (gl_of hy).1 hm hr (gl_of hy).2
    · exact pe_bltn (gl_of hy).1 hm hb hr hy2 (gl_of hy).2
  refine pe_imp (pe_callB call_isX (gl_of hg).1 g.no PyProof.Rows.boot_isinstance (pa_cons ha (pa_cons hn pa_nil rfl) (plain_star he)) (by decide) (by decide) (plain_star he) rfl) fun σ H Q ⟨w, σa, A, e0, hA, hS, hP⟩ => ?_
  subst e0
  have hP : Post T W (RD T) w σ (bindR (cE P k a' σa A) fun x H1 => liftR ((xcD H1 x).map fun c => .bl (decide (c ∈ ts))) H1) Q := hP
  refine ⟨w, σa, A, rfl, hA, hS, hP.bind fun w1 x v A1 e1 a1 r1 _ h1 => ?_⟩
  obtain ⟨d, ed, h2⟩ := h1.lift
  obtain ⟨c, ec, rfl⟩ := Option.map_eq_some_iff.mp ed
  cases x with
  | ref j =>
    have ec : (match A1[j]? with
      | some (.exo c _) => some c
      | _ => none) = some c := ec
    cases hj : A1[j]? with
    | none => rw [hj] at ec; cases ec
    | some o =>
      rw [hj] at ec
      cases o with
      | exo c1 fs =>
        cases ec
        obtain ⟨dx, ws, t1, t2, t3, t4, t5⟩ := a1.ob _ _ hj
        rw [g.K]
        have hlt : c < nm.exc.length := by rw [← g.nx]; exact t5.1
        have hkk := hk c hlt
        rw [g.K] at hkk
        obtain ⟨_, rfl⟩ := rd_ref r1
        exact ⟨w1.f j, T.xad c, dx, ws, cv, u, _, rfl, t1, t2, t5.2.1, hc, hkk, h2.now a1 rd_bl'⟩
      | _ => cases ec
  | _ => cases ec
theorem ct_isx {i : Nat} {ts : List Nat} {a : E} : cT P k (.isx i ts a) = fun σ H => bindR (cE P k (.isx i ts a) σ H) fun d H2 => liftR (truD H2 d) H2 := by
  funext σ H
  show bindR (cE P k a σ H) _ = bindR (bindR (cE P k a σ H) fun x H1 => liftR ((xcD H1 x).map fun c => D.bl (decide (c ∈ ts))) H1) _
  cases cE P k a σ H with
  | no => rfl
  | ex c fs A => rfl
  | ok x A =>
    show liftR ((xcD A x).map _) A = bindR (liftR ((xcD A x).map _) A) _
    cases xcD A x <;> rfl
end
end Ev
end

section
set_option Elab.async false
set_option linter.all false
set_option maxRecDepth 100000
/-! What is walked; comprehensions. -/
namespace Ev
open PySem PySem.Spec PyProof.Rows L2
section
variable {T : Tb} {P : Pg} {nm : Nm} {k : Nat} {W : WX} {X : Cx} {sc : Scope} {w : Wd} {A : AH} {σ : L2.St}

/-- a walk over xs, as long as the list at g stands -/
def RIt (T : Tb) (w : Wd) (p : List D × Option Nat) (J : It) : Prop := ∀ (w' : Wd) (A' : AH), Inc w w' → Abs T w' A' → Still p.1 p.2 A' →
  (∀ i, i < p.1.length → J.go i w'.H) ∧ (∀ i, p.1.length ≤ i → J.stop i w'.H) ∧ ∀ i x H', J.yld i w'.H x H' → H' = w'.H ∧ ∀ d, p.1[i]? = some d → RD T w' d x
/-- the reading of a source -/
def tI (T : Tb) (W : WX) (f : Sl → AH → Rs (List D × Option Nat)) : TI := tR T W (RIt T) f
abbrev cI (P : Pg) (k : Nat) (s : SK) (src : E) : Sl → AH → Rs (List D × Option Nat) := fun σ H => bindR (cA P k src σ H) fun ds H1 => liftR (items H1 s ds) H1
theorem pi_imp {tg it : Expr} {t t' : TI} (h : PI X tg it t) (k : ∀ σ H R, t' σ H R → t σ H R) : PI X tg it t' := ⟨fun pins s σ H Q I q => h.run pins s σ H Q I (k σ H Q q)⟩
theorem pi_or {tg it : Expr} {t t' : TI} (h : PI X tg it t) (h' : PI X tg it t') : PI X tg it (fun σ H R => t σ H R ∨ t' σ H R) := ⟨fun pins s σ H Q I q => q.elim (h.run pins s σ H Q I) (h'.run pins s σ H Q I)⟩
theorem rit_list {a : Addr} {vs : List V} {xs : List D} (hl : LstAt w a vs) (r : RDs T w xs vs) : RIt T w (xs, none) (Itl T.K a) := by
  intro w' A' e hA _
  have q := hl.inc e
  have r' := RDs.inc e xs vs r
  have hn := r'.length
  have sq : SqL T.K w'.H a vs := q.sq
  refine ⟨fun i hi => ?_, fun i hi => ⟨vs, sq, by show vs.length ≤ i; rw [← hn]; exact hi⟩, fun i x H' y => ⟨y.1, fun d hd => ?_⟩⟩
  · have hi : i < xs.length := hi
    exact ⟨vs, vs[i]'(by omega), sq, by simp⟩
  · obtain ⟨v, hv, rv⟩ := r'.get hd
    have := y.2 vs sq
    rw [hv] at this
    cases this
    exact rv
theorem rit_tup {a : Addr} {vs : List V} {xs : List D} (hl : TupAt T w a vs) (r : RDs T w xs vs) : RIt T w (xs, none) (Itt T.K a) := by
  intro w' A' e hA _
  have q := hl.inc e
  have r' := RDs.inc e xs vs r
  have hn := r'.length
  have sq : SqT T.K w'.H a vs := q.sq
  refine ⟨fun i hi => ?_, fun i hi => ⟨vs, sq, by show vs.length ≤ i; rw [← hn]; exact hi⟩, fun i x H' y => ⟨y.1, fun d hd => ?_⟩⟩
  · have hi : i < xs.length := hi
    exact ⟨vs, vs[i]'(by omega), sq, by simp⟩
  · obtain ⟨v, hv, rv⟩ := r'.get hd
    have := y.2 vs sq
    rw [hv] at this
    cases this
    exact rv
theorem rit_ref {j : Nat} {xs : List D} (hj : j < w.n) : RIt T w (xs, some j) (Itl T.K (w.f j)) := by
  intro w' A' e hA st
  obtain ⟨vs, h1, r'⟩ := hA.ob j _ (st j rfl)
  rw [e.ag j hj] at h1
  have hn := r'.length
  have sq : SqL T.K w'.H (w.f j) vs := .inl (.inl h1)
  refine ⟨fun i hi => ?_, fun i hi => ⟨vs, sq, by show vs.length ≤ i; rw [← hn]; exact hi⟩, fun i x H' y => ⟨y.1, fun d hd => ?_⟩⟩
  · have hi : i < xs.length := hi
    exact ⟨vs, vs[i]'(by omega), sq, by simp⟩
  · obtain ⟨v, hv, rv⟩ := r'.get hd
    have := y.2 vs sq
    rw [hv] at this
    cases this
    exact rv
theorem rit_str {s : Tx} : RIt T w (s.map fun c => D.str [c], none) (Its (sT s)) := by
  intro w' A' e hA _
  have hz : (sT s).cps.size = s.length := by simp [sT]
  refine ⟨fun i hi => ?_, fun i hi => ?_, fun i x H' y => ⟨y.1, fun d hd => ?_⟩⟩
  · show i < (sT s).cps.size
    rw [hz]; simpa using hi
  · show (sT s).cps.size ≤ i
    rw [hz]; simpa using hi
  · obtain ⟨c, h1, rfl⟩ := y.2
    have h1 : s.toArray[i]? = some c := h1
    simp at hd h1
    obtain ⟨c', h2, rfl⟩ := hd
    rw [h1] at h2; cases h2
    exact rd_str'
theorem rit_rng {lo : Int} {n : Nat} : RIt T w ((List.range n).map fun q => D.int (lo + (q : Nat)), none) (Itr lo n) := by
  intro w' A' e hA _
  refine ⟨fun i hi => ?_, fun i hi => ?_, fun i x H' y => ⟨y.1, fun d hd => ?_⟩⟩
  · show i < n
    simpa using hi
  · show n ≤ i
    simpa using hi
  · have y2 := y.2
    subst y2
    simp at hd
    obtain ⟨q, h2, rfl⟩ := hd
    have h3 := List.getElem?_eq_some_iff.mp h2
    obtain ⟨h4, h5⟩ := h3
    simp at h5
    subst h5
    exact rd_int'
theorem s_iterV (g : Gd T P nm k W X) {tg e : Expr} {e' : E} (h : PE X e (tE T W (cE P k e'))) : PI X tg e (tI T W (cI P k .val (.cons e' .nil))) := by
  refine pi_imp (pi_or (pi_list h) (pi_or (pi_tup h) (pi_str h))) fun σ H R ⟨w, σa, A, e, hA, hS, hP⟩ => ?_
  subst e
  have hP : Post T W (RIt T) w σ (bindR (bindR (cE P k e' σa A) fun x H1 => bindR (Rs.ok [] H1) fun xs H2 => Rs.ok (x :: xs) H2) fun ds H1 => liftR (items H1 .val ds) H1) R := hP
  rw [bind1] at hP
  rw [g.K]
  by_cases hd : ∃ x A1, cE P k e' σa A = .ok x A1 ∧ ((∃ xs, x = .tup xs) ∨ ∃ s, x = .str s)
  · obtain ⟨x, A1, q1, q2⟩ := hd
    rcases q2 with ⟨xs, rfl⟩ | ⟨s, rfl⟩
    · refine .inr (.inl ⟨w, σa, A, rfl, hA, hS, hP.bind fun w1 x v A2 e1 a1 r1 e11 h1 => ?_⟩)
      rw [q1] at e11; cases e11
      obtain ⟨z, ez, h2⟩ := h1.lift
      cases ez
      obtain ⟨a, vs, rfl, t1, t2⟩ := rd_tup r1
      exact ⟨a, rfl, ⟨vs, t1.sq⟩, h2.now a1 (rit_tup t1 t2)⟩
    · refine .inr (.inr ⟨w, σa, A, rfl, hA, hS, hP.bind fun w1 x v A2 e1 a1 r1 e11 h1 => ?_⟩)
      rw [q1] at e11; cases e11
      obtain ⟨z, ez, h2⟩ := h1.lift
      cases ez
      exact ⟨sT s, rd_str r1, h2.now a1 rit_str⟩
  · refine .inl ⟨w, σa, A, rfl, hA, hS, hP.bind fun w1 x v A2 e1 a1 r1 e11 h1 => ?_⟩
    obtain ⟨z, ez, h2⟩ := h1.lift
    cases x with
    | lst xs =>
      cases ez
      rw [RD] at r1
      obtain ⟨a, vs, rfl, t1, t2⟩ := r1
      exact ⟨a, rfl, ⟨vs, t1.sq⟩, h2.now a1 (rit_list t1 t2)⟩
    | ref i =>
      have ez : (match A2[i]? with
        | some (.lst xs) => some (xs, some i)
        | _ => none) = some z := ez
      split at ez
      · rename_i xs hi
        cases ez
        obtain ⟨vs, h3, _⟩ := a1.ob _ _ hi
        obtain ⟨hlt, rfl⟩ := rd_ref r1
        exact ⟨w1.f i, rfl, ⟨vs, .inl (.inl h3)⟩, h2.now a1 (rit_ref hlt)⟩
      · cases ez
    | tup xs => exact absurd ⟨_, _, e11, .inl ⟨xs, rfl⟩⟩ hd
    | str xs => exact absurd ⟨_, _, e11, .inr ⟨xs, rfl⟩⟩ hd
    | _ => cases (show (none : Option (List D × Option Nat)) = some z from ez)
theorem rds_1 {d : D} {vs : List V} (r : RDs T w [d] vs) : ∃ v, vs = [v] ∧ RD T w d v := by
  rw [RDs] at r
  obtain ⟨v, rr, rfl, h1, h2⟩ := r
  rw [RDs] at h2
  subst h2
  exact ⟨v, rfl, h1⟩
theorem rds_2 {d e : D} {vs : List V} (r : RDs T w [d, e] vs) : ∃ v u, vs = [v, u] ∧ RD T w d v ∧ RD T w e u := by
  rw [RDs] at r
  obtain ⟨v, rr, rfl, h1, h2⟩ := r
  obtain ⟨u, rfl, h3⟩ := rds_1 h2
  exact ⟨v, u, rfl, h1, h3⟩
theorem s_iterR1 (g : Gd T P nm k W X) {tg a : Expr} {es' : E} {p q : Pos} (hg : glB X.env.scope "range" = true) (hc : chks nm X.N X.env.scope es' [a] = true) (h : PA X [a] (tA T W (cA P k es'))) : PI X tg (.Call (.Name "range" p) [a] [] q) (tI T W (cI P k .rng es')) := by
  refine pi_imp (pi_range1 (gl_of hg).1 g.no h (plain_star (pl1 hc))) fun σ H R ⟨w, σa, A, e, hA, hS, hP⟩ => ?_
  subst e
  have hP : Post T W (RIt T) w σ (bindR (cA P k es' σa A) fun ds H1 => liftR (items H1 .rng ds) H1) R := hP
  refine ⟨w, σa, A, rfl, hA, hS, hP.bind fun w1 ds vs A2 e1 a1 r1 e11 h1 => ?_⟩
  obtain ⟨d, rfl⟩ := one_arg hc e11
  obtain ⟨v, rfl, r2⟩ := rds_1 r1
  obtain ⟨z, ez, h2⟩ := h1.lift
  cases d with
  | int j =>
    have ez : (if -(2 ^ 62) ≤ j ∧ j < 2 ^ 62 then some ((List.range j.toNat).map fun i => D.int (i : Nat), none) else none) = some z := ez
    split at ez
    · rename_i hj
      cases ez
      refine ⟨j, by rw [rd_int r2], hj.1, hj.2, h2.now a1 ?_⟩
      have := rit_rng (T := T) (w := w1) (lo := 0) (n := j.toNat)
      simpa using this
    · cases ez
  | _ => cases (show (none : Option (List D × Option Nat)) = some z from ez)
theorem s_iterR2 (g : Gd T P nm k W X) {tg a b : Expr} {es' : E} {p q : Pos} (hg : glB X.env.scope "range" = true) (hc : chks nm X.N X.env.scope es' [a, b] = true) (h : PA X [a, b] (tA T W (cA P k es'))) : PI X tg (.Call (.Name "range" p) [a, b] [] q) (tI T W (cI P k .rng es')) := by
  have hpl := chks_plain es' [a, b] hc
  have h2 : starEach [b] X.env = [(false, eval b X.env)] := plain_star (hpl b (by simp))
  have h1 : starEach [a, b] X.env = [(false, eval a X.env), (false, eval b X.env)] := by rw [plain_star (hpl a (by simp)), h2]
  refine pi_imp (pi_range2 (gl_of hg).1 g.no h h1 h2) fun σ H R ⟨w, σa, A, e, hA, hS, hP⟩ => ?_
  subst e
  have hP : Post T W (RIt T) w σ (bindR (cA P k es' σa A) fun ds H1 => liftR (items H1 .rng ds) H1) R := hP
  refine ⟨w, σa, A, rfl, hA, hS, hP.bind fun w1 ds vs A2 e1 a1 r1 e11 h1 => ?_⟩
  have hl := chks_len es' [a, b] σa A A2 ds hc e11
  match ds, hl with
  | [d, e], _ =>
    obtain ⟨v, u, rfl, r2, r3⟩ := rds_2 r1
    obtain ⟨z, ez, h2⟩ := h1.lift
    cases d with
    | int i =>
      cases e with
      | int j =>
        have ez : (if -(2 ^ 62) ≤ i ∧ i < 2 ^ 62 ∧ -(2 ^ 62) ≤ j ∧ j < 2 ^ 62 then some ((List.range (j - i).toNat).map fun q => D.int (i + (q : Nat)), none) else none) = some z := ez
        split at ez
        · rename_i hj
          cases ez
          exact ⟨i, j, by rw [rd_int r2, rd_int r3], hj, h2.now a1 rit_rng⟩
        · cases ez
      | _ => cases (show (none : Option (List D × Option Nat)) = some z from ez)
    | _ => cases (show (none : Option (List D × Option Nat)) = some z from ez)
end
end Ev
end

section
set_option Elab.async false
set_option linter.all false
set_option maxRecDepth 100000
/-! Targets. -/
namespace Ev
open PySem PySem.Spec PyProof.Rows L2
/-! ### a list unpacked (the tuple's way) -/
section
variable {prog : Program} {w : World} {A : Around} {E : Value → Shared → Prop} {s : Shared}
theorem draw_list {it t : Addr} {items : Array Value} (hne : t ≠ it) : ∀ (n i : Nat) (s : Shared) (Q : List Value → Shared → Prop), s.heap.IsListIter it t i → s.heap.IsList t items → i + n ≤ items.size →
    (∀ h', h'.IsListIter it t (i + n) → Heap.SameBut it s.heap h' → Q ((items.toList.drop i).take n) { s with heap := h' }) → wpAny (model prog w) A (draw (.ref it) n) Q E s
  | 0, i, s, Q, hit, _, _, hQ => by
    show wpAny _ _ (pure []) Q E s
    exact wpAny_pure (by simpa using hQ s.heap hit (Heap.SameBut.refl ..))
  | n + 1, i, s, Q, hit, ht, hle, hQ => by
    have hlt : i < items.size := by omega
    show wpAny _ _ (pyNext (.ref it) >>= _) Q E s
    refine wpAny_bind (wpAny_pyNext_list_item hit ht (x := items[i]) (by simp [hlt]) fun h₁ hit₁ hs₁ => ?_)
    have ht₁ : h₁.IsList t items := by
      obtain ⟨o, e, r⟩ := ht
      exact ⟨o, (hs₁.2 t hne).trans e, r⟩
    refine wpAny_bind (wpAny_holding (draw_list hne n (i + 1) _ _ hit₁ ht₁ (by omega) fun h₂ hit₂ hs₂ => wpAny_pure ?_))
    have hd : items.toList.drop i = items[i] :: items.toList.drop (i + 1) := by simp [List.drop_eq_getElem_cons, hlt]
    have := hQ h₂ (by rw [show i + (n + 1) = i + 1 + n by omega]; exact hit₂) (hs₁.trans hs₂)
    rw [hd, List.take_succ_cons] at this
    exact this
theorem unpackItems_list {t : Addr} {items : Array Value} {Q : List Value → Shared → Prop} (hh : A.handled = none) (ht : s.heap.IsList t items)
    (hQ : ∀ h', Heap.ExtBut s.heap.objs.size s.heap h' → Q items.toList { s with heap := h' }) : wpAny (model prog w) A (unpackItems (.ref t) items.size none) Q E s := by
  have hlt : t ≠ s.heap.objs.size := by obtain ⟨o, ho, _⟩ := ht; exact Nat.ne_of_lt (Heap.lt_size ho)
  unfold unpackItems
  refine wpAny_bind ?_
  · unfold notIterableAtAll
    refine wpAny_bind (wpAny_specialOf ht.typeIs slot_list_iter.lookup ?_)
    refine wpAny_pure ?_
    simp only [Bool.false_eq_true, if_false]
    refine wpAny_bind (wpAny_holding (wpAny_pyIter_list ht ?_))
    refine wpAny_bind (wpAny_holding (draw_list hlt items.size 0 _ _ ⟨_, Heap.get?_push_size _ rfl, rfl, rfl⟩ (ht.push _) (by omega) fun h₁ hit₁ hs₁ => ?_))
    have hall : List.take items.size (List.drop 0 items.toList) = items.toList := by
      rw [List.drop_zero]; exact List.take_of_length_le (by simp)
    rw [hall]
    rw [if_neg (by simp)]
    have ht₁ : h₁.IsList t items := by
      obtain ⟨o, e, r⟩ := ht.push { cls := .type "list_iterator", data := .fields #[.ref t, .int 0 0] }
      exact ⟨o, (hs₁.2 t hlt).trans e, r⟩
    refine wpAny_bind (wpAny_holding (wpAny_pyNext_list_end hh hit₁ ht₁ (by simp) fun h₂ he₂ => ?_))
    simp only [Option.isSome_none, Bool.false_eq_true, if_false]
    refine wpAny_pure (hQ h₂ fun b o hb e => he₂ b o hb (hs₁.extBut b o hb (Heap.get?_push_of_some _ e)))
theorem assign_Tuple_list {env : Env} {elts : List Expr} {x1} {pos : Pos} {t : Addr} {items : Array Value} {Q : Unit → Shared → Prop} (hh : A.handled = none) (ht : s.heap.IsList t items)
    (hn : (assignEach elts env).length = items.size) (hstar : (assignEach elts env).findIdx? (·.1) = none)
    (h : ∀ h', Heap.ExtBut s.heap.objs.size s.heap h' → wpAny (model prog w) A (assignInOrder ((assignEach elts env).map (·.2)) items.toList) Q E { s with heap := h' }) :
    wpAny (model prog w) A (assign (.Tuple elts x1 pos) env (.ref t)) Q E s := by
  rw [assign_Tuple]
  refine wpAny_bind (wpAny_standAt ?_)
  unfold unpack
  rw [hn, hstar]
  exact wpAny_bind (wpAny_holding (unpackItems_list hh ht h))
end
section
variable {X : Cx}
def gSeq (K : PySem.W.Frag) (n : Nat) (t : TGs) : TG := fun v σ H Q => ∃ a xs, v = .ref a ∧ (SqT K H a xs ∨ SqL K H a xs) ∧ xs.length = n ∧ t xs σ H Q
theorem pg_seq {es : List Expr} {k : Nat} {t : TGs} {n : Nat} {pos : Pos} (hc : X.calm = true) (h : PGs X es t)
    (hn : (assignEach es X.env).length = n) (hst : (assignEach es X.env).findIdx? (·.1) = none) : PG X (.Tuple es k pos) (gSeq X.K n t) := by
  refine ⟨fun pins s σ H v u Q I r hw => ?_⟩
  obtain ⟨a, xs, e1, hq, hl, hw⟩ := hw
  subst e1
  cases r
  rcases hq with hq | hq
  · exact (pg_tup hc h hn hst).run pins s σ H (.ref a) (.ref a) Q I rfl ⟨a, xs, rfl, hq, hl, hw⟩
  · obtain ⟨its, rv, ht, hz⟩ := I.list hq
    refine assign_Tuple_list (I.ok.hd hc) ht.isList (by simp [hn, ← hl, rv.length]) hst fun h' hx => ?_
    have I1 : Inv X pins σ H { s with heap := h' } := I.kept (t' := s.toks) fun b o e => hx b o (Nat.ne_of_lt (Heap.lt_size e)) e
    exact h.run pins _ σ H xs _ Q I1 (by simpa using rv) hw

variable {T : Tb} {w : Wd}
theorem wipe_set {σ : L2.St} {i : Nat} {x : Option V} : ∀ {vs : List Nat}, i ∈ vs → wipe (σ.set i x) vs = wipe σ vs
  | v :: vs, h => by
    show (wipe (σ.set i x) vs).set v none = (wipe σ vs).set v none
    by_cases hi : i ∈ vs
    · rw [wipe_set hi]
    · have e : v = i := by
        rcases List.mem_cons.mp h with e | e
        · exact e.symm
        · exact absurd e hi
      subst e
      apply List.ext_getElem?
      intro j
      by_cases hj : v = j
      · subst hj
        by_cases hl : v < σ.length
        · rw [List.getElem?_set_self (by rw [wipe_length, List.length_set]; exact hl), List.getElem?_set_self (by rw [wipe_length]; exact hl)]
        · rw [List.getElem?_eq_none (by rw [List.length_set, wipe_length, List.length_set]; omega), List.getElem?_eq_none (by rw [List.length_set, wipe_length]; omega)]
      · rw [List.getElem?_set_ne hj, List.getElem?_set_ne hj]
        by_cases hv : j ∈ vs
        · have w0 : ∀ {σ : L2.St} {vs : List Nat}, j ∈ vs → (wipe σ vs)[j]? = if j < σ.length then some none else none := by
            intro σ vs
            induction vs with
            | nil => intro h; cases h
            | cons u us ih =>
              intro h
              unfold wipe
              by_cases hu : u = j
              · subst hu
                by_cases hl : u < σ.length
                · rw [List.getElem?_set_self (by rw [wipe_length]; exact hl), if_pos hl]
                · rw [List.getElem?_eq_none (by rw [List.length_set, wipe_length]; omega), if_neg hl]
              · rw [List.getElem?_set_ne hu]
                rcases List.mem_cons.mp h with e | e
                · exact absurd e.symm hu
                · exact ih e
          rw [w0 hv, w0 hv, List.length_set]
        · rw [wipe_out hv, wipe_out hv, List.getElem?_set_ne hj]
theorem wipe_wipe {σ : L2.St} {vs : List Nat} : ∀ us : List Nat, (∀ i ∈ us, i ∈ vs) → wipe (wipe σ us) vs = wipe σ vs
  | [], _ => rfl
  | u :: us, h => by
    show wipe ((wipe σ us).set u none) vs = _
    rw [wipe_set (h u (by simp)), wipe_wipe us fun i hi => h i (by simp [hi])]
def gD (T : Tb) (t : TN) : TG := fun v σ H Q => ∃ (w : Wd) (σa σb : Sl) (d : D), w.H = H ∧ RS T w σa σ ∧ RD T w d v ∧ setT t d σa = some σb ∧ ∀ σ', RS T w σb σ' → (∀ vs, t.inn vs = true → wipe σ' vs = wipe σ vs) → Q σ' H
def gDs (T : Tb) (t : TN) : TGs := fun vs σ H Q => ∃ (w : Wd) (σa σb : Sl) (ds : List D), w.H = H ∧ RS T w σa σ ∧ RDs T w ds vs ∧ setTs t ds σa = some σb ∧ ∀ σ', RS T w σb σ' → (∀ vs, t.inn vs = true → wipe σ' vs = wipe σ vs) → Q σ' H
theorem pg_imp {tg : Expr} {t t' : TG} (h : PG X tg t) (k : ∀ v σ H Q, t' v σ H Q → t v σ H Q) : PG X tg t' := ⟨fun pins s σ H v u Q I r q => h.run pins s σ H v u Q I r (k v σ H Q q)⟩
theorem pgs_imp {tg : List Expr} {t t' : TGs} (h : PGs X tg t) (k : ∀ v σ H Q, t' v σ H Q → t v σ H Q) : PGs X tg t' := ⟨fun pins s σ H v u Q I r q => h.run pins s σ H v u Q I r (k v σ H Q q)⟩
theorem loc_of {fb : Str → Bool} {x : Str} (hf : ∀ x, fb x = true → X.fn x = true) (h : (decide (X.env.scope.names.lookup x = some .local) || (decide (X.env.scope.names.lookup x = some .cell) && fb x)) = true) :
    Loc X.env.scope x ∧ (X.fn x = true ∨ X.env.scope.names.lookup x = some .local) := by
  rw [Bool.or_eq_true] at h
  rcases h with h | h
  · exact ⟨.inl (of_decide_eq_true h), .inr (of_decide_eq_true h)⟩
  · rw [Bool.and_eq_true] at h
    exact ⟨.inr (of_decide_eq_true h.1), .inl (hf x h.2)⟩
theorem seq_len : ∀ {t : TN} {ds : List D} {σa σb : Sl}, setTs t ds σa = some σb → ∀ {fb : Str → Bool} {N : List Str} {sc : Scope} {es : List Expr}, chkTNs fb N sc t es = true → ds.length = es.length
  | .nil, [], _, _, _, _, _, _, [], _ => rfl
  | .nil, _ :: _, _, _, h, _, _, _, _, _ => by cases (show (none : Option Sl) = some _ from h)
  | .nil, [], _, _, _, _, _, _, _ :: _, h => by cases (show false = true from h)
  | .cons t u, [], _, _, h, _, _, _, _, _ => by cases (show (none : Option Sl) = some _ from h)
  | .cons t u, _ :: _, _, _, _, _, _, _, [], h => by cases (show false = true from h)
  | .cons t u, d :: ds, σa, σb, h, fb, N, sc, e :: es, hc => by
    have h : (match setT t d σa with
      | some σ' => setTs u ds σ'
      | none => none) = some σb := h
    have hc : (chkTN fb N sc t e && chkTNs fb N sc u es) = true := hc
    rw [Bool.and_eq_true] at hc
    split at h
    · simp [seq_len h hc.2]
    · cases h
  | .nm _, ds, _, _, h, _, _, _, es, hc => by cases es <;> cases (show false = true from hc)
  | .tp _, ds, _, _, h, _, _, _, es, hc => by cases es <;> cases (show false = true from hc)
theorem tn_each {fb : Str → Bool} {N : List Str} {sc : Scope} {env : Env} : ∀ {t : TN} {es : List Expr}, chkTNs fb N sc t es = true → (assignEach es env).length = es.length ∧ (assignEach es env).findIdx? (·.1) = none ∧ ∀ e r, es = e :: r → assignEach (e :: r) env = (false, assign e env) :: assignEach r env
  | .nil, [], _ => ⟨rfl, rfl, fun _ _ h => by cases h⟩
  | .nil, _ :: _, h => by cases (show false = true from h)
  | .cons t u, [], h => by cases (show false = true from h)
  | .cons t u, e :: es, h => by
    have h : (chkTN fb N sc t e && chkTNs fb N sc u es) = true := h
    rw [Bool.and_eq_true] at h
    obtain ⟨h1, h2, _⟩ := tn_each (env := env) h.2
    have he : assignEach (e :: es) env = (false, assign e env) :: assignEach es env := by
      cases t with
      | nm i =>
        cases e <;> first | rfl | cases (show false = true from h.1)
      | tp t =>
        cases e <;> first | rfl | cases (show false = true from h.1)
      | _ => cases e <;> cases (show false = true from h.1)
    refine ⟨by rw [he, List.length_cons, h1]; rfl, ?_, fun _ _ z => by cases z; exact he⟩
    rw [he, List.findIdx?_cons]
    simp [h2]
  | .nm _, es, hc => by cases es <;> cases (show false = true from hc)
  | .tp _, es, hc => by cases es <;> cases (show false = true from hc)
theorem pg_of {fb : Str → Bool} (hK : X.K = T.K) (hc : X.calm = true) (hN : X.N.Nodup) (hf : ∀ x, fb x = true → X.fn x = true) : ∀ t : TN,
    (∀ e, chkTN fb X.N X.env.scope t e = true → PG X e (gD T t)) ∧ ∀ es, chkTNs fb X.N X.env.scope t es = true → PGs X es (gDs T t) := by
  intro t
  induction t with
  | nm i =>
    refine ⟨fun e h => ?_, fun es h => by cases es <;> cases (show false = true from h)⟩
    cases e with
    | Name x p =>
      have h : (decide (X.N[i]? = some x) && (decide (X.env.scope.names.lookup x = some .local) || (decide (X.env.scope.names.lookup x = some .cell) && fb x))) = true := h
      rw [Bool.and_eq_true] at h
      obtain ⟨h1, h2⟩ := loc_of hf h.2
      refine pg_imp (pg_name hN (of_decide_eq_true h.1) h1 h2) fun v σ H Q ⟨w, σa, σb, d, e, hS, r, hs, q⟩ => ?_
      have hs : some (σa.set i (some d)) = some σb := hs
      cases hs
      refine q _ (hS.set r) fun vs hv => wipe_set (of_decide_eq_true hv)
    | _ => cases (show false = true from h)
  | nil =>
    refine ⟨fun e h => (by cases e <;> cases (show false = true from h)), fun es h => ?_⟩
    cases es with
    | cons _ _ => cases (show false = true from h)
    | nil =>
      refine pgs_imp pgs_nil fun vs σ H Q ⟨w, σa, σb, ds, e, hS, r, hs, q⟩ => ?_
      cases ds with
      | nil =>
        have hs : some σa = some σb := hs
        cases hs
        rw [RDs] at r
        exact ⟨r, q σ hS fun _ _ => rfl⟩
      | cons _ _ => cases (show (none : Option Sl) = some σb from hs)
  | cons t u iht ihu =>
    refine ⟨fun e h => (by cases e <;> cases (show false = true from h)), fun es h => ?_⟩
    cases es with
    | nil => cases (show false = true from h)
    | cons e es =>
      have h0 := h
      have h : (chkTN fb X.N X.env.scope t e && chkTNs fb X.N X.env.scope u es) = true := h
      rw [Bool.and_eq_true] at h
      have he := (tn_each (env := X.env) h0).2.2 e es rfl
      refine pgs_imp (pgs_cons (iht.1 e h.1) (ihu.2 es h.2) (by rw [he]; rfl)) fun vs σ H Q ⟨w, σa, σb, ds, e, hS, r, hs, q⟩ => ?_
      subst e
      cases ds with
      | nil => cases (show (none : Option Sl) = some σb from hs)
      | cons d ds =>
        rw [RDs] at r
        obtain ⟨v, rr, rfl, r1, r2⟩ := r
        have hs : (match setT t d σa with
          | some σ' => setTs u ds σ'
          | none => none) = some σb := hs
        split at hs
        · rename_i σc hc
          refine ⟨v, rr, rfl, w, σa, σc, d, rfl, hS, r1, hc, fun σ1 hS1 hw1 => ⟨w, σc, σb, ds, rfl, hS1, r2, hs, fun σ2 hS2 hw2 => q σ2 hS2 fun vs hv => ?_⟩⟩
          have hv : (t.inn vs && u.inn vs) = true := hv
          rw [Bool.and_eq_true] at hv
          rw [hw2 vs hv.2, hw1 vs hv.1]
        · cases hs
  | tp t ih =>
    refine ⟨fun e h => ?_, fun es h => by cases es <;> cases (show false = true from h)⟩
    cases e with
    | Tuple es j p =>
      have h : chkTNs fb X.N X.env.scope t es = true := h
      obtain ⟨h1, h2, _⟩ := tn_each (env := X.env) h
      refine pg_imp (pg_seq hc (ih.2 es h) h1 h2) fun v σ H Q ⟨w, σa, σb, d, e, hS, r, hs, q⟩ => ?_
      subst e
      rw [hK]
      cases d with
      | tup xs =>
        have hs : setTs t xs σa = some σb := hs
        obtain ⟨a, vs, rfl, t1, t2⟩ := rd_tup r
        exact ⟨a, vs, rfl, .inl t1.sq, by rw [← t2.length]; exact seq_len hs h, w, σa, σb, xs, rfl, hS, t2, hs, q⟩
      | lst xs =>
        have hs : setTs t xs σa = some σb := hs
        rw [RD] at r
        obtain ⟨a, vs, rfl, t1, t2⟩ := r
        exact ⟨a, vs, rfl, .inr t1.sq, by rw [← t2.length]; exact seq_len hs h, w, σa, σb, xs, rfl, hS, t2, hs, q⟩
      | _ => cases (show (none : Option Sl) = some σb from hs)
    | _ => cases (show false = true from h)
/-- a list behind its reference is unpacked too -/
def gDV (T : Tb) (t : TN) : TG := fun v σ H Q => ∃ (w : Wd) (σa σb : Sl) (d : D), w.H = H ∧ RS T w σa σ ∧ (RD T w d v ∨ ∃ a xs vs, d = .lst xs ∧ v = .ref a ∧ w.H a = some (.lst vs) ∧ RDs T w xs vs) ∧ setT (.tp t) d σa = some σb ∧ ∀ σ', RS T w σb σ' → (∀ vs, t.inn vs = true → wipe σ' vs = wipe σ vs) → Q σ' H
theorem pg_ofV {fb : Str → Bool} (hK : X.K = T.K) (hc : X.calm = true) (hN : X.N.Nodup) (hf : ∀ x, fb x = true → X.fn x = true) (t : TN) (e : Expr) (h : chkTN fb X.N X.env.scope (.tp t) e = true) : PG X e (gDV T t) := by
  cases e with
  | Tuple es j p =>
    have h : chkTNs fb X.N X.env.scope t es = true := h
    obtain ⟨h1, h2, _⟩ := tn_each (env := X.env) h
    refine pg_imp (pg_seq hc ((pg_of (T := T) hK hc hN hf t).2 es h) h1 h2) fun v σ H Q ⟨w, σa, σb, d, e, hS, r, hs, q⟩ => ?_
    subst e
    rw [hK]
    rcases r with r | ⟨a, xs, vs, rfl, rfl, hw, r⟩
    · cases d with
      | tup xs =>
        have hs : setTs t xs σa = some σb := hs
        obtain ⟨a, vs, rfl, t1, t2⟩ := rd_tup r
        exact ⟨a, vs, rfl, .inl t1.sq, by rw [← t2.length]; exact seq_len hs h, w, σa, σb, xs, rfl, hS, t2, hs, q⟩
      | lst xs =>
        have hs : setTs t xs σa = some σb := hs
        rw [RD] at r
        obtain ⟨a, vs, rfl, t1, t2⟩ := r
        exact ⟨a, vs, rfl, .inr t1.sq, by rw [← t2.length]; exact seq_len hs h, w, σa, σb, xs, rfl, hS, t2, hs, q⟩
      | _ => cases (show (none : Option Sl) = some σb from hs)
    · have hs : setTs t xs σa = some σb := hs
      exact ⟨a, vs, rfl, .inr (.inl (.inl hw)), by rw [← r.length]; exact seq_len hs h, w, σa, σb, xs, rfl, hS, r, hs, q⟩
  | _ => cases (show false = true from h)
end
end Ev
end

section
set_option Elab.async false
set_option linter.all false
set_option maxRecDepth 100000
/-! Comprehensions. -/
namespace Ev
open PySem PySem.Spec PyProof.Rows L2
section
variable {T : Tb} {P : Pg} {nm : Nm} {k : Nat} {W : WX} {X : Cx} {sc : Scope} {w : Wd} {A : AH} {σ : L2.St}
def WF : WX := fun _ _ _ _ => False
theorem Gd.blk (g : Gd T P nm k W X) (s : Shared) (H : Hp) (scope : Scope) (ce : Env) (fp : List Addr) : Gd T P nm k WF (X.blk s H scope ce fp) where
  K := g.K
  calm := g.calm
  nd := g.nd
  room := g.room
  xcl := fun c x fs h => let ⟨a, b, d⟩ := g.xcl c x fs h; ⟨⟨a.ox, a.mg, a.ini⟩, b, d⟩
  exm := g.exm
  xo := g.xo
  isx := g.isx
  base := g.base
  nx := g.nx
  take := fun u s' h => by
    obtain ⟨a, B, sI, pins, σ, H, cls, d, e, I, nb, up, sky, na, os, ag, w⟩ := h
    exact w.elim
  fn := g.fn
  kw := g.kw
  mt := g.mt
  mak := g.mak
  cls := g.cls
  fl := g.fl
  inj := g.inj
  gl := g.gl
  bl := g.bl
theorem compGo_nil {all : List D} {g : Option Nat} {t : TN} {tst : Sl → AH → Rs Bool} {f : Sl → AH → Rs D} {σa : Sl} {acc : List D} {H : AH} : compGo all g t tst f σa [] acc H = if Still all g H then .ok acc H else .no := by rw [compGo]
theorem compGo_cons {all : List D} {g : Option Nat} {t : TN} {tst : Sl → AH → Rs Bool} {f : Sl → AH → Rs D} {σa : Sl} {x : D} {xs acc : List D} {H : AH} : compGo all g t tst f σa (x :: xs) acc H = if Still all g H then
      match setT t x σa with
      | some σ' => match tst σ' H with
        | .ok true H1 => match f σ' H1 with
          | .ok y H2 => if acc.length < sizeLine then compGo all g t tst f σa xs (acc ++ [y]) H2 else .no
          | _ => .no
        | .ok false H1 => compGo all g t tst f σa xs acc H1
        | _ => .no
      | none => .no
    else .no := by rw [compGo] <;> rfl
/-- a turn in words -/
theorem comp_turn {α : Type} {R : Wd → D → V → Prop} {all : List D} {g : Option Nat} {t : TN} {tst : Sl → AH → Rs Bool} {f : Sl → AH → Rs D} {σa : Sl} {x : D} {xs acc : List D} {H : AH} {G : List D → AH → Rs D} {Q : VK}
    (h : Post T W (RD T) w σ (bindR (compGo all g t tst f σa (x :: xs) acc H) G) Q) : Still all g H ∧ ∃ σb, setT t x σa = some σb ∧
      ((∃ H1 y H2, tst σb H = .ok true H1 ∧ f σb H1 = .ok y H2 ∧ acc.length < sizeLine ∧ Post T W (RD T) w σ (bindR (compGo all g t tst f σa xs (acc ++ [y]) H2) G) Q) ∨
      ∃ H1, tst σb H = .ok false H1 ∧ Post T W (RD T) w σ (bindR (compGo all g t tst f σa xs acc H1) G) Q) := by
  rw [compGo_cons] at h
  by_cases hs : Still all g H
  · rw [if_pos hs] at h
    refine ⟨hs, ?_⟩
    cases e1 : setT t x σa with
    | none => rw [e1] at h; exact h.elim
    | some σb =>
      rw [e1] at h
      refine ⟨σb, rfl, ?_⟩
      simp only at h
      cases e2 : tst σb H with
      | no => rw [e2] at h; exact h.elim
      | ex c fs A => rw [e2] at h; exact h.elim
      | ok b H1 =>
        rw [e2] at h
        cases b with
        | false => exact .inr ⟨H1, rfl, h⟩
        | true =>
          simp only at h
          cases e3 : f σb H1 with
          | no => rw [e3] at h; exact h.elim
          | ex c fs A => rw [e3] at h; exact h.elim
          | ok y H2 =>
            rw [e3] at h
            simp only at h
            by_cases hl : acc.length < sizeLine
            · rw [if_pos hl] at h
              exact .inl ⟨H1, y, H2, rfl, e3, hl, h⟩
            · rw [if_neg hl] at h; exact h.elim
  · rw [if_neg hs] at h; exact h.elim
/-- the new list is not seen -/
abbrev Wd.hide (w : Wd) (p : Addr) (o : HO) : Wd := ⟨w.f, w.n, upd w.H p o, fun a => w.hid a ∨ a = p⟩
abbrev Wd.bare (w : Wd) (h : Addr → Prop) : Wd := ⟨w.f, w.n, w.H, h⟩
theorem Abs.hide {p : Addr} {o : HO} (h : Abs T w A) (hp : w.H p = none) : Abs T (w.hide p o) A where
  len := h.len
  inj := h.inj
  ob := fun i u q => by
    have inc : Inc w (w.hide p o) := by
      refine ⟨Nat.le_refl _, fun _ _ => rfl, fun a x hx q => ?_⟩
      have ne := ne_of_none hx hp
      exact ⟨by show upd w.H p o a = _; rw [upd_ne ne]; exact hx, q.1, fun z => z.elim q.2 ne⟩
    refine (h.ob i u q).inc inc fun x hx => ?_
    show upd w.H p o _ = _
    rw [upd_ne (ne_of_none hx hp)]; exact hx
  nh := fun i hi z => z.elim (h.nh i hi) fun e => (h.off hp).1 i hi e
  hs := fun a z => by
    by_cases e : a = p
    · exact ⟨o, by show upd w.H p o a = _; rw [e, upd_same]⟩
    · obtain ⟨u, hu⟩ := h.hs a (z.resolve_right e)
      exact ⟨u, by show upd w.H p o a = _; rw [upd_ne e]; exact hu⟩
/-- the state of a comprehension: wi is reached from w1, the list at p holds vs -/
structure CI (T : Tb) (w1 : Wd) (p : Addr) (wi : Wd) (A : AH) (acc : List D) : Prop where
  abs : Abs T wi A
  hid : wi.hid = fun a => w1.hid a ∨ a = p
  ext : Ext w1 (wi.bare w1.hid)
  at_ : ∃ vs, wi.H p = some (.lst vs) ∧ RDs T wi acc vs
theorem CI.start {w1 : Wd} {p : Addr} (h : Abs T w1 A) (hp : w1.H p = none) : CI T w1 p (w1.hide p (.lst [])) A [] :=
  ⟨h.hide hp, rfl, ext_laid hp, [], upd_same, RDs.nil⟩
theorem CI.inc {w1 wi : Wd} {p : Addr} {acc : List D} (c : CI T w1 p wi A acc) (hp : w1.H p = none) : Inc w1 wi := ⟨c.ext.le, c.ext.ag, fun a o h q => by
  obtain ⟨h1, q1⟩ := c.ext.inc.fo a o h q
  refine ⟨h1, q1.1, ?_⟩
  rw [c.hid]
  exact fun z => z.elim q.2 (ne_of_none h hp)⟩
/-- an expression is read -/
theorem CI.step {w1 wi w' : Wd} {p : Addr} {acc : List D} {A' : AH} (c : CI T w1 p wi A acc) (hp : w1.H p = none) (e : Ext wi w') (a : Abs T w' A') : CI T w1 p w' A' acc := by
  obtain ⟨vs, h1, h2⟩ := c.at_
  refine ⟨a, e.hd.trans c.hid, ?_, vs, e.hm p _ h1 (by rw [c.hid]; exact .inr rfl), RDs.mono e acc vs h2⟩
  refine ⟨Nat.le_trans c.ext.le e.le, fun i hi => (e.ag i (Nat.lt_of_lt_of_le hi c.ext.le)).trans (c.ext.ag i hi), fun i h1 h2 => ?_, fun x o hx q => ?_, fun x o hx => ?_, rfl, fun x o hx q => ?_⟩
  · by_cases hi : i < wi.n
    · show w1.H (w'.f i) = none
      rw [e.ag i hi]; exact c.ext.fr i h1 hi
    · have z := e.fr i (by omega) h2
      show w1.H (w'.f i) = none
      cases q : w1.H (w'.f i) with
      | none => rfl
      | some u =>
        obtain ⟨o, ho⟩ := c.ext.kp _ u q
        have ho : wi.H (w'.f i) = some o := ho
        rw [z] at ho; cases ho
  · obtain ⟨h3, q3⟩ := (c.inc hp).fo x o hx q
    exact e.fm x o h3 q3
  · obtain ⟨o', ho⟩ := c.ext.kp x o hx
    exact e.kp x o' ho
  · exact e.hm x o (c.ext.hm x o hx q) (by rw [c.hid]; exact .inl q)
/-- a value is appended -/
theorem CI.app {w1 wi : Wd} {p : Addr} {acc : List D} {d : D} {v : V} {vs : List V} (c : CI T w1 p wi A acc) (hp : w1.H p = none) (h1 : wi.H p = some (.lst vs)) (h2 : RDs T wi acc vs) (r : RD T wi d v) :
    CI T w1 p ⟨wi.f, wi.n, upd wi.H p (.lst (vs ++ [v])), wi.hid⟩ A (acc ++ [d]) := by
  have hh : wi.hid p := by rw [c.hid]; exact .inr rfl
  have inc : Inc wi ⟨wi.f, wi.n, upd wi.H p (.lst (vs ++ [v])), wi.hid⟩ := ⟨Nat.le_refl _, fun _ _ => rfl, fun a o ha q => by
    have ne : a ≠ p := fun e => q.2 (by rw [e]; exact hh)
    exact ⟨by show upd wi.H p _ a = _; rw [upd_ne ne]; exact ha, q⟩⟩
  refine ⟨⟨c.abs.len, c.abs.inj, fun i u q => ?_, c.abs.nh, fun a ha => ?_⟩, c.hid, ?_, vs ++ [v], upd_same, (RDs.inc inc acc vs h2).append (RDs.cons (RD.inc inc d v r) RDs.nil)⟩
  · have hi : i < wi.n := c.abs.lt q
    have ne : wi.f i ≠ p := fun e => c.abs.nh i hi (by rw [e]; exact hh)
    exact (c.abs.ob i u q).inc inc fun x hx => by
      show upd wi.H p _ (wi.f i) = _
      rw [upd_ne ne]; exact hx
  · by_cases e : a = p
    · exact ⟨_, by show upd wi.H p _ a = _; rw [e, upd_same]⟩
    · obtain ⟨u, hu⟩ := c.abs.hs a ha
      exact ⟨u, by show upd wi.H p _ a = _; rw [upd_ne e]; exact hu⟩
  · refine ⟨c.ext.le, c.ext.ag, c.ext.fr, fun x o hx q => ?_, fun x o hx => ?_, rfl, fun x o hx q => ?_⟩
    · show upd wi.H p _ x = _
      rw [upd_ne (ne_of_none hx hp)]; exact c.ext.fm x o hx q
    · obtain ⟨o', ho⟩ := c.ext.kp x o hx
      exact ⟨o', by show upd wi.H p _ x = _; rw [upd_ne (ne_of_none hx hp)]; exact ho⟩
    · show upd wi.H p _ x = _
      rw [upd_ne (ne_of_none hx hp)]; exact c.ext.hm x o hx q
/-- the end: the list is there -/
theorem CI.fin {w1 wi : Wd} {p : Addr} {acc : List D} {m : Bool} {Q : VK} (c : CI T w1 p wi A acc) (a1 : ∃ A1, Abs T w1 A1) (hp : w1.H p = none) (h : Post T W (RD T) w1 σ (liftH (some (mkL m acc A))) Q) : Q (.ref p) wi.H := by
  obtain ⟨vs, h1, h2⟩ := c.at_
  obtain ⟨A1, a1⟩ := a1
  have nh1 : ¬ w1.hid p := fun z => by
    obtain ⟨o, ho⟩ := a1.hs p z
    rw [hp] at ho; cases ho
  have nf : ∀ i, i < wi.n → wi.f i ≠ p := fun i hi z => c.abs.nh i hi (by rw [c.hid, z]; exact .inr rfl)
  cases m with
  | false =>
    have h : Post T W (RD T) w1 σ (.ok (.lst acc) A) Q := h
    have inc : Inc wi (wi.bare w1.hid) := ⟨Nat.le_refl _, fun _ _ => rfl, fun a o ha q => ⟨ha, q.1, fun z => q.2 (by rw [c.hid]; exact .inl z)⟩⟩
    refine h (wi.bare w1.hid) (.ref p) c.ext ⟨c.abs.len, c.abs.inj, fun i u q => (c.abs.ob i u q).inc inc fun x hx => hx, fun i hi z => c.abs.nh i hi (by rw [c.hid]; exact .inl z), fun a z => c.abs.hs a (by rw [c.hid]; exact .inl z)⟩ ?_
    rw [RD]
    exact ⟨p, vs, rfl, ⟨h1, nf, nh1⟩, RDs.inc inc acc vs h2⟩
  | true =>
    have h : Post T W (RD T) w1 σ (.ok (.ref A.length) (A ++ [.lst acc])) Q := h
    let w' : Wd := ⟨fun i => if i = wi.n then p else wi.f i, wi.n + 1, wi.H, w1.hid⟩
    have ag : ∀ i, i < wi.n → w'.f i = wi.f i := fun i hi => by
      show (if i = wi.n then p else wi.f i) = _
      rw [if_neg (by omega)]
    have new : w'.f wi.n = p := by show (if wi.n = wi.n then p else _) = p; rw [if_pos rfl]
    have inc : Inc wi w' := ⟨Nat.le_succ _, ag, fun a o ha q => ⟨ha, fun i hi z => by
      have hi : i < wi.n + 1 := hi
      by_cases e : i = wi.n
      · rw [e, new] at z
        exact q.2 (by rw [c.hid, z]; exact .inr rfl)
      · rw [ag i (by omega)] at z
        exact q.1 i (by omega) z, fun z => q.2 (by rw [c.hid]; exact .inl z)⟩⟩
    refine h w' (.ref p) ⟨Nat.le_trans c.ext.le (Nat.le_succ _), fun i hi => (ag i (Nat.lt_of_lt_of_le hi c.ext.le)).trans (c.ext.ag i hi), fun i h3 h4 => ?_, c.ext.fm, c.ext.kp, rfl, c.ext.hm⟩ ⟨by rw [List.length_append, c.abs.len]; rfl, fun i j hi hj e => ?_, fun i u q => ?_, fun i hi z => ?_, fun a z => c.abs.hs a (by rw [c.hid]; exact .inl z)⟩ ?_
    · have h4 : i < wi.n + 1 := h4
      by_cases e : i = wi.n
      · show w1.H (w'.f i) = none
        rw [e, new]; exact hp
      · show w1.H (w'.f i) = none
        rw [ag i (by omega)]; exact c.ext.fr i h3 (by show i < wi.n; omega)
    · have hi : i < wi.n + 1 := hi
      have hj : j < wi.n + 1 := hj
      by_cases e1 : i = wi.n <;> by_cases e2 : j = wi.n
      · rw [e1, e2]
      · rw [e1, new, ag j (by omega)] at e
        exact absurd e.symm (nf j (by omega))
      · rw [e2, new, ag i (by omega)] at e
        exact absurd e (nf i (by omega))
      · rw [ag i (by omega), ag j (by omega)] at e
        exact c.abs.inj i j (by omega) (by omega) e
    · by_cases hi : i < A.length
      · rw [List.getElem?_append_left hi] at q
        have hn : i < wi.n := by rw [← c.abs.len]; exact hi
        rw [ag i hn]
        exact (c.abs.ob i u q).inc inc fun x hx => hx
      · have hi' : i = A.length := by
          have := (List.getElem?_eq_some_iff.mp q).1
          simp at this; omega
        subst hi'
        simp at q
        subst q
        rw [c.abs.len, new]
        exact ⟨vs, h1, RDs.inc inc acc vs h2⟩
    · have hi : i < wi.n + 1 := hi
      by_cases e : i = wi.n
      · rw [e, new] at z; exact nh1 z
      · rw [ag i (by omega)] at z
        exact c.abs.nh i (by omega) (by rw [c.hid]; exact .inl z)
    · rw [RD]
      exact ⟨by rw [c.abs.len]; exact Nat.lt_succ_self _, by rw [c.abs.len, new]⟩
end
end Ev
end

section
set_option Elab.async false
set_option linter.all false
set_option maxRecDepth 100000
/-! Comprehensions, two. -/
namespace Ev
open PySem PySem.Spec PyProof.Rows L2
section
variable {T : Tb} {P : Pg} {nm : Nm} {k : Nat} {W : WX} {X : Cx} {sc : Scope} {w : Wd} {A : AH} {σ : L2.St}
abbrev tstF (P : Pg) (k : Nat) (tst : E) : Sl → AH → Rs Bool := fun σ H => if noTest tst then .ok true H else cT P k tst σ H
theorem own_map {N : List Str} : ∀ {own : List Nat}, (own.all fun i => decide (i < N.length)) = true → (own.filterMap fun i => (N[i]?).map fun x => (x, i)).map (·.2) = own
  | [], _ => rfl
  | i :: own, h => by
    rw [List.all_cons, Bool.and_eq_true] at h
    have hi := of_decide_eq_true h.1
    rw [List.filterMap_cons, List.getElem?_eq_getElem hi]
    show i :: _ = _
    rw [own_map h.2]
theorem lc_loop (g : Gd T P nm k W X) {t : TN} {tst elt : E} {xs : List D} {gd : Option Nat} {σa : Sl} {σ0 : L2.St} {own : List Nat} {m : Bool} {w1 : Wd} {A1 : AH} {J : It} {Q : VK} {D1 : Addr}
    (hown : t.inn own = true) (hA : Abs T w1 A1) (hS : RS T w1 σa σ0) (hJ : RIt T w1 (xs, gd) J) (hp : w1.H D1 = none)
    (hP : Post T W (RD T) w1 σ (bindR (compGo xs gd t (tstF P k tst) (cE P k elt) (wipeD σa own) xs [] A1) fun ys H2 => liftH (some (mkL m ys H2))) Q) :
    ∃ Wm : Nat → Nat → Hp → Prop, (∃ m, Wm 0 m (upd w1.H D1 (.lst []))) ∧ ∀ i m H, Wm i m H →
      (J.stop i H ∧ Q (.ref D1) H) ∨ (J.go i H ∧ ∃ Nx : Hp → Prop, (∀ H', Nx H' → ∃ m', m' < m ∧ Wm (i + 1) m' H') ∧ ∀ x H', J.yld i H x H' → gD T t x (wipe σ0 own) H' fun σ2 H2 => wipe σ2 own = wipe σ0 own ∧ tT T WF (tstF P k tst) σ2 H2 fun b H3 =>
        if b = true then tE T WF (cE P k elt) σ2 H3 fun y H4 => ∃ acc, H4 D1 = some (.lst acc) ∧ acc.length < sizeLine ∧ Nx (upd H4 D1 (.lst (acc ++ [y]))) else Nx H3) := by
  let Wm : Nat → Nat → Hp → Prop := fun i m' H => m' = xs.length - i ∧ i ≤ xs.length ∧ ∃ wi Ai acc, wi.H = H ∧ CI T w1 D1 wi Ai acc ∧
    Post T W (RD T) w1 σ (bindR (compGo xs gd t (tstF P k tst) (cE P k elt) (wipeD σa own) (xs.drop i) acc Ai) fun ys H2 => liftH (some (mkL m ys H2))) Q
  refine ⟨Wm, ⟨xs.length, by simp, Nat.zero_le _, w1.hide D1 (.lst []), A1, [], rfl, CI.start hA hp, hP⟩, ?_⟩
  rintro i m' H ⟨rfl, hi, wi, Ai, acc, rfl, c, h⟩
  by_cases hlt : i < xs.length
  · have hd : xs.drop i = xs[i] :: xs.drop (i + 1) := List.drop_eq_getElem_cons hlt
    rw [hd] at h
    obtain ⟨st, σb, hs, h⟩ := comp_turn (α := Unit) (R := RD T) h
    obtain ⟨j1, j2, j3⟩ := hJ wi Ai (c.inc hp) c.abs st
    refine .inr ⟨j1 i hlt, Wm (i + 1) (xs.length - (i + 1)), fun H' hw => ⟨_, by omega, hw⟩, fun x H' y => ?_⟩
    obtain ⟨rfl, rx⟩ := j3 i x H' y
    have rx := rx xs[i] (by simp [hlt])
    refine ⟨wi, wipeD σa own, σb, xs[i], rfl, (hS.inc (c.inc hp)).wiped own, rx, hs, fun σ2 hS2 hw2 => ⟨?_, ?_⟩⟩
    · rw [hw2 own hown]; exact wipe_wipe own fun i hi => hi
    · refine ⟨wi, σb, Ai, rfl, c.abs, hS2, ?_⟩
      rcases h with ⟨H1, y, H2, e1, e2, hl, h⟩ | ⟨H1, e1, h⟩
      · rw [e1]
        intro w2 b x2 a2 rb
        cases rb
        show tE T WF (cE P k elt) σ2 w2.H _
        have c2 := c.step hp x2 a2
        refine ⟨w2, σb, H1, rfl, a2, hS2.mono x2, ?_⟩
        rw [e2]
        intro w3 v x3 a3 rv
        have c3 := c2.step hp x3 a3
        obtain ⟨vs, h1, h2⟩ := c3.at_
        refine ⟨vs, h1, by rw [← h2.length]; exact hl, rfl, hlt, _, H2, acc ++ [y], rfl, c3.app hp h1 h2 rv, h⟩
      · rw [e1]
        intro w2 b x2 a2 rb
        cases rb
        show Wm (i + 1) (xs.length - (i + 1)) w2.H
        exact ⟨rfl, hlt, w2, H1, acc, rfl, c.step hp x2 a2, h⟩
  · have e : i = xs.length := by omega
    subst e
    rw [List.drop_length, compGo_nil] at h
    by_cases st : Still xs gd Ai
    · rw [if_pos st] at h
      obtain ⟨j1, j2, j3⟩ := hJ wi Ai (c.inc hp) c.abs st
      exact .inl ⟨j2 _ (Nat.le_refl _), c.fin ⟨A1, hA⟩ hp h⟩
    · rw [if_neg st] at h
      exact h.elim
theorem tlc_of (g : Gd T P nm k W X) {t : TN} {kk : SK} {src tst elt : E} {own : List Nat} {m : Bool} (hown : t.inn own = true) {σ : L2.St} {H : Hp} {Q : VK} (h : tE T W (cE P k (.comp m own t kk src tst elt)) σ H Q) :
    tLc (tI T W (cI P k kk src)) (gD T t) (tT T WF (tstF P k tst)) (tE T WF (cE P k elt)) own σ H Q := by
  obtain ⟨w, σa, A, e, hA, hS, hP⟩ := h
  subst e
  have hP : Post T W (RD T) w σ (bindR (cA P k src σa A) fun ds H1 => bindR (liftR (items H1 kk ds) H1) fun p H1 =>
    bindR (compGo p.1 p.2 t (tstF P k tst) (cE P k elt) (wipeD σa own) p.1 [] H1) fun ys H2 => liftH (some (mkL m ys H2))) Q := hP
  rw [← bind_assoc] at hP
  refine ⟨w, σa, A, rfl, hA, hS, hP.bind fun w1 p J A1 e1 a1 r1 _ h1 D1 hp => ?_⟩
  exact lc_loop g hown a1 (hS.mono e1) r1 hp h1
/-- the parts of a block -/
structure Blk (T : Tb) (P : Pg) (k : Nat) (X : Cx) (scope : Scope) (tg : Expr) (ifs : List Expr) (el : Expr) (t : TN) (tst elt : E) : Prop where
  hg : ∀ (s : Shared) (H : Hp) (C : Addr) (cl : List (Str × Addr)) (fp : List Addr), PG (X.blk s H scope (compEnvC scope cl C X.env) fp) tg (gD T t)
  ht : ∀ (s : Shared) (H : Hp) (C : Addr) (cl : List (Str × Addr)) (fp : List Addr), PTs (X.blk s H scope (compEnvC scope cl C X.env) fp) ifs (tT T WF (tstF P k tst))
  he : ∀ (s : Shared) (H : Hp) (C : Addr) (cl : List (Str × Addr)) (fp : List Addr), PE (X.blk s H scope (compEnvC scope cl C X.env) fp) el (tE T WF (cE P k elt))
theorem s_comp (g : Gd T P nm k W X) {t : TN} {kk : SK} {src tst elt : E} {own : List Nat} {m : Bool} {tg it el : Expr} {ifs : List Expr} {scope : Scope} {pos : Pos} (hown : t.inn own = true) (hr : (own.all fun i => decide (i < X.N.length)) = true)
    (hi : PI X tg it (tI T W (cI P k kk src))) (ok : blkC X.N X.env.scope scope (own.filterMap fun i => (X.N[i]?).map fun x => (x, i)) = true) (b : Blk T P k X scope tg ifs el t tst elt) (hs : ∀ x, foldedSetIterable it X.env x = pure x) :
    PE X (.ListComp el [⟨tg, it, ifs, 0⟩] scope pos) (tE T W (cE P k (.comp m own t kk src tst elt))) := by
  refine pe_imp (pe_lc g.calm g.nd hi (blkOk_by ok) b.hg b.ht b.he hs) fun σ H Q h => ?_
  rw [own_map hr]
  exact tlc_of g hown h
end
end Ev
end

section
set_option Elab.async false
set_option linter.all false
set_option maxRecDepth 100000
/-! Every expression that the checker takes. -/
namespace Ev
open PySem PySem.Spec PyProof.Rows L2
section
variable {T : Tb} {P : Pg} {nm : Nm} {k : Nat}
variable (T P nm k) in
def SndE (e' : E) : Prop := ∀ {W : WX} {X : Cx} (g : Gd T P nm k W X) (e : Expr), chk nm X.N X.env.scope e' e = true → PE X e (tE T W (cE P k e')) ∧ PT X e (tT T W (cT P k e')) ∧ (bumpy e' e = true → PEU X e (tE T W (cE P k e')))
variable (T P nm k) in
def SndL (e' : E) : Prop := ∀ {W : WX} {X : Cx} (g : Gd T P nm k W X) (es : List Expr), chks nm X.N X.env.scope e' es = true → PA X es (tA T W (cA P k e')) ∧ (∀ x, es = [x] → ∃ a, e' = .cons a .nil ∧ PE X x (tE T W (cE P k a))) ∧
  (∀ kws : List Keyword, es = kws.map (·.value) → PK X kws (tA T W (cA P k e'))) ∧
  ∀ p, (PE X (.BoolOp .And es p) (tE T W (cAnd P k e')) ∧ PE X (.BoolOp .Or es p) (tE T W (cOr P k e'))) ∧ PW X (.BoolOp .And es p) (tT T W (cAndT P k e')) ∧ PW X (.BoolOp .Or es p) (tT T W (cOrT P k e'))
variable (T P nm k) in
def SndO (e' : E) : Prop := ∀ {W : WX} {X : Cx} (g : Gd T P nm k W X) (x : Option Expr), chkO nm X.N X.env.scope e' x = true → PO X x (tP T W (cP P k e'))
section
variable {W : WX} {X : Cx} {e : Expr} {e' : E}
theorem pt_no (h : cT P k e' = fun _ _ => Rs.no) : PT X e (tT T W (cT P k e')) := ⟨fun pins s σ H Q I ⟨w, σa, A, e, hA, hS, hP⟩ => by rw [h] at hP; exact hP.elim⟩
theorem pe_no {f : Sl → AH → Rs D} (h : f = fun _ _ => Rs.no) : PE X e (tE T W f) := ⟨fun pins s σ H Q I ⟨w, σa, A, e, hA, hS, hP⟩ => by rw [h] at hP; exact hP.elim⟩
theorem pw_no {f : Sl → AH → Rs Bool} (h : f = fun _ _ => Rs.no) : PW X e (tT T W f) := ⟨fun wh pins s σ H Q I ⟨w, σa, A, e, hA, hS, hP⟩ => by rw [h] at hP; exact hP.elim⟩
end
theorem ff {p : Prop} (h : false = true) : p := by cases h
theorem and4 {a b c d : Bool} (h : (a && b && c && d) = true) : a = true ∧ b = true ∧ c = true ∧ d = true := by
  simp only [Bool.and_eq_true] at h; exact ⟨h.1.1.1, h.1.1.2, h.1.2, h.2⟩
theorem and5 {a b c d e : Bool} (h : (a && b && c && d && e) = true) : a = true ∧ b = true ∧ c = true ∧ d = true ∧ e = true := by
  simp only [Bool.and_eq_true] at h; exact ⟨h.1.1.1.1, h.1.1.1.2, h.1.1.2, h.1.2, h.2⟩
theorem and6 {a b c d e f : Bool} (h : (a && b && c && d && e && f) = true) : a = true ∧ b = true ∧ c = true ∧ d = true ∧ e = true ∧ f = true := by
  simp only [Bool.and_eq_true] at h; exact ⟨h.1.1.1.1.1, h.1.1.1.1.2, h.1.1.1.2, h.1.1.2, h.1.2, h.2⟩
theorem and7 {a b c d e f i : Bool} (h : (a && b && c && d && e && f && i) = true) : a = true ∧ b = true ∧ c = true ∧ d = true ∧ e = true ∧ f = true ∧ i = true := by
  simp only [Bool.and_eq_true] at h; exact ⟨h.1.1.1.1.1.1, h.1.1.1.1.1.2, h.1.1.1.1.2, h.1.1.1.2, h.1.1.2, h.1.2, h.2⟩
/-- no list, no part -/
theorem noL {e' : E} (h : ∀ {N : List Str} {sc : Scope} (es : List Expr), chks nm N sc e' es = false) : SndL T P nm k e' := fun g es q => by rw [h] at q; cases q
theorem noO {e' : E} (h : ∀ {N : List Str} {sc : Scope} (x : Option Expr), chkO nm N sc e' x = false) : SndO T P nm k e' := fun g x q => by rw [h] at q; cases q
theorem nb {e' : E} {e : Expr} {p : Prop} (h : bumpy e' e = false) : bumpy e' e = true → p := fun q => by rw [h] at q; cases q

theorem snd_var (i : Nat) : SndE T P nm k (.var i) := fun g e h => by
  cases e <;> first | exact ff h | skip
  exact ⟨s_var g h, pt_eq (s_truth g (s_var g h) fun _ => rfl) ct_var, nb rfl⟩
theorem snd_con (d : D) : SndE T P nm k (.con d) := fun g e h => by
  cases e <;> first | (cases d <;> exact ff h) | skip
  exact ⟨s_con g h, pt_no rfl, nb rfl⟩
theorem snd_glo (i : Nat) : SndE T P nm k (.glo i) := fun g e h => by
  cases e <;> first | exact ff h | skip
  exact ⟨s_glo g h, pt_no rfl, nb rfl⟩
theorem snd_nilE : SndE T P nm k .nil := fun g e h => by
  cases e <;> exact ff h
theorem snd_consE (a b : E) : SndE T P nm k (.cons a b) := fun g e h => by
  cases e <;> exact ff h
theorem snd_nilL : SndL T P nm k .nil := fun {W X} g es h => by
  cases es with
  | cons _ _ => exact ff h
  | nil =>
    refine ⟨s_nil, fun x e => (by cases e), fun kws e => ?_, fun p => ⟨⟨pe_no rfl, pe_no rfl⟩, pw_no rfl, pw_no rfl⟩⟩
    cases kws with
    | cons _ _ => cases e
    | nil =>
      refine ⟨fun pos pins s σ H Q I h => pk_nil.run pos pins s σ H Q I ?_⟩
      obtain ⟨w, σa, A, e, hA, hS, hP⟩ := h
      subst e
      have hP : Post T W (RDs T) w σ (.ok [] A) Q := hP
      exact hP.now hA RDs.nil
theorem snd_consL {a b : E} (ha : SndE T P nm k a) (hb : SndL T P nm k b) : SndL T P nm k (.cons a b) := fun {W X} g es h => by
  cases es with
  | nil => exact ff h
  | cons x xs =>
    have h : (plainE x && chk nm X.N X.env.scope a x && chks nm X.N X.env.scope b xs) = true := h
    obtain ⟨h1, h2, h3⟩ := and3 h
    obtain ⟨q1, q2, _⟩ := ha g x h2
    obtain ⟨l1, l2, l4, l3⟩ := hb g xs h3
    refine ⟨s_cons h1 q1 l1, fun y e => ?_, fun kws e => ?_, fun p => ?_⟩
    · cases e
      cases b with
      | nil => exact ⟨a, rfl, q1⟩
      | _ => exact ff h3
    · cases kws with
      | nil => cases e
      | cons kw kws =>
        obtain ⟨n, e0, pp⟩ := kw
        simp only [List.map_cons, List.cons.injEq] at e
        obtain ⟨e1, e2⟩ := e
        subst e1
        have q := pk_cons (nm := n) (kpos := pp) q1 (l4 kws e2)
        refine ⟨fun pos pins s σ H Q I h => q.run pos pins s σ H Q I ?_⟩
        obtain ⟨w, σa, A, e, hA, hS, hP⟩ := h
        subst e
        have hP : Post T W (RDs T) w σ (bindR (cE P k a σa A) fun x H1 => bindR (cA P k b σa H1) fun xs H2 => .ok (x :: xs) H2) Q := hP
        refine ⟨w, σa, A, rfl, hA, hS, hP.bind fun w1 d v A1 e1 a1 r1 _ h1 => ⟨w1, σa, A1, rfl, a1, hS.mono e1, h1.bind fun w2 ds vs A2 e2 a2 r2 _ h2 => ?_⟩⟩
        exact h2.now a2 (RDs.cons (RD.mono e2 d v r1) r2)
    · cases xs with
      | nil =>
        cases b with
        | nil => exact ⟨⟨s_and1 q1, s_or1 q1⟩, s_andT1 q2, s_orT1 q2⟩
        | _ => exact ff h3
      | cons y ys =>
        have hn : isNil b = false := by
          cases b with
          | nil => exact ff h3
          | _ => rfl
        obtain ⟨⟨m1, m2⟩, m3, m4⟩ := l3 p
        exact ⟨⟨s_and hn q1 m1, s_or hn q1 m2⟩, s_andT hn q2 m3, s_orT hn q2 m4⟩
theorem snd_nilO : SndO T P nm k .nil := fun g x h => by
  cases x with
  | none => exact s_part0
  | some _ => exact ff h
theorem snd_consO {a b : E} (ha : SndE T P nm k a) : SndO T P nm k (.cons a b) := fun g x h => by
  cases x with
  | none => exact ff h
  | some x => exact s_part1 (ha g x h).1
theorem snd_tup {es : E} (hs : SndL T P nm k es) : SndE T P nm k (.tup es) := fun {W X} g e h => by
  cases e <;> first | exact ff h | skip
  rename_i xs j p
  have h : (chks nm X.N X.env.scope es xs && decide (xs.length ≤ 1000)) = true := h
  rw [Bool.and_eq_true] at h
  exact ⟨s_tup (of_decide_eq_true h.2) h.1 (hs g xs h.1).1, pt_no rfl, nb rfl⟩
theorem snd_lst {m : Bool} {es : E} (hs : SndL T P nm k es) : SndE T P nm k (.lst m es) := fun {W X} g e h => by
  cases e <;> first | exact ff h | skip
  rename_i xs p
  have h : (chks nm X.N X.env.scope es xs && decide (xs.length ≤ 1000)) = true := h
  rw [Bool.and_eq_true] at h
  exact ⟨s_lst (of_decide_eq_true h.2) h.1 (hs g xs h.1).1, pt_no rfl, nb rfl⟩
theorem snd_dnew : SndE T P nm k .dnew := fun g e h => by
  cases e <;> first | exact ff h | skip
  rename_i ks vs p
  cases ks <;> cases vs <;> first | exact ff h | skip
  exact ⟨s_dnew, pt_no rfl, nb rfl⟩
theorem snd_dlit (kvs : List (DK × D)) : SndE T P nm k (.dlit kvs) := fun g e h => by
  cases e <;> first | exact ff h | skip
  rename_i ks vs p
  have h : (dlB kvs ks vs && !kvs.isEmpty && decide (kvs.length ≤ 15)) = true := h
  obtain ⟨h1, h2, h3⟩ := and3 h
  exact ⟨s_dlit h1 (by intro z; subst z; cases h2) (of_decide_eq_true h3), pt_no rfl, nb rfl⟩
theorem snd_bin {o : Op} {a b : E} (ha : SndE T P nm k a) (hb : SndE T P nm k b) : SndE T P nm k (.bin o a b) := fun {W X} g e h => by
  cases e <;> first | exact ff h | skip
  rename_i l op r p
  have h : (opB o op && chk nm X.N X.env.scope a l && chk nm X.N X.env.scope b r) = true := h
  obtain ⟨h1, h2, h3⟩ := and3 h
  exact ⟨s_bin g h1 (ha g l h2).1 (hb g r h3).1, pt_no rfl, nb rfl⟩
theorem snd_cat {m : Bool} {a b : E} (ha : SndE T P nm k a) (hb : SndE T P nm k b) : SndE T P nm k (.cat m a b) := fun {W X} g e h => by
  cases e <;> first | exact ff h | skip
  rename_i l op r p
  cases op <;> first | exact ff h | skip
  have h : (chk nm X.N X.env.scope a l && chk nm X.N X.env.scope b r) = true := h
  rw [Bool.and_eq_true] at h
  exact ⟨s_cat (ha g l h.1).1 (hb g r h.2).1, pt_no rfl, nb rfl⟩
theorem snd_neg {a : E} (ha : SndE T P nm k a) : SndE T P nm k (.neg a) := fun {W X} g e h => by
  cases e <;> first | exact ff h | skip
  rename_i op x p
  cases op <;> first | exact ff h | skip
  exact ⟨s_neg (ha g x h).1, pt_no rfl, nb rfl⟩
theorem snd_not {a : E} (ha : SndE T P nm k a) : SndE T P nm k (.not a) := fun {W X} g e h => by
  cases e <;> first | exact ff h | skip
  rename_i op x p
  cases op <;> first | exact ff h | skip
  exact ⟨s_not (ha g x h).1, s_notT (ha g x h).2.1, nb rfl⟩
theorem snd_cmp {o : Cp} {a b : E} (ha : SndE T P nm k a) (hb : SndE T P nm k b) : SndE T P nm k (.cmp o a b) := fun {W X} g e h => by
  cases e <;> first | exact ff h | skip
  rename_i l ops rs p
  match ops, rs, h with
  | [op], [r], h =>
    have h : (cpB o op && plainE r && chk nm X.N X.env.scope a l && chk nm X.N X.env.scope b r) = true := h
    obtain ⟨h1, h2, h3, h4⟩ := and4 h
    obtain ⟨q1, q2⟩ := s_cmp g h1 h2 (ha g l h3).1 (hb g r h4).1 (q := p)
    exact ⟨q1, q2, nb rfl⟩
  | [], _, h => exact ff h
  | [_], [], h => exact ff h
  | [_], _ :: _ :: _, h => exact ff h
  | _ :: _ :: _, _, h => exact ff h
theorem snd_isn {n : Bool} {a : E} (ha : SndE T P nm k a) : SndE T P nm k (.isn n a) := fun {W X} g e h => by
  cases e <;> first | exact ff h | skip
  rename_i l ops rs p
  match ops, rs, h with
  | [op], [r], h =>
    cases r <;> first | exact ff h | skip
    rename_i c j q
    cases c <;> first | exact ff h | skip
    have h : (decide (op = if n then CmpOp.IsNot else CmpOp.Is) && chk nm X.N X.env.scope a l) = true := h
    rw [Bool.and_eq_true] at h
    obtain ⟨q1, q2⟩ := s_isn (of_decide_eq_true h.1) (ha g l h.2).1 (j := j) (q := p) (q' := q)
    exact ⟨q1, q2, nb rfl⟩
  | [], _, h => exact ff h
  | [_], [], h => exact ff h
  | [_], r :: _ :: _, h =>
    cases r <;> first | exact ff h | skip
    rename_i c j q
    cases c <;> exact ff h
  | _ :: _ :: _, _, h => exact ff h
theorem snd_chain {o o2 : Cp} {a b c : E} (ha : SndE T P nm k a) (hb : SndE T P nm k b) (hc : SndE T P nm k c) : SndE T P nm k (.chain o o2 a b c) := fun {W X} g e h => by
  cases e <;> first | exact ff h | skip
  rename_i l ops rs p
  match ops, rs, h with
  | [op, oq], [m, r], h =>
    have h : (cpB o op && cpB o2 oq && plainE m && plainE r && chk nm X.N X.env.scope a l && chk nm X.N X.env.scope b m && chk nm X.N X.env.scope c r) = true := h
    obtain ⟨h1, h2, h3, h4, h5, h6, h7⟩ := and7 h
    obtain ⟨q1, q2⟩ := s_chain g h1 h2 h4 (ha g l h5).1 (hb g m h6).1 (hc g r h7).1 (q := p)
    exact ⟨q1, q2, nb rfl⟩
  | [], _, h => exact ff h
  | [_], _, h => exact ff h
  | [_, _], [], h => exact ff h
  | [_, _], [_], h => exact ff h
  | [_, _], _ :: _ :: _ :: _, h => exact ff h
  | _ :: _ :: _ :: _, _, h => exact ff h
theorem snd_and {es : E} (hs : SndL T P nm k es) : SndE T P nm k (.and es) := fun {W X} g e h => by
  cases e <;> first | exact ff h | skip
  rename_i op xs p
  cases op <;> first | exact ff h | skip
  have h : chks nm X.N X.env.scope es xs = true := h
  obtain ⟨_, _, _, m⟩ := hs g xs h
  exact ⟨(m p).1.1, (m p).2.1.pt, nb rfl⟩
theorem snd_or {es : E} (hs : SndL T P nm k es) : SndE T P nm k (.or es) := fun {W X} g e h => by
  cases e <;> first | exact ff h | skip
  rename_i op xs p
  cases op <;> first | exact ff h | skip
  have h : chks nm X.N X.env.scope es xs = true := h
  obtain ⟨_, _, _, m⟩ := hs g xs h
  exact ⟨(m p).1.2, (m p).2.2.pt, nb rfl⟩
theorem snd_ite {c a b : E} (hc : SndE T P nm k c) (ha : SndE T P nm k a) (hb : SndE T P nm k b) : SndE T P nm k (.ite c a b) := fun {W X} g e h => by
  cases e <;> first | exact ff h | skip
  rename_i t x y p
  have h : (chk nm X.N X.env.scope c t && chk nm X.N X.env.scope a x && chk nm X.N X.env.scope b y) = true := h
  obtain ⟨h1, h2, h3⟩ := and3 h
  exact ⟨s_ite (hc g t h1).2.1 (ha g x h2).1 (hb g y h3).1, pt_no rfl, nb rfl⟩
theorem snd_idx {a i : E} (ha : SndE T P nm k a) (hi : SndE T P nm k i) : SndE T P nm k (.idx a i) := fun {W X} g e h => by
  cases e <;> first | exact ff h | skip
  rename_i x y p
  have h : (plainE y && chk nm X.N X.env.scope a x && chk nm X.N X.env.scope i y) = true := by
    cases y <;> exact h
  obtain ⟨h1, h2, h3⟩ := and3 h
  have s := s_idx g h1 (ha g x h2).1 (hi g y h3).1 (q := p)
  refine ⟨s, pt_eq (s_truth g s fun _ => rfl) ct_idx, fun hb => ?_⟩
  cases y <;> first | exact ff hb | skip
  rename_i c j q _
  cases c <;> first | exact ff hb | skip
  rename_i n _
  have hu := g.room.units
  have hbb : ∀ σ H Q, tE T W (cE P k i) σ H Q → Q (.int n) H := by
    cases i with
    | con d =>
      cases d with
      | int m =>
        obtain rfl : m = n := of_decide_eq_true h3
        exact con_int
      | _ => exact ff h3
    | bi b _ => cases b <;> exact ff h3
    | bm b _ es => cases b <;> first | exact ff h3 | (cases es <;> exact ff h3)
    | _ => exact ff h3
  exact peu_imp (peu_orE (peu_ix ix_seq (ha g x h2).1 hbb) (peu_dg (by omega) (ha g x h2).1 hbb)) (idx_ok g)
theorem snd_slc {m : Bool} {a lo hi : E} (ha : SndE T P nm k a) (hl : SndO T P nm k lo) (hh : SndO T P nm k hi) : SndE T P nm k (.slc m a lo hi) := fun {W X} g e h => by
  cases e <;> first | exact ff h | skip
  rename_i x y p
  cases y <;> first | exact ff h | skip
  rename_i l u st q
  cases st <;> first | exact ff h | skip
  have h : (chk nm X.N X.env.scope a x && chkO nm X.N X.env.scope lo l && chkO nm X.N X.env.scope hi u) = true := h
  obtain ⟨h1, h2, h3⟩ := and3 h
  exact ⟨s_slc g (ha g x h1).1 (hl g l h2) (hh g u h3), pt_no rfl, nb rfl⟩
theorem snd_att {a : E} {f : Nat} (ha : SndE T P nm k a) : SndE T P nm k (.att a f) := fun {W X} g e h => by
  cases e <;> first | exact ff h | skip
  rename_i x n p
  have h : (decide (nm.fld[f]? = some n) && chk nm X.N X.env.scope a x && notSuper x) = true := h
  obtain ⟨h1, h2, h3⟩ := and3 h
  exact ⟨s_att g h3 (of_decide_eq_true h1) (ha g x h2).1, pt_no rfl, nb rfl⟩
theorem snd_call {f : Nat} {es : E} (hs : SndL T P nm k es) : SndE T P nm k (.call f es) := fun {W X} g e h => by
  have key : PE X e (tE T W (cE P k (.call f es))) ∧ ∃ f xs ks p, e = .Call f xs ks p := by
    cases e <;> first | exact ff h | skip
    rename_i fu xs kws p
    refine ⟨?_, _, _, _, _, rfl⟩
    cases fu <;> first | exact ff h | skip
    rename_i x q
    cases kws with
    | nil =>
      have h : (decide (nm.fns[f]? = some (none, x)) && glB X.env.scope x && chks nm X.N X.env.scope es xs) = true := h
      obtain ⟨h1, h2, h3⟩ := and3 h
      exact s_call g (of_decide_eq_true h1) h2 h3 (hs g xs h3).1 (p := q) (q := p)
    | cons kw kws =>
      cases xs with
      | cons _ _ => exact ff h
      | nil =>
        have h : (decide (nm.fns[f]? = some (none, x)) && glB X.env.scope x && decide ((nm.par[f]?).map (·.map some) = some ((kw :: kws).map (·.arg))) && chks nm X.N X.env.scope es ((kw :: kws).map (·.value))) = true := h
        obtain ⟨h1, h2, h3, h4⟩ := and4 h
        obtain ⟨ps, h5, h6⟩ := Option.map_eq_some_iff.mp (of_decide_eq_true h3)
        exact s_callK g (of_decide_eq_true h1) h2 h5 h6.symm ((hs g _ h4).2.2.1 (kw :: kws) rfl)
  obtain ⟨s, f, xs, ks, p, rfl⟩ := key
  exact ⟨s, pt_eq (s_truth g s fun _ => rfl) ct_call, nb rfl⟩
theorem snd_mth {c f : Nat} {o es : E} (ho : SndE T P nm k o) (hs : SndL T P nm k es) : SndE T P nm k (.mth c f o es) := fun {W X} g e h => by
  cases e <;> first | exact ff h | skip
  rename_i fu xs kws p
  cases fu <;> first | exact ff h | skip
  rename_i x m q
  cases kws <;> first | exact ff h | skip
  have h : (decide (nm.fns[f]? = some (some c, m)) && chk nm X.N X.env.scope o x && chks nm X.N X.env.scope es xs && notSuper x && (q.endLine == p.line) && decide (xs.length ≤ 20)) = true := h
  obtain ⟨h1, h2, h3, h4, h5, h6⟩ := and6 h
  have s := s_mth g (of_decide_eq_true h1) h4 h5 (of_decide_eq_true h6) h3 (ho g x h2).1 (hs g xs h3).1
  exact ⟨s, pt_eq (s_truth g s fun _ => rfl) ct_mth, nb rfl⟩
theorem snd_mak {c : Nat} {es : E} (hs : SndL T P nm k es) : SndE T P nm k (.mak c es) := fun {W X} g e h => by
  cases e <;> first | exact ff h | skip
  rename_i fu xs kws p
  cases fu <;> first | exact ff h | skip
  rename_i x q
  cases kws <;> first | exact ff h | skip
  have h : (decide (nm.cls[c]? = some x) && glB X.env.scope x && chks nm X.N X.env.scope es xs) = true := h
  obtain ⟨h1, h2, h3⟩ := and3 h
  exact ⟨s_mak g (of_decide_eq_true h1) h2 h3 (hs g xs h3).1, pt_no rfl, nb rfl⟩
theorem snd_bi {b : Bi} {es : E} (hs : SndL T P nm k es) : SndE T P nm k (.bi b es) := fun {W X} g e h => by
  have key : PE X e (tE T W (cE P k (.bi b es))) ∧ ∃ f xs ks p, e = .Call f xs ks p := by
    cases e <;> first | (cases b <;> exact ff h) | skip
    rename_i fu xs kws p
    refine ⟨?_, _, _, _, _, rfl⟩
    cases fu <;> first | (cases b <;> exact ff h) | skip
    rename_i x q
    have one : ∀ (a : Expr), xs = [a] → kws = [] → (decide (biN b = some x) && glB X.env.scope x && chks nm X.N X.env.scope es [a]) = true → PE X (.Call (.Name x q) xs kws p) (tE T W (cE P k (.bi b es))) := by
      rintro a rfl rfl h
      obtain ⟨h1, h2, h3⟩ := and3 h
      have h1 := of_decide_eq_true h1
      have ha := (hs g [a] h3).1
      cases b with
      | len => cases h1; exact s_len g h3 ha h2
      | toInt => cases h1; exact s_int g h3 ha h2
      | toStr => cases h1; exact s_str g h3 ha h2
      | ord => cases h1; exact s_ord g h3 ha h2
      | all => cases h1; exact s_all g h3 ha h2
      | any => cases h1; exact s_any g h3 ha h2
      | tuple => cases h1; exact s_tuple g h3 ha h2
      | list m => cases h1; exact s_list g h3 ha h2
      | isi ts => cases h1
      | lenSet => cases h1
    cases b with
    | isi ts =>
      match xs, kws, h with
      | [a, t], [], h =>
        have h : (decide (x = "isinstance") && glB X.env.scope x && chks nm X.N X.env.scope es [a] && isiB X.env.scope ts t) = true := h
        obtain ⟨h1, h2, h3, h4⟩ := and4 h
        have h1 := of_decide_eq_true h1
        subst h1
        obtain ⟨_, l2, _⟩ := hs g [a] h3
        obtain ⟨e', rfl, he⟩ := l2 a rfl
        exact s_isi g (pl1 h3) he h2 h4
      | [a], [], h => exact one a rfl rfl h
      | [], _, h => exact ff h
      | [_], _ :: _, h => exact ff h
      | [_, _], _ :: _, h => exact ff h
      | _ :: _ :: _ :: _, _, h => exact ff h
    | lenSet =>
      match xs, kws, h with
      | [a], [], h =>
        cases a <;> first | exact one _ rfl rfl h | skip
        rename_i fu ys ks q2
        cases fu <;> first | exact one _ rfl rfl h | skip
        rename_i y q3
        match ys, ks, h with
        | [a], [], h =>
          have h : (decide (x = "len") && decide (y = "set") && glB X.env.scope x && glB X.env.scope y && chks nm X.N X.env.scope es [a]) = true := h
          obtain ⟨h1, h2, h3, h4, h5⟩ := and5 h
          have h1 := of_decide_eq_true h1
          have h2 := of_decide_eq_true h2
          subst h1 h2
          exact s_lenSet g h5 (hs g [a] h5).1 h3 h4
        | [], _, h => exact one _ rfl rfl h
        | [_], _ :: _, h => exact one _ rfl rfl h
        | _ :: _ :: _, _, h => exact one _ rfl rfl h
      | [], _, h => exact ff h
      | [a], _ :: _, h =>
        cases a <;> first | exact ff h | skip
        rename_i fu ys ks q2
        cases fu <;> first | exact ff h | skip
        match ys, ks, h with
        | [a], [], h => exact ff h
        | [], _, h => exact ff h
        | [_], _ :: _, h => exact ff h
        | _ :: _ :: _, _, h => exact ff h
      | a :: _ :: _, _, h =>
        cases a <;> first | exact ff h | skip
        rename_i fu ys ks q2
        cases fu <;> first | exact ff h | skip
        match ys, ks, h with
        | [a], [], h => exact ff h
        | [], _, h => exact ff h
        | [_], _ :: _, h => exact ff h
        | _ :: _ :: _, _, h => exact ff h
    | _ =>
      match xs, kws, h with
      | [a], [], h => exact one a rfl rfl h
      | [], _, h => exact ff h
      | [_], _ :: _, h => exact ff h
      | _ :: _ :: _, _, h => exact ff h
  obtain ⟨s, f, xs, ks, p, rfl⟩ := key
  exact ⟨s, pt_eq (s_truth g s fun _ => rfl) ct_bi, nb (by cases b <;> rfl)⟩
theorem snd_bm {b : Bm} {o es : E} (ho : SndE T P nm k o) (hs : SndL T P nm k es) : SndE T P nm k (.bm b o es) := fun {W X} g e h => by
  cases b with
  | append =>
    cases e <;> first | exact ff h | skip
    rename_i fu xs kws p
    cases fu <;> first | exact ff h | skip
    rename_i x m q
    match xs, kws, h with
    | [a], [], h =>
      have h : (decide (m = "append") && chk nm X.N X.env.scope o x && chks nm X.N X.env.scope es [a] && notSuper x && (q.endLine == p.line)) = true := h
      obtain ⟨h1, h2, h3, h4, h5⟩ := and5 h
      have h1 := of_decide_eq_true h1
      subst h1
      exact ⟨s_append g h3 h4 h5 (ho g x h2).1 (hs g [a] h3).1, pt_no rfl, nb rfl⟩
    | [], _, h => exact ff h
    | [_], _ :: _, h => exact ff h
    | _ :: _ :: _, _, h => exact ff h
  | pop =>
    cases e <;> first | exact ff h | skip
    rename_i fu xs kws p
    cases fu <;> first | exact ff h | skip
    rename_i x m q
    match xs, kws, h with
    | [], [], h =>
      have h : (decide (m = "pop") && chk nm X.N X.env.scope o x && chks nm X.N X.env.scope es [] && notSuper x && (q.endLine == p.line)) = true := h
      obtain ⟨h1, h2, h3, h4, h5⟩ := and5 h
      have h1 := of_decide_eq_true h1
      subst h1
      have e0 : es = .nil := by cases es <;> first | rfl | exact ff h3
      subst e0
      exact ⟨s_pop g h4 h5 (ho g x h2).1, pt_no rfl, nb rfl⟩
    | [], _ :: _, h => exact ff h
    | _ :: _, _, h => exact ff h
  | join =>
    cases e <;> first | exact ff h | skip
    rename_i fu xs kws p
    cases fu <;> first | exact ff h | skip
    rename_i x m q
    match xs, kws, h with
    | [a], [], h =>
      have h : (decide (m = "join") && chk nm X.N X.env.scope o x && chks nm X.N X.env.scope es [a] && notSuper x && (q.endLine == p.line)) = true := h
      obtain ⟨h1, h2, h3, h4, h5⟩ := and5 h
      have h1 := of_decide_eq_true h1
      subst h1
      obtain ⟨_, l2, _⟩ := hs g [a] h3
      obtain ⟨e', rfl, he⟩ := l2 a rfl
      exact ⟨s_join g (pl1 h3) h4 h5 (ho g x h2).1 he, pt_no rfl, nb rfl⟩
    | [], _, h => exact ff h
    | [_], _ :: _, h => exact ff h
    | _ :: _ :: _, _, h => exact ff h
  | dbl c =>
    cases es <;> first | (cases e <;> exact ff h) | skip
    cases e <;> first | exact ff h | skip
    rename_i fu xs kws p
    cases fu <;> first | exact ff h | skip
    rename_i x m q
    cases kws <;> first | exact ff h | skip
    have h : (decide (m = "replace") && dblB c xs && bumpy o x && chk nm X.N X.env.scope o x && notSuper x && (q.endLine == p.line)) = true := h
    obtain ⟨h1, h2, h4, h5, h6, h7⟩ := and6 h
    have h1 := of_decide_eq_true h1
    obtain ⟨ja, pa, jb, pb, rfl⟩ := dblB_inv h2
    subst h1
    have u : PEU X (.Call (.Attribute x "replace" q) [.Constant (.str ⟨#[c]⟩) ja pa, .Constant (.str ⟨#[c, c]⟩) jb pb] [] p) (tE T W (cE P k (.bm (.dbl c) o .nil))) :=
      peu_imp (peu_repl ((ho g x h5).2.2 h4) (dbl_ne c) (plain_sup h6) h7) (repl_ok (T := T) (W := W) (P := P) (k := k) (o' := o) (c := c))
    exact ⟨u.pe, pt_no rfl, fun _ => u⟩
end
end Ev
end

section
set_option Elab.async false
set_option linter.all false
set_option maxRecDepth 100000
/-! Every expression, the end. -/
namespace Ev
open PySem PySem.Spec PyProof.Rows L2
section
variable {T : Tb} {P : Pg} {nm : Nm} {k : Nat}
theorem snd_iter {W : WX} {X : Cx} (g : Gd T P nm k W X) {kk : SK} {src : E} (hs : SndL T P nm k src) {tg it : Expr} (h : chkI nm X.N X.env.scope kk src it = true) : PI X tg it (tI T W (cI P k kk src)) ∧ ∀ x, foldedSetIterable it X.env x = pure x := by
  cases kk with
  | val =>
    cases src with
    | cons e es =>
      cases es with
      | nil =>
        have h : (plainE it && chk nm X.N X.env.scope e it) = true := h
        have hc : chks nm X.N X.env.scope (.cons e .nil) [it] = true := by
          show (plainE it && chk nm X.N X.env.scope e it && true) = true
          rw [h]; rfl
        obtain ⟨a, ea, he⟩ := (hs g [it] hc).2.1 it rfl
        cases ea
        rw [Bool.and_eq_true] at h
        exact ⟨s_iterV g he, plain_fold h.1⟩
      | _ => exact ff h
    | _ => exact ff h
  | rng =>
    cases src with
    | cons e es =>
      cases it <;> first | exact ff h | skip
      rename_i fu xs ks p
      cases fu <;> first | exact ff h | skip
      rename_i y q
      match xs, ks, h with
      | x :: xs, [], h =>
        have h : (decide (y = "range") && glB X.env.scope y && plainE x && chk nm X.N X.env.scope e x && chks nm X.N X.env.scope es xs && decide (xs.length ≤ 1)) = true := h
        obtain ⟨h1, h2, h3, h4, h5, h6⟩ := and6 h
        have h1 := of_decide_eq_true h1
        subst h1
        have hc : chks nm X.N X.env.scope (.cons e es) (x :: xs) = true := by
          show (plainE x && chk nm X.N X.env.scope e x && chks nm X.N X.env.scope es xs) = true
          rw [h3, h4, h5]; rfl
        have ha := (hs g (x :: xs) hc).1
        refine ⟨?_, fun _ => rfl⟩
        match xs, of_decide_eq_true h6, hc, ha with
        | [], _, hc, ha => exact s_iterR1 g h2 hc ha
        | [b], _, hc, ha => exact s_iterR2 g h2 hc ha
      | [], _, h => exact ff h
      | _ :: _, _ :: _, h => exact ff h
    | _ => exact ff h
theorem comp_parts {m : Bool} {own : List Nat} {t : TN} {kk : SK} {src tst elt : E} (hs : SndL T P nm k src) (ht : SndE T P nm k tst) (he : SndE T P nm k elt) {W : WX} {X : Cx} (g : Gd T P nm k W X) {el : Expr} {gens : List Comprehension} {scope : Scope} {p : Pos}
    (h : chk nm X.N X.env.scope (.comp m own t kk src tst elt) (.ListComp el gens scope p) = true) : ∃ tg it ifs, gens = [⟨tg, it, ifs, 0⟩] ∧ t.inn own = true ∧ (own.all fun i => decide (i < X.N.length)) = true ∧ PI X tg it (tI T W (cI P k kk src)) ∧
      blkC X.N X.env.scope scope (own.filterMap fun i => (X.N[i]?).map fun x => (x, i)) = true ∧ Blk T P k X scope tg ifs el t tst elt ∧ ∀ x, foldedSetIterable it X.env x = pure x := by
  match gens, h with
  | [], h => exact ff h
  | _ :: _ :: _, h => exact ff h
  | [⟨tg, it, ifs, n⟩], h =>
      have hz : n = 0 := by
        refine of_decide_eq_true (p := n = 0) ?_
        have h0 : ∀ {b c : Bool}, (b && c) = true → b = true := fun {b c} h => by cases b <;> first | rfl | cases h
        exact h0 h
      subst hz
      refine ⟨tg, it, ifs, rfl, ?_⟩
      have pre : ∀ {b : Bool}, (blkC X.N X.env.scope scope (own.filterMap fun i => (X.N[i]?).map fun x => (x, i)) && (own.all fun i => decide (i < X.N.length)) && t.inn own && chkTN (fun x => scope.names.lookup x == some .cell) X.N (relS scope X.env.scope) t tg && chkI nm X.N X.env.scope kk src it && b && chk nm X.N (relS scope X.env.scope) elt el) = true →
          (∀ (s : Shared) (H : Hp) (C : Addr) (cl : List (Str × Addr)) (fp : List Addr), b = true → PTs (X.blk s H scope (compEnvC scope cl C X.env) fp) ifs (tT T WF (tstF P k tst))) → t.inn own = true ∧ (own.all fun i => decide (i < X.N.length)) = true ∧ PI X tg it (tI T W (cI P k kk src)) ∧
      blkC X.N X.env.scope scope (own.filterMap fun i => (X.N[i]?).map fun x => (x, i)) = true ∧ Blk T P k X scope tg ifs el t tst elt ∧ ∀ x, foldedSetIterable it X.env x = pure x := fun {b} h hp => by
        obtain ⟨h1, h2, h3, h4, h5, h6, h7⟩ := and7 h
        obtain ⟨hi, hf⟩ := snd_iter g hs h5 (tg := tg)
        refine ⟨h3, h2, hi, h1, ⟨fun s H C cl fp => ?_, fun s H C cl fp => hp s H C cl fp h6, fun s H C cl fp => ?_⟩, hf⟩
        · have gb := g.blk s H scope (compEnvC scope cl C X.env) fp
          exact (pg_of (X := X.blk s H scope (compEnvC scope cl C X.env) fp) (T := T) (fb := fun x => scope.names.lookup x == some .cell) gb.K gb.calm gb.nd (fun _ h => h) t).1 tg h4
        · exact (he (g.blk s H scope (compEnvC scope cl C X.env) fp) el h7).1
      match ifs, h with
      | [], h =>
          refine pre (b := noTest tst) h fun s H C cl fp hb => ?_
          refine ⟨fun pins s1 σ H1 Q I h => (pts_nil (X := X.blk s H scope (compEnvC scope cl C X.env) fp)).run pins s1 σ H1 Q I ?_⟩
          obtain ⟨w, σa, A, e, hA, hS, hP⟩ := h
          subst e
          have hP : Post T WF RB w σ (if noTest tst then .ok true A else cT P k tst σa A) Q := hP
          rw [hb, if_pos rfl] at hP
          exact hP.now hA rfl
      | [c], h =>
          refine pre (b := !noTest tst && chk nm X.N (relS scope X.env.scope) tst c) h fun s H C cl fp hb => ?_
          rw [Bool.and_eq_true, Bool.not_eq_true'] at hb
          have q := pts_one (ht (g.blk s H scope (compEnvC scope cl C X.env) fp) c hb.2).2.1
          refine ⟨fun pins s1 σ H1 Q I h => q.run pins s1 σ H1 Q I ?_⟩
          obtain ⟨w, σa, A, e, hA, hS, hP⟩ := h
          have hP : Post T WF RB w σ (if noTest tst then .ok true A else cT P k tst σa A) Q := hP
          rw [hb.1, if_neg Bool.false_ne_true] at hP
          exact ⟨w, σa, A, e, hA, hS, hP⟩
      | _ :: _ :: _, h =>
          have h := pre (b := false) h
          exact h fun _ _ _ _ _ z => by cases z
theorem snd_comp {m : Bool} {own : List Nat} {t : TN} {kk : SK} {src tst elt : E} (hs : SndL T P nm k src) (ht : SndE T P nm k tst) (he : SndE T P nm k elt) : SndE T P nm k (.comp m own t kk src tst elt) := fun {W X} g e h => by
  cases e <;> first | exact ff h | skip
  rename_i el gens scope p
  obtain ⟨tg, it, ifs, rfl, h1, h2, h3, h4, h5, h6⟩ := comp_parts hs ht he g h
  exact ⟨s_comp g h1 h2 h3 h4 h5 h6, pt_no rfl, nb rfl⟩
theorem snd_mkx {c : Nat} {fs ks : List Nat} {es : E} (hs : SndL T P nm k es) : SndE T P nm k (.mkx c fs ks es) := fun {W X} g e h => by
  cases e <;> first | exact ff h | skip
  rename_i fu xs kws p
  refine ⟨?_, pt_no rfl, nb rfl⟩
  cases fu <;> first | exact ff h | skip
  rename_i x q
  cases kws with
  | nil =>
    cases xs with
    | nil => exact ff h
    | cons y xs =>
      have h : (decide (nm.exc[c]? = some (x, fs)) && decide (ks = fs) && glB X.env.scope x && permB fs fs && chks nm X.N X.env.scope es (y :: xs)) = true := h
      obtain ⟨h1, h2, h3, h4, h5⟩ := and5 h
      have hp := chks_plain es (y :: xs) h5
      exact s_mkx g (of_decide_eq_true h1) (of_decide_eq_true h2) h4 h3 (hp y (by simp)) (star_any fun z hz => hp z (by simp [hz])) (hs g _ h5).1
  | cons kw kws =>
    cases xs with
    | cons _ _ => exact ff h
    | nil =>
      have h : (decide (nm.exc[c]? = some (x, fs)) && decide (ks.map (fun i => nm.fld[i]?) = (kw :: kws).map (·.arg)) && glB X.env.scope x && permB fs ks && (ks.all fun i => decide (i < nm.fld.length)) && chks nm X.N X.env.scope es ((kw :: kws).map (·.value))) = true := h
      obtain ⟨h1, h2, h3, h4, h5, h6⟩ := and6 h
      exact s_mkxK g (of_decide_eq_true h1) h4 (of_decide_eq_true h2) h5 h3 ((hs g _ h6).2.2.1 (kw :: kws) rfl)
theorem snd_isx {i : Nat} {ts : List Nat} {a : E} (ha : SndE T P nm k a) : SndE T P nm k (.isx i ts a) := fun {W X} g e h => by
  cases e <;> first | exact ff h | skip
  rename_i fu xs kws p
  cases fu <;> first | exact ff h | skip
  rename_i x q
  cases kws with
  | cons _ _ => exact ff (by revert h; rcases xs with _ | ⟨e, _ | ⟨y, _ | ⟨z, zs⟩⟩⟩ <;> first | exact id | (cases y <;> exact id))
  | nil =>
  cases xs with
  | nil => exact ff h
  | cons e xs =>
  cases xs with
  | nil => exact ff h
  | cons y xs =>
  cases xs with
  | cons _ _ => exact ff (by revert h; cases y <;> exact id)
  | nil =>
  cases y <;> first | exact ff h | skip
  rename_i y r
  have h : (decide (x = "isinstance") && glB X.env.scope x && decide (nm.isx[i]? = some (y, ts)) && glB X.env.scope y && chk nm X.N X.env.scope a e && plainE e && decide (y ≠ ("__name__" : Str))) = true := h
  obtain ⟨h1, h2, h3, h4, h5, h6, h7⟩ := and7 h
  have h1 := of_decide_eq_true h1
  subst h1
  have s := s_isx (p := q) (q := p) (r := r) g (of_decide_eq_true h3) h2 h4 (of_decide_eq_true h7) h6 (ha g e h5).1
  exact ⟨s, pt_eq (s_truth g s fun _ => rfl) ct_isx, nb rfl⟩
theorem snd : ∀ e' : E, SndE T P nm k e' ∧ SndL T P nm k e' ∧ SndO T P nm k e' := by
  have xl : ∀ {e' : E}, (∀ {N : List Str} {sc : Scope} (es : List Expr), chks nm N sc e' es = false) → (∀ {N : List Str} {sc : Scope} (x : Option Expr), chkO nm N sc e' x = false) → SndL T P nm k e' ∧ SndO T P nm k e' := fun h1 h2 => ⟨noL h1, noO h2⟩
  intro e'
  induction e' with
  | var i => exact ⟨snd_var i, xl (fun es => by cases es <;> rfl) (fun x => by cases x <;> rfl)⟩
  | con d => exact ⟨snd_con d, xl (fun es => by cases es <;> rfl) (fun x => by cases x <;> rfl)⟩
  | glo i => exact ⟨snd_glo i, xl (fun es => by cases es <;> rfl) (fun x => by cases x <;> rfl)⟩
  | nil => exact ⟨snd_nilE, snd_nilL, snd_nilO⟩
  | cons a b ha hb => exact ⟨snd_consE a b, snd_consL ha.1 hb.2.1, snd_consO ha.1⟩
  | tup es h => exact ⟨snd_tup h.2.1, xl (fun es => by cases es <;> rfl) (fun x => by cases x <;> rfl)⟩
  | lst m es h => exact ⟨snd_lst h.2.1, xl (fun es => by cases es <;> rfl) (fun x => by cases x <;> rfl)⟩
  | dnew => exact ⟨snd_dnew, xl (fun es => by cases es <;> rfl) (fun x => by cases x <;> rfl)⟩
  | dlit kvs => exact ⟨snd_dlit kvs, xl (fun es => by cases es <;> rfl) (fun x => by cases x <;> rfl)⟩
  | bin o a b ha hb => exact ⟨snd_bin ha.1 hb.1, xl (fun es => by cases es <;> rfl) (fun x => by cases x <;> rfl)⟩
  | cat m a b ha hb => exact ⟨snd_cat ha.1 hb.1, xl (fun es => by cases es <;> rfl) (fun x => by cases x <;> rfl)⟩
  | neg a ha => exact ⟨snd_neg ha.1, xl (fun es => by cases es <;> rfl) (fun x => by cases x <;> rfl)⟩
  | cmp o a b ha hb => exact ⟨snd_cmp ha.1 hb.1, xl (fun es => by cases es <;> rfl) (fun x => by cases x <;> rfl)⟩
  | isn n a ha => exact ⟨snd_isn ha.1, xl (fun es => by cases es <;> rfl) (fun x => by cases x <;> rfl)⟩
  | chain o p a b c ha hb hc => exact ⟨snd_chain ha.1 hb.1 hc.1, xl (fun es => by cases es <;> rfl) (fun x => by cases x <;> rfl)⟩
  | and es h => exact ⟨snd_and h.2.1, xl (fun es => by cases es <;> rfl) (fun x => by cases x <;> rfl)⟩
  | or es h => exact ⟨snd_or h.2.1, xl (fun es => by cases es <;> rfl) (fun x => by cases x <;> rfl)⟩
  | not a ha => exact ⟨snd_not ha.1, xl (fun es => by cases es <;> rfl) (fun x => by cases x <;> rfl)⟩
  | ite c a b hc ha hb => exact ⟨snd_ite hc.1 ha.1 hb.1, xl (fun es => by cases es <;> rfl) (fun x => by cases x <;> rfl)⟩
  | idx a i ha hi => exact ⟨snd_idx ha.1 hi.1, xl (fun es => by cases es <;> rfl) (fun x => by cases x <;> rfl)⟩
  | slc m a lo hi ha hl hh => exact ⟨snd_slc ha.1 hl.2.2 hh.2.2, xl (fun es => by cases es <;> rfl) (fun x => by cases x <;> rfl)⟩
  | att a f ha => exact ⟨snd_att ha.1, xl (fun es => by cases es <;> rfl) (fun x => by cases x <;> rfl)⟩
  | call f es h => exact ⟨snd_call h.2.1, xl (fun es => by cases es <;> rfl) (fun x => by cases x <;> rfl)⟩
  | mth c f o es ho h => exact ⟨snd_mth ho.1 h.2.1, xl (fun es => by cases es <;> rfl) (fun x => by cases x <;> rfl)⟩
  | mak c es h => exact ⟨snd_mak h.2.1, xl (fun es => by cases es <;> rfl) (fun x => by cases x <;> rfl)⟩
  | bi b es h => exact ⟨snd_bi h.2.1, xl (fun es => by cases es <;> rfl) (fun x => by cases x <;> rfl)⟩
  | bm b o es ho h => exact ⟨snd_bm ho.1 h.2.1, xl (fun es => by cases es <;> rfl) (fun x => by cases x <;> rfl)⟩
  | comp m own t kk src tst elt hs ht he => exact ⟨snd_comp hs.2.1 ht.1 he.1, xl (fun es => by cases es <;> rfl) (fun x => by cases x <;> rfl)⟩
  | mkx c fs ks es h => exact ⟨snd_mkx h.2.1, xl (fun es => by cases es <;> rfl) (fun x => by cases x <;> rfl)⟩
  | isx i ts a ha => exact ⟨snd_isx ha.1, xl (fun es => by cases es <;> rfl) (fun x => by cases x <;> rfl)⟩
end
end Ev
end

section
set_option Elab.async false
set_option linter.all false
set_option maxRecDepth 100000
/-! What an except clause hands back. -/
namespace Ev
open PySem PySem.Spec PyProof.Rows L2
def chkHI (nm : Nm) (v : Str) : HI → Expr → Bool
  | .fld f, .Attribute (.Name y _) n _ => decide (y = v) && decide (nm.fld[f]? = some n)
  | .txt s, .Constant (.str x) _ _ => decide (x = sT s)
  | _, _ => false
def chkHIs (nm : Nm) (v : Str) : List HI → List Expr → Bool
  | [], [] => true
  | x :: xs, e :: es => chkHI nm v x e && chkHIs nm v xs es
  | _, _ => false
def chkHE (nm : Nm) (sc : Scope) (v : Str) : HE → Expr → Bool
  | .one x, e => chkHI nm v x e
  | .tup xs, .Tuple es _ _ => chkHIs nm v xs es && decide (es.length ≤ 1000)
  | .isx i ts, .Call (.Name f _) [.Name u _, .Name y _] [] _ => decide (f = "isinstance") && decide (u = v) && decide (nm.isx[i]? = some (y, ts)) && glB sc "isinstance" && glB sc y && decide (y ≠ ("__name__" : Str))
  | _, _ => false
def parB (sc : Scope) (x y : Str) (px py : Pos) (va vb : Expr) : Bool := (match sc.kind with
  | .function => true
  | _ => false) && decide (sc.names.lookup x = some .local) && decide (sc.names.lookup y = some .local) && (py.line == px.line) && decide (x ≠ y) && (plainE va && plainE vb && !(foldedForSure 8 va && foldedForSure 8 vb)) && !(constantsAlone 8 va && constantsAlone 8 vb)
theorem sw_par {env : Env} {x y : Str} {px py pt : Pos} {kt k2 : Nat} {pt2 : Pos} {va vb : Expr} (h : parB env.scope x y px py va vb = true) :
    swappedStores [.Tuple [.Name x px, .Name y py] kt pt] (.Tuple [va, vb] k2 pt2) env = pure (some [x, y]) := by
  unfold parB at h
  obtain ⟨h1, h2, h3, h4, h5, h6, h7⟩ := and7 h
  obtain ⟨p1, p2, h6⟩ := and3 h6
  have hk : env.blockKind = .function := by
    unfold Env.blockKind
    split at h1
    · rename_i e
      rw [e]; rfl
    · cases h1
  have e1 : (env.kindOf x == some .local) = true := by
    have := of_decide_eq_true h2
    unfold Env.kindOf
    rw [this]; rfl
  have e2 : (env.kindOf y == some .local) = true := by
    have := of_decide_eq_true h3
    unfold Env.kindOf
    rw [this]; rfl
  have hxy : (y == x) = false := by simpa using Ne.symm (of_decide_eq_true h5)
  have s1 : ∀ {e : Expr}, plainE e = true → (match e with | .Starred .. => true | _ => false) = false := fun {e} h => by cases e <;> first | rfl | cases h
  have g6 : (foldedForSure 8 va && foldedForSure 8 vb) = false := by
    cases q : (foldedForSure 8 va && foldedForSure 8 vb) with
    | false => rfl
    | true => rw [q] at h6; cases h6
  have g7 : (constantsAlone 8 va && constantsAlone 8 vb) = false := by
    cases q : (constantsAlone 8 va && constantsAlone 8 vb) with
    | false => rfl
    | true => rw [q] at h7; cases h7
  have k0 : ((!(([Expr.Name x px, .Name y py]).length == 2 || ([Expr.Name x px, .Name y py]).length == 3) || ([va, vb]).length != ([Expr.Name x px, .Name y py]).length) || env.blockKind != .function) = false := by rw [hk]; rfl
  have k1 : ([va, vb].any fun e => match e with | .Starred .. => true | _ => false) = false := by
    simp only [List.any_cons, List.any_nil, s1 p1, s1 p2]; rfl
  have k2 : ([va, vb].all (foldedForSure 8)) = false := by
    simp only [List.all_cons, List.all_nil, Bool.and_true, g6]
  have k3 : ([va, vb].all (constantsAlone 8)) = false := by
    simp only [List.all_cons, List.all_nil, Bool.and_true, g7]
  have k4 : ([Expr.Name x px, .Name y py].filterMap fun e => match e with
    | .Name id pos => if env.kindOf id == some .local && pos.line == px.line then some id else none
    | _ => none) = [x, y] := by
    have hp : (px.line == px.line) = true := beq_self_eq_true _
    simp only [List.filterMap_cons, List.filterMap_nil, e1, e2, h4, hp, Bool.and_self, if_true]
  have k5 : (([x, y] : List Str).eraseDups).length = 2 := by
    simp [List.eraseDups, List.eraseDupsBy, List.eraseDupsBy.loop, hxy]
  unfold swappedStores
  have i0 : ∀ {α : Type} {c : Bool} {a b : α}, c = false → (if c = true then a else b) = b := fun {α c a b} h => by rw [h]; rfl
  dsimp only
  refine (i0 k0).trans ((i0 k1).trans ?_)
  generalize hG : List.filterMap _ [Expr.Name x px, Expr.Name y py] = ns
  have hns : ns = [x, y] := by
    rw [← hG]
    exact k4
  clear hG
  subst hns
  refine (i0 (c := ([x, y] : List Str).length != 2 || (([x, y] : List Str).eraseDups).length != 2) (by rw [k5]; rfl)).trans ((i0 k2).trans ((i0 k3).trans rfl))
section
variable {T : Tb} {P : Pg} {nm : Nm} {k : Nat} {W : WX} {X : Cx}
/-- the state in which a clause reads -/
def HSt (T : Tb) (w : Wd) (c : Nat) (fs : List (Nat × D)) (a : Addr) (i : Nat) (cls : Value) (d : Option Addr) (σ : L2.St) (H : Hp) : Prop :=
  ∃ (dd : Addr) (ws : List (Str × V)), w.H = H ∧ σ[i]? = some (some (V.ref a)) ∧ c < T.nx ∧ cls = .ref (T.xad c) ∧ d = some dd ∧ H dd = some (.xd ws) ∧ RFs T w fs ws
def tHI (T : Tb) (a : Addr) (i : Nat) (cls : Value) (d : Option Addr) (x : HI) : TE := fun σ H Q => ∃ (w : Wd) (c : Nat) (fs : List (Nat × D)) (r : D), HSt T w c fs a i cls d σ H ∧ evHI fs x = some r ∧ ∀ v, RD T w r v → Q v H
def tHIs (T : Tb) (a : Addr) (i : Nat) (cls : Value) (d : Option Addr) (xs : List HI) : TA := fun σ H Q => ∃ (w : Wd) (c : Nat) (fs : List (Nat × D)) (rs : List D), HSt T w c fs a i cls d σ H ∧ evHIs fs xs = some rs ∧ ∀ vs, RDs T w rs vs → Q vs H
def tHE (T : Tb) (a : Addr) (i : Nat) (cls : Value) (d : Option Addr) (h : HE) : TE := fun σ H Q => ∃ (w : Wd) (A : AH) (c : Nat) (fs : List (Nat × D)) (r : D), HSt T w c fs a i cls d σ H ∧ Abs T w A ∧ evHE c fs h = some r ∧
  ∀ w' v, Ext w w' → Abs T w' A → RD T w' r v → Q v w'.H
theorem hi_ok (g : Gd T P nm k W X) {i : Nat} {v : Str} (hi : X.N[i]? = some v) (hv : Vis X.env.scope v) (hd : (v == ("__debug__" : Str)) = false) (hd2 : (v == ("__classdict__" : Str)) = false)
    {a : Addr} {oe : Obj} {cls : Value} {d : Option Addr} {pn : List (Addr × Obj)} (hz : Zc cls d oe) (hf : ∃ vs, oe.data = .fields vs) : ∀ (h : HI) (e : Expr), chkHI nm v h e = true → PE (X.suite a ((a, oe) :: pn)) e (tHI T a i cls d h) ∧ plainE e = true := by
  intro h e ck
  cases h with
  | fld f =>
    cases e <;> first | (exact (by cases ck)) | skip
    rename_i o n p
    cases o <;> first | (exact (by cases ck)) | skip
    rename_i y q
    have ck : (decide (y = v) && decide (nm.fld[f]? = some n)) = true := ck
    rw [Bool.and_eq_true] at ck
    have c1 := of_decide_eq_true ck.1
    have c2 := of_decide_eq_true ck.2
    subst c1
    refine ⟨⟨fun pins s σ H Q I ⟨w, c, fs, r, ⟨dd, ws, e1, e2, e0, e3, e4, e5, e6⟩, e7, hq⟩ => ?_⟩, rfl⟩
    obtain ⟨⟨x, gs⟩, hc⟩ : ∃ z, nm.exc[c]? = some z := ⟨_, List.getElem?_eq_getElem (by rw [← g.nx]; exact e0)⟩
    obtain ⟨_, xf, no⟩ := g.xcl c x gs hc
    refine (pe_xf (X := X) (C := T.xad c) (n := n) xf (no f n c2) hz hf (pe_var (X := X.suite a ((a, oe) :: pn)) hi hv hd hd2)).run pins s σ H Q I ?_
    obtain ⟨u, u1, u2⟩ := rfs_get g.inj e6 (f := f) e7
    rw [(g.fl f n c2).2] at u1
    exact ⟨V.ref a, e2, rfl, e3, dd, ws, u, e4, e5, u1, hq u u2⟩
  | txt s =>
    cases e <;> first | (exact (by cases ck)) | skip
    rename_i cc j p
    cases cc <;> first | (exact (by cases ck)) | skip
    rename_i t
    have ck : t = sT s := of_decide_eq_true ck
    subst ck
    refine ⟨pe_imp (pe_str (X := X.suite a ((a, oe) :: pn))) fun σ H Q ⟨w, c, fs, r, hs, e7, hq⟩ => ?_, rfl⟩
    cases e7
    exact hq _ (by rw [RD])
theorem his_ok (g : Gd T P nm k W X) {i : Nat} {v : Str} (hi : X.N[i]? = some v) (hv : Vis X.env.scope v) (hd : (v == ("__debug__" : Str)) = false) (hd2 : (v == ("__classdict__" : Str)) = false)
    {a : Addr} {oe : Obj} {cls : Value} {d : Option Addr} {pn : List (Addr × Obj)} (hz : Zc cls d oe) (hf : ∃ vs, oe.data = .fields vs) : ∀ (hs : List HI) (es : List Expr), chkHIs nm v hs es = true → PA (X.suite a ((a, oe) :: pn)) es (tHIs T a i cls d hs)
  | [], [], _ => pa_imp pa_nil fun σ H Q ⟨w, c, fs, rs, hs, e7, hq⟩ => by
    cases e7
    exact hq [] (by rw [RDs])
  | [], _ :: _, h => by cases h
  | _ :: _, [], h => by cases h
  | h :: hs, e :: es, ck => by
    have ck : (chkHI nm v h e && chkHIs nm v hs es) = true := ck
    rw [Bool.and_eq_true] at ck
    obtain ⟨p1, p2⟩ := hi_ok g hi hv hd hd2 hz hf h e ck.1
    refine pa_imp (pa_cons p1 (his_ok g hi hv hd hd2 hz hf hs es ck.2) (plain_star p2)) fun σ H Q ⟨w, c, fs, rs, st, e7, hq⟩ => ?_
    have e7 : (match evHI fs h, evHIs fs hs with
      | some d, some ds => some (d :: ds)
      | _, _ => none) = some rs := e7
    cases h1 : evHI fs h with
    | none => rw [h1] at e7; cases e7
    | some r =>
      cases h2 : evHIs fs hs with
      | none => rw [h1, h2] at e7; cases e7
      | some rr =>
        rw [h1, h2] at e7
        cases e7
        exact ⟨w, c, fs, r, st, h1, fun u ru => ⟨w, c, fs, rr, st, h2, fun us rus => hq _ (RDs.cons ru rus)⟩⟩
/-- isinstance of the error that the suite holds -/
def rIsH (K : PySem.W.Frag) (a : Addr) (cls : Value) (d : Option Addr) : List V → Hp → VK → Prop := fun xs H Q => ∃ (C dd : Addr) (ws : List (Str × V)) (c : V) (u : Value) (b : Bool), xs = [.ref a, c] ∧ cls = .ref C ∧ d = some dd ∧ H dd = some (.xd ws) ∧ ExcC K C ∧ ClsV c u ∧ PySem.W.kitOne K (.ref C) u = some b ∧ Q (.bl b) H
theorem call_isH {a : Addr} {oe : Obj} {cls : Value} {d : Option Addr} {pn : List (Addr × Obj)} (hz : Zc cls d oe) (hf : ∃ vs, oe.data = .fields vs) : CallR (X.suite a ((a, oe) :: pn)) (.builtin "isinstance") (rIsH X.K a cls d) := by
  intro pins s σ H xs us Q I r h
  obtain ⟨C, dd, ws, c, u, b, rfl, ec, ed, e2, E, hc, hk, q⟩ := h
  obtain ⟨u1, u2, rfl, r1, r2⟩ := vals2 r
  have e3 := hc.eq r2
  subst e3
  obtain rfl : u1 = Value.ref a := r1
  subst ec
  subst ed
  obtain ⟨ha, _⟩ := I.pin (a, oe) (List.mem_append_left _ List.mem_cons_self)
  obtain ⟨vs, hd⟩ := hf
  have hx : ObjOk X.prog X.w H s.heap dd (.xd ws) := I.hok dd _ e2
  obtain ⟨mA, hns, hr⟩ := hx
  obtain ⟨od, ho, hl⟩ := lookIn_ns hns
  have J : PySem.W.InstAt s.heap a oe C (some od) := ⟨ha, hz.1, by unfold PySem.W.notCls; rw [hd] <;> rfl, by rw [hz.2]; exact ho⟩
  obtain ⟨cd, hcd, _⟩ := PySem.W.any_some E.hd
  exact PySem.W.kia_one (PySem.W.kitx_exc (by rw [hcd]; rfl) E.hg E.hk E.hs E.ha E.hn E.ht E.hm) I.kIn J hk (fun z => nomatch z) fun tk => ⟨.bl b, H, I.tok tk, rfl, q⟩
theorem evHIs_len {fs : List (Nat × D)} : ∀ {xs : List HI} {rs : List D}, evHIs fs xs = some rs → rs.length = xs.length
  | [], rs, h => by cases h; rfl
  | x :: xs, rs, h => by
    have h : (match evHI fs x, evHIs fs xs with
      | some d, some ds => some (d :: ds)
      | _, _ => none) = some rs := h
    cases h1 : evHI fs x with
    | none => rw [h1] at h; cases h
    | some r =>
      cases h2 : evHIs fs xs with
      | none => rw [h1, h2] at h; cases h
      | some rr =>
        rw [h1, h2] at h
        cases h
        simp [evHIs_len h2]
theorem chkHIs_len {v : Str} : ∀ {xs : List HI} {es : List Expr}, chkHIs nm v xs es = true → xs.length = es.length
  | [], [], _ => rfl
  | [], _ :: _, h => by cases h
  | _ :: _, [], h => by cases h
  | x :: xs, e :: es, h => by
    have h : (chkHI nm v x e && chkHIs nm v xs es) = true := h
    rw [Bool.and_eq_true] at h
    simp [chkHIs_len h.2]
theorem he_ok (g : Gd T P nm k W X) {i : Nat} {v : Str} (hi : X.N[i]? = some v) (hv : Vis X.env.scope v) (hd : (v == ("__debug__" : Str)) = false) (hd2 : (v == ("__classdict__" : Str)) = false)
    {a : Addr} {oe : Obj} {cls : Value} {d : Option Addr} {pn : List (Addr × Obj)} (hz : Zc cls d oe) (hf : ∃ vs, oe.data = .fields vs) : ∀ (h : HE) (e : Expr), chkHE nm X.env.scope v h e = true → PE (X.suite a ((a, oe) :: pn)) e (tHE T a i cls d h) := by
  intro h e ck
  cases h with
  | one y =>
    have ck : chkHI nm v y e = true := by cases e <;> exact ck
    refine pe_imp (hi_ok g hi hv hd hd2 hz hf y e ck).1 fun σ H Q ⟨w, A, c, fs, r, st, hA, e7, hq⟩ => ⟨w, c, fs, r, st, e7, fun u ru => ?_⟩
    obtain ⟨dd, ws, e1, _⟩ := st
    subst e1
    exact hq w u (Ext.refl w) hA ru
  | tup xs =>
    cases e <;> first | (exact (by cases ck)) | skip
    rename_i es j p
    have ck : (chkHIs nm v xs es && decide (es.length ≤ 1000)) = true := ck
    rw [Bool.and_eq_true] at ck
    refine pe_imp (pe_tup (his_ok g hi hv hd hd2 hz hf xs es ck.1)) fun σ H Q ⟨w, A, c, fs, r, st, hA, e7, hq⟩ => ?_
    have e7 : (evHIs fs xs).map D.tup = some r := e7
    obtain ⟨rs, e8, e9⟩ := Option.map_eq_some_iff.mp e7
    subst e9
    refine ⟨w, c, fs, rs, st, e8, fun us rus => ⟨?_, fun p hp => ?_⟩⟩
    · rw [← rus.length, evHIs_len e8, chkHIs_len ck.1]
      exact small (of_decide_eq_true ck.2)
    · obtain ⟨dd, ws, e1, _⟩ := st
      subst e1
      refine new_tup (σ := []) (W := fun _ _ _ _ => False) hA hp rus fun w' v e a q => hq w' v e a q
  | isx j ts =>
    cases e <;> first | (exact (by cases ck)) | skip
    rename_i fu xs kws q
    cases fu <;> first | (exact (by cases ck)) | skip
    rename_i f p
    cases kws with
    | cons _ _ => exact absurd ck (by rcases xs with _ | ⟨e, _ | ⟨y, _ | ⟨z, zs⟩⟩⟩ <;> first | (exact Bool.false_ne_true) | (cases e <;> first | (exact Bool.false_ne_true) | (cases y <;> exact Bool.false_ne_true)))
    | nil =>
    rcases xs with _ | ⟨e, _ | ⟨y, _ | ⟨z, zs⟩⟩⟩
    · exact absurd ck Bool.false_ne_true
    · exact absurd ck (by cases e <;> exact Bool.false_ne_true)
    · cases e <;> first | (exact absurd ck Bool.false_ne_true) | skip
      rename_i u r
      cases y <;> first | (exact absurd ck Bool.false_ne_true) | skip
      rename_i y r2
      have ck : (decide (f = "isinstance") && decide (u = v) && decide (nm.isx[j]? = some (y, ts)) && glB X.env.scope "isinstance" && glB X.env.scope y && decide (y ≠ ("__name__" : Str))) = true := ck
      simp only [Bool.and_eq_true] at ck
      obtain ⟨⟨⟨⟨⟨h1, h2⟩, h3⟩, h4⟩, h5⟩, h6⟩ := ck
      have h1 := of_decide_eq_true h1
      have h2 := of_decide_eq_true h2
      subst h1
      subst h2
      obtain ⟨cv, uu, hcl, hr, hm, hk⟩ := g.isx j y ts (of_decide_eq_true h3)
      have hn : PE (X.suite a ((a, oe) :: pn)) (.Name y r2) (tC cv) := by
        rcases hm with hm | ⟨hm, hb⟩
        · exact pe_glob (X := X.suite a ((a, oe) :: pn)) (gl_of h5).1 hm hr (gl_of h5).2
        · exact pe_bltn (X := X.suite a ((a, oe) :: pn)) (gl_of h5).1 hm hb hr (of_decide_eq_true h6) (gl_of h5).2
      refine pe_imp (pe_callB (X := X.suite a ((a, oe) :: pn)) (call_isH (X := X) hz hf) (gl_of h4).1 g.no PyProof.Rows.boot_isinstance (pa_cons (pe_var (X := X.suite a ((a, oe) :: pn)) hi hv hd hd2) (pa_cons hn pa_nil rfl) rfl) (by decide) (by decide) rfl rfl) fun σ H Q ⟨w, A, c, fs, r0, st, hA, e7, hq⟩ => ?_
      cases e7
      obtain ⟨dd, ws, e1, e2, e0, e3, e4, e5, e6⟩ := st
      subst e1
      have hlt : c < nm.exc.length := by rw [← g.nx]; exact e0
      refine ⟨V.ref a, e2, T.xad c, dd, ws, cv, uu, _, rfl, e3, e4, e5, by rw [g.K]; exact (g.xo c hlt).2.1, hcl, hk c hlt, hq w _ (Ext.refl w) hA rd_bl'⟩
    · exact absurd ck (by cases e <;> first | (exact Bool.false_ne_true) | (cases y <;> exact Bool.false_ne_true))
end
end Ev
end

section
set_option Elab.async false
set_option linter.all false
set_option maxRecDepth 100000
/-! Statements. -/
namespace Ev
open PySem PySem.Spec PyProof.Rows L2
/-- what follows a statement's outcome -/
def PostS (T : Tb) (W : WX) (w : Wd) (r : SR) (D : Ends) : Prop :=
  match r with
  | .ok .nx σa A => ∀ w' σ, Ext w w' → Abs T w' A → RS T w' σa σ → D.nx σ w'.H
  | .ok (.rt d) σa A => ∀ w' v, Ext w w' → Abs T w' A → RD T w' d v → D.rt v w'.H
  | .ok .bk σa A => ∀ w' σ, Ext w w' → Abs T w' A → RS T w' σa σ → D.bk σ w'.H
  | .ok .ct σa A => ∀ w' σ, Ext w w' → Abs T w' A → RS T w' σa σ → D.ct σ w'.H
  | .ex c fs σa A => ∀ w' σ dx ws, Ext w w' → Abs T w' A → RS T w' σa σ → w'.H dx = some (.xd ws) → RFs T w' fs ws → W (.ref (T.xad c)) (some dx) σ w'.H
  | .no => False
section
variable {T : Tb} {W : WX} {w w1 : Wd} {D D' : Ends}
theorem PostS.later {r : SR} (e : Ext w w1) (h : PostS T W w r D) : PostS T W w1 r D := by
  cases r with
  | no => exact h
  | ex c fs σa A => exact fun w' σ dx ws e' a s q x => h w' σ dx ws (e.trans e') a s q x
  | ok f σa A =>
    cases f with
    | nx => exact fun w' σ e' a s => h w' σ (e.trans e') a s
    | rt d => exact fun w' v e' a s => h w' v (e.trans e') a s
    | bk => exact fun w' σ e' a s => h w' σ (e.trans e') a s
    | ct => exact fun w' σ e' a s => h w' σ (e.trans e') a s
/-- an expression ahead -/
theorem PostS.bind {α β : Type} {R : Wd → α → β → Prop} {σa : Sl} {σ : L2.St} {r : Rs α} {f : α → AH → SR} {Q : β → Hp → Prop} (h : PostS T W w (bindS σa r f) D) (hS : RS T w σa σ)
    (k : ∀ w1 d v A, Ext w w1 → Abs T w1 A → R w1 d v → r = .ok d A → PostS T W w1 (f d A) D → Q v w1.H) : Post T W R w σ r Q := by
  cases r with
  | ok d A => exact fun w' v e a q => k w' d v A e a q rfl (PostS.later e h)
  | ex c fs A => exact fun w' dx ws e a q x => h w' σ dx ws e a (hS.mono e) q x
  | no => exact h
theorem PostS.nx {σa : Sl} {σ : L2.St} {A : AH} (h : PostS T W w (.ok .nx σa A) D) (a : Abs T w A) (r : RS T w σa σ) : D.nx σ w.H := h w σ (Ext.refl w) a r
/-- the reading of a statement -/
def tS (T : Tb) (W : WX) (f : Sl → AH → SR) : TS := fun D σ H => ∃ (w : Wd) (σa : Sl) (A : AH), w.H = H ∧ Abs T w A ∧ RS T w σa σ ∧ PostS T W w (f σa A) D
theorem ps_imp {X : Cx} {st : Stmt} {t t' : TS} (h : PS X st t) (k : ∀ D σ H, t' D σ H → t D σ H) : PS X st t' := ⟨fun pins s σ H D I q => h.run pins s σ H D I (k D σ H q)⟩
theorem pss_imp {X : Cx} {st : List Stmt} {t t' : TS} (h : PSs X st t) (k : ∀ D σ H, t' D σ H → t D σ H) : PSs X st t' := ⟨fun pins s σ H D I q => h.run pins s σ H D I (k D σ H q)⟩
theorem ps_or {X : Cx} {st : Stmt} {t t' : TS} (h : PS X st t) (h' : PS X st t') : PS X st (fun D σ H => t D σ H ∨ t' D σ H) := ⟨fun pins s σ H D I q => q.elim (h.run pins s σ H D I) (h'.run pins s σ H D I)⟩
end

/-! ### the checker -/
def notLc : Expr → Bool
  | .ListComp _ _ _ _ => false
  | .SetComp _ _ _ _ => false
  | .DictComp _ _ _ _ _ => false
  | _ => true
def notTup : Expr → Bool
  | .Tuple _ _ _ => false
  | _ => true
/-- a comprehension that is stored at a name on its line -/
def lcOk (sc : Scope) (y : Str) (py : Pos) : Expr → Bool
  | .ListComp _ _ s p => (match sc.kind with | .function => true | _ => false) && decide (sc.names.lookup y = some .local) && (py.line == p.line) && !(s.names.any fun (n, k) => n == y && (k == .local || k == .cell))
  | _ => false
/-- x, y = a, b with plain names: stored from the right -/
def par2 (nm : Nm) (N : List Str) (sc : Scope) : TN → E → Expr → Expr → Bool
  | .cons (.nm i) (.cons (.nm j) .nil), .tup es, .Tuple [.Name a pa, .Name b pb] _ _, .Tuple [va, vb] _ _ => decide (i ≠ j) && decide (N[i]? = some a) && decide (N[j]? = some b) && parB sc a b pa pb va vb && chks nm N sc es [va, vb]
  | _, _, _, _ => false
section
variable (nm : Nm) (N : List Str) (fb : Str → Bool) (sc : Scope)
mutual
def chkS : S → Stmt → Bool
  | .pass, .Pass _ => true
  | .ex e, .Expr x _ => notLc x && chk nm N sc e x
  | .asg (.nm i) e, .Assign ts x _ => (match ts with
    | [.Name y py] => decide (N[i]? = some y) && (decide (sc.names.lookup y = some .local) || (decide (sc.names.lookup y = some .cell) && fb y)) && chk nm N sc e x && (notLc x || lcOk sc y py x)
    | _ => false)
  | .asg (.tp t) e, .Assign ts x _ => (match ts with
    | [tg] => chkTN fb N sc (.tp t) tg && chk nm N sc e x && notLc x && (notTup x || par2 nm N sc t e tg x)
    | _ => false)
  | .seti o i e, .Assign ts x _ => (match ts with
    | [.Subscript l r _] => plainE r && chk nm N sc o l && chk nm N sc i r && chk nm N sc e x
    | _ => false)
  | .seta o f e, .Assign ts x _ => (match ts with
    | [.Attribute l n _] => decide (nm.fld[f]? = some n) && chk nm N sc o l && chk nm N sc e x
    | _ => false)
  | .ret e, .Return (some x) _ => chk nm N sc e x
  | .ret0, .Return none _ => true
  | .ite c a b, .If t xs ys _ => chk nm N sc c t && chkB a xs && chkB b ys
  | .whl c b, .While t xs [] _ => chk nm N sc c t && chkB b xs
  | .fr t k src b, .For tg it xs [] _ => chkTN fb N sc t tg && chkI nm N sc k src it && chkB b xs
  | .brk, .Break _ => true
  | .cnt, .Continue _ => true
  | .raise c fs es, .Raise (some (.Call (.Name x _) (e :: xs) [] _)) none _ => decide (nm.exc[c]? = some (x, fs)) && glB sc x && chks nm N sc es (e :: xs) && decide (xs.length ≤ 900)
  | .tryr b n hs, .Try body [.ExceptHandler (some (.Name x _)) (some v) [.Return (some e) _] _] [] [] _ => (match hs with
    | [(c, i, h)] => decide (n = nm.exc.length) && (decide ((nm.exc[c]?).map (·.1) = some x) || (decide (c = n) && decide (x ∈ nm.base))) && glB sc x && decide (N[i]? = some v) && decide (sc.names.lookup v = some .local) && (!(v == ("__debug__" : Str)) && !(v == ("__classdict__" : Str)) && chkHE nm sc v h e) && chkB b body
    | _ => false)
  | .bad, _ => true
  | _, _ => false
def chkB : S → List Stmt → Bool
  | .pass, [] => true
  | .seq a b, st :: r => chkS a st && chkB b r
  | _, _ => false
end
end
theorem sw_sub {value : Expr} {o i : Expr} {p : Pos} {l : Nat} {env : Env} : swapsWith value (some (.Subscript o i p)) l env = pure false := by cases value <;> rfl
theorem sw_att {value : Expr} {o : Expr} {f : Str} {p : Pos} {l : Nat} {env : Env} : swapsWith value (some (.Attribute o f p)) l env = pure false := by cases value <;> rfl
theorem sw_no {value : Expr} {t : Option Expr} {l : Nat} {env : Env} (h : notLc value = true) : swapsWith value t l env = pure false := by cases value <;> first | rfl | cases h
section
variable {T : Tb} {P : Pg} {nm : Nm} {k : Nat} {W : WX} {X : Cx} {fb : Str → Bool}
abbrev cS (P : Pg) (k : Nat) (s : S) : Sl → AH → SR := evS (callF P k) P.glob s
theorem st_pass {p : Pos} : PS X (.Pass p) (tS T W (cS P k .pass)) := by
  refine ps_imp ps_pass fun D σ H ⟨w, σa, A, e, hA, hS, hP⟩ => ?_
  subst e
  have hP : PostS T W w (.ok .nx σa A) D := hP
  exact hP.nx hA hS
theorem st_nil : PSs X [] (tS T W (cS P k .pass)) := by
  refine pss_imp pss_nil fun D σ H ⟨w, σa, A, e, hA, hS, hP⟩ => ?_
  subst e
  have hP : PostS T W w (.ok .nx σa A) D := hP
  exact hP.nx hA hS
theorem st_seq {a b : S} {st : Stmt} {r : List Stmt} (h1 : PS X st (tS T W (cS P k a))) (h2 : PSs X r (tS T W (cS P k b))) : PSs X (st :: r) (tS T W (cS P k (.seq a b))) := by
  refine pss_imp (pss_cons h1 h2) fun D σ H ⟨w, σa, A, e, hA, hS, hP⟩ => ?_
  subst e
  have hP : PostS T W w (match cS P k a σa A with
    | .ok .nx σ1 H1 => cS P k b σ1 H1
    | r => r) D := hP
  refine ⟨w, σa, A, rfl, hA, hS, ?_⟩
  revert hP
  cases cS P k a σa A with
  | no => exact fun h => h
  | ex c fs σ1 A1 => exact fun h => h
  | ok f σ1 A1 =>
    cases f with
    | nx => exact fun h w' σ2 e a s => ⟨w', σ1, A1, rfl, a, s, PostS.later e h⟩
    | rt d => exact fun h => h
    | bk => exact fun h => h
    | ct => exact fun h => h
theorem st_ex {e' : E} {e : Expr} {p : Pos} (hn : notLc e = true) (h : PE X e (tE T W (cE P k e'))) : PS X (.Expr e p) (tS T W (cS P k (.ex e'))) := by
  refine ps_imp (ps_expr h (sw_no hn)) fun D σ H ⟨w, σa, A, e, hA, hS, hP⟩ => ?_
  subst e
  have hP : PostS T W w (bindS σa (cE P k e' σa A) fun _ H1 => .ok .nx σa H1) D := hP
  exact ⟨w, σa, A, rfl, hA, hS, hP.bind hS fun w1 d v A1 e1 a1 r1 _ h1 => h1.nx a1 (hS.mono e1)⟩
theorem asg_ok {i : Nat} {e' : E} {te : TE} (σ : L2.St) (H : Hp) (D : Ends) (hte : ∀ σ H Q, tE T W (cE P k e') σ H Q → te σ H Q) (h : tS T W (cS P k (.asg (.nm i) e')) D σ H) : tAsg te (gName i) D σ H := by
  obtain ⟨w, σa, A, e, hA, hS, hP⟩ := h
  subst e
  have hP : PostS T W w (bindS σa (cE P k e' σa A) fun d H1 => .ok .nx (σa.set i (some d)) H1) D := hP
  exact hte _ _ _ ⟨w, σa, A, rfl, hA, hS, hP.bind hS fun w1 d v A1 e1 a1 r1 _ h1 => h1.nx a1 ((hS.mono e1).set r1)⟩
theorem st_asgN (g : Gd T P nm k W X) {i : Nat} {e' : E} {e : Expr} {y : Str} {py p : Pos} (hy : X.N[i]? = some y) (hl : Loc X.env.scope y ∧ (X.fn y = true ∨ X.env.scope.names.lookup y = some .local)) (hn : notLc e = true) (h : PE X e (tE T W (cE P k e'))) :
    PS X (.Assign [.Name y py] e p) (tS T W (cS P k (.asg (.nm i) e'))) :=
  ps_imp (ps_set g.nd hy hl.1 h (sw_no hn) hl.2) fun D σ H q => asg_ok σ H D (fun _ _ _ z => z) q
theorem st_asgC (g : Gd T P nm k W X) {i : Nat} {m : Bool} {own : List Nat} {t : TN} {kk : SK} {src tst elt : E} {tg it el : Expr} {ifs : List Expr} {scope : Scope} {y : Str} {py pos p : Pos} (hy : X.N[i]? = some y) (hl : lcOk X.env.scope y py (.ListComp el [⟨tg, it, ifs, 0⟩] scope pos) = true)
    (hown : t.inn own = true) (hr : (own.all fun i => decide (i < X.N.length)) = true) (hi : PI X tg it (tI T W (cI P k kk src))) (ok : blkC X.N X.env.scope scope (own.filterMap fun i => (X.N[i]?).map fun x => (x, i)) = true) (b : Blk T P k X scope tg ifs el t tst elt) (hs : ∀ x, foldedSetIterable it X.env x = pure x) :
    PS X (.Assign [.Name y py] (.ListComp el [⟨tg, it, ifs, 0⟩] scope pos) p) (tS T W (cS P k (.asg (.nm i) (.comp m own t kk src tst elt)))) := by
  have hl : ((match X.env.scope.kind with | .function => true | _ => false) && decide (X.env.scope.names.lookup y = some .local) && (py.line == pos.line) && !(scope.names.any fun (n, k) => n == y && (k == .local || k == .cell))) = true := hl
  obtain ⟨h1, h2, h3, h4⟩ := and4 hl
  have hk : X.env.scope.kind = .function := by
    split at h1
    · assumption
    · cases h1
  refine ps_imp (ps_setLc g.calm g.nd hy (of_decide_eq_true h2) (sw_true hk (of_decide_eq_true h2) h3 (by simpa using h4)) hi (blkOk_by ok) b.hg b.ht b.he hs) fun D σ H q => asg_ok σ H D (fun σ H Q z => ?_) q
  rw [own_map hr]
  exact tlc_of g hown z
theorem st_asgT (g : Gd T P nm k W X) {t : TN} {e' : E} {e : Expr} {es : List Expr} {j : Nat} {q p : Pos} (hg : PG X (.Tuple es j q) (gDV T t)) (hn : notLc e = true) (ht : notTup e = true) (h : PE X e (tE T W (cE P k e'))) :
    PS X (.Assign [.Tuple es j q] e p) (tS T W (cS P k (.asg (.tp t) e'))) := by
  have h1 : swappedStores [.Tuple es j q] e X.env = pure none := by cases e <;> first | rfl | cases ht
  have h2 : swapsWithSole [.Tuple es j q] e p.line X.env = pure false := by cases e <;> first | rfl | cases hn
  refine ps_imp (ps_asg h hg h2 h1) fun D σ H ⟨w, σa, A, e, hA, hS, hP⟩ => ?_
  subst e
  have hP : PostS T W w (bindS σa (cE P k e' σa A) fun d H1 => match setT (.tp t) (view H1 d) σa with
    | some σ1 => .ok .nx σ1 H1
    | none => .no) D := hP
  refine ⟨w, σa, A, rfl, hA, hS, hP.bind hS fun w1 d v A1 e1 a1 r1 _ h1 => ?_⟩
  cases hs : setT (.tp t) (view A1 d) σa with
  | none => rw [hs] at h1; exact h1.elim
  | some σb =>
    rw [hs] at h1
    refine ⟨w1, σa, σb, view A1 d, rfl, hS.mono e1, ?_, hs, fun σ' hS' _ => h1.nx a1 hS'⟩
    cases hv : view A1 d with
    | lst xs =>
      obtain ⟨a, vs, q1, q2, q3⟩ := view_lst a1 r1 hv
      exact .inr ⟨a, xs, vs, rfl, q1, q2, q3⟩
    | tup xs => rw [view_tup hv] at r1; exact .inl r1
    | _ => rw [hv] at hs; cases (show (none : Option Sl) = some σb from hs)
theorem st_par (g : Gd T P nm k W X) {i j : Nat} {es' : E} {a b : Str} {va vb : Expr} {pa pb pt pt2 pos : Pos} {kt k2} (hij : i ≠ j) (hi : X.N[i]? = some a) (hj : X.N[j]? = some b) (hp : parB X.env.scope a b pa pb va vb = true) (h : PA X [va, vb] (tA T W (cA P k es'))) :
    PS X (.Assign [.Tuple [.Name a pa, .Name b pb] kt pt] (.Tuple [va, vb] k2 pt2) pos) (tS T W (cS P k (.asg (.tp (.cons (.nm i) (.cons (.nm j) .nil))) (.tup es')))) := by
  have hp' := hp
  unfold parB at hp'
  obtain ⟨_, hx, hy, _⟩ := and7 hp'
  refine ps_imp (ps_par g.calm g.nd hi hj hij (of_decide_eq_true hx) (of_decide_eq_true hy) h (sw_par hp)) fun D σ H ⟨w, σa, A, e, hA, hS, hP⟩ => ?_
  subst e
  have hP : PostS T W w (bindS σa (bindR (cA P k es' σa A) fun ds H1 => .ok (.tup ds) H1) fun d H1 => match setT (.tp (.cons (.nm i) (.cons (.nm j) .nil))) (view H1 d) σa with
    | some σ1 => .ok .nx σ1 H1
    | none => .no) D := hP
  refine ⟨w, σa, A, rfl, hA, hS, ?_⟩
  revert hP
  cases cA P k es' σa A with
  | no => exact fun h => h
  | ex c fs B => exact fun h w' dx ws e a q x => h w' σ dx ws e a (hS.mono e) q x
  | ok ds B =>
    intro hP w1 vs e1 a1 r1
    have hP : PostS T W w (match setTs (.cons (.nm i) (.cons (.nm j) .nil)) ds σa with
      | some σ1 => .ok .nx σ1 B
      | none => .no) D := hP
    match ds, r1, hP with
    | [], _, hP => exact hP.elim
    | [_], _, hP => exact hP.elim
    | _ :: _ :: _ :: _, _, hP => exact hP.elim
    | [d1, d2], r1, hP =>
      rw [RDs] at r1
      obtain ⟨v1, us, rfl, q1, r1⟩ := r1
      rw [RDs] at r1
      obtain ⟨v2, us, rfl, q2, r1⟩ := r1
      rw [RDs] at r1
      subst r1
      have hP : PostS T W w (.ok .nx ((σa.set i (some d1)).set j (some d2)) B) D := hP
      exact ⟨v1, v2, rfl, hP w1 _ e1 a1 (((hS.mono e1).set q1).set q2)⟩
theorem sub_each {o i : Expr} {q : Pos} {env : Env} : (assignEach [.Subscript o i q] env).map (·.2) = [assign (.Subscript o i q) env] := rfl
/-- o[i] = e, a list -/
theorem st_seti (g : Gd T P nm k W X) {o' i' e' : E} {o i e : Expr} {q p : Pos} (hp : plainE i = true) (ho : PE X o (tE T W (cE P k o'))) (hi : PE X i (tE T W (cE P k i'))) (he : PE X e (tE T W (cE P k e'))) :
    PS X (.Assign [.Subscript o i q] e p) (tS T W (cS P k (.seti o' i' e'))) := by
  have hu := g.room.units
  have h1 : swappedStores [.Subscript o i q] e X.env = pure none := by cases e <;> rfl
  have h2 : swapsWithSole [.Subscript o i q] e p.line X.env = pure false := by cases e <;> rfl
  have h3 : ∀ v, assign (.Subscript o i q) X.env v = (do
      let ov ← holding [v] (eval o X.env)
      let iv ← holding [v, ov] (eval i X.env)
      standAt q
      holding [v, ov, iv] (setItem ov iv v)
      release [v, ov, iv] []) := by
    intro v
    cases i <;> first | rfl | cases hp
  refine ps_imp (ps_or (ps_asg he (pg_sub ho hi set_list h3) h2 h1) (ps_dput (by omega) ho hi he sw_sub)) fun D σ H ⟨w, σa, A, e, hA, hS, hP⟩ => ?_
  subst e
  have hP : PostS T W w (bindS σa (cE P k e' σa A) fun d H1 => bindS σa (cE P k o' σa H1) fun x H2 => bindS σa (cE P k i' σa H2) fun y H3 => match setI H3 x y d with
    | some H4 => .ok .nx σa H4
    | none => .no) D := hP
  by_cases hd : ∃ d A1 x A2 y A3 r kvs, cE P k e' σa A = .ok d A1 ∧ cE P k o' σa A1 = .ok x A2 ∧ cE P k i' σa A2 = .ok y A3 ∧ x = .ref r ∧ A3[r]? = some (.dic kvs)
  · obtain ⟨d0, A10, x0, A20, y0, A30, r, kvs, q1, q2, q3, rfl, q5⟩ := hd
    refine .inr ⟨w, σa, A, rfl, hA, hS, hP.bind hS fun w1 d v A1 e1 a1 r1 e11 h1 => ⟨w1, σa, A1, rfl, a1, hS.mono e1, h1.bind (hS.mono e1) fun w2 x vx A2 e2 a2 r2 e22 h2 => ⟨w2, σa, A2, rfl, a2, hS.mono (e1.trans e2), h2.bind (hS.mono (e1.trans e2)) fun w3 y vy A3 e3 a3 r3 e33 h3 => ?_⟩⟩⟩
    rw [q1] at e11; cases e11
    rw [q2] at e22; cases e22
    rw [q3] at e33; cases e33
    obtain ⟨hlt, rfl⟩ := rd_ref (RD.mono e3 _ _ r2)
    obtain ⟨ws, t1, t2⟩ := dic_at a3 q5
    have hset : setI A30 (.ref r) y0 d0 = (match keyD y0 with
        | some k => if kvs.length < sizeLine then some (A30.set r (.dic (putK k d0 kvs))) else none
        | none => none) := by
      unfold setI
      simp only [q5] <;> cases keyD y0 <;> rfl
    rw [hset] at h3
    cases hk : keyD y0 with
    | none => rw [hk] at h3; exact h3.elim
    | some kk =>
      rw [hk] at h3
      simp only at h3
      by_cases hl : kvs.length < sizeLine
      · rw [if_pos hl] at h3
        have ep := ext_put (o := .dK (L2.putK ws (kV' kk) v)) a3 hlt t1
        refine ⟨w3.f r, (w3.put r (.dK (L2.putK ws (kV' kk) v))).H, rfl, ?_, ?_⟩
        · rw [key_of r3 hk]
          exact DPut.k t1 (by rw [← rks_length t2]; exact hl)
        · exact h3 _ σ ep (a3.put hlt t1 ⟨_, upd_same, putK_map (t2.mono ep) (RD.mono (e2.trans (e3.trans ep)) _ _ r1)⟩) (hS.mono ((e1.trans (e2.trans e3)).trans ep))
      · rw [if_neg hl] at h3; exact h3.elim
  · refine .inl ⟨w, σa, A, rfl, hA, hS, hP.bind hS fun w1 d v A1 e1 a1 r1 e11 h1 => ⟨w1, σa, A1, rfl, a1, hS.mono e1, h1.bind (hS.mono e1) fun w2 x vx A2 e2 a2 r2 e22 h2 => ⟨w2, σa, A2, rfl, a2, hS.mono (e1.trans e2), h2.bind (hS.mono (e1.trans e2)) fun w3 y vy A3 e3 a3 r3 e33 h3 => ?_⟩⟩⟩
    cases hs : setI A3 x y d with
    | none => rw [hs] at h3; exact h3.elim
    | some A4 =>
      rw [hs] at h3
      unfold setI at hs
      split at hs
      · rename_i r
        split at hs
        · rename_i xs hx
          split at hs
          · rename_i j
            split at hs
            · rename_i hj
              cases hs
              obtain ⟨hlt, rfl⟩ := rd_ref (RD.mono e3 _ _ r2)
              obtain ⟨vs, t1, t2⟩ := a3.ob _ _ hx
              have hn := t2.length
              have ep := ext_put (o := .lst (vs.set j.toNat v)) a3 hlt t1
              refine ⟨w3.f r, vs, j, j.toNat, rfl, rd_int r3, t1, ?_, ?_⟩
              · unfold ixN
                rw [if_pos hj.1, if_pos (by omega)]
              · exact h3 _ σ ep (a3.put hlt t1 ⟨_, upd_same, (RDs.mono ep xs vs t2).set _ (RD.mono (e2.trans (e3.trans ep)) _ _ r1)⟩) (hS.mono ((e1.trans (e2.trans e3)).trans ep))
            · cases hs
          · cases hs
        · rename_i kvs hx
          exact absurd ⟨_, _, _, _, _, _, _, _, e11, e22, e33, rfl, hx⟩ hd
        · cases hs
      · cases hs
theorem rfs_put (inj : ∀ i j, T.fld i = T.fld j → i = j) {f : Nat} {d : D} {v : V} : ∀ {fs : List (Nat × D)} {ws : List (Str × V)} {w : Wd}, RFs T w fs ws → RD T w d v → RFs T w (putA f d fs) (putF (T.fld f) v ws) ∧ fs.length = ws.length
  | [], ws, w, r, rd => by
    have r : ws = [] := r
    subst r
    exact ⟨⟨v, [], rfl, rd, rfl⟩, rfl⟩
  | (p, e) :: fs, ws, w, r, rd => by
    obtain ⟨u, rr, rfl, h1, h2⟩ := r
    obtain ⟨ih, hn⟩ := rfs_put inj h2 rd
    refine ⟨?_, by simp [hn]⟩
    by_cases h : p = f
    · subst h
      have e1 : putA p d ((p, e) :: fs) = (p, d) :: fs := by show (if p = p then _ else _) = _; rw [if_pos rfl]
      have e2 : putF (T.fld p) v ((T.fld p, u) :: rr) = (T.fld p, v) :: rr := by unfold putF; rw [if_pos rfl]
      rw [e1, e2]
      exact ⟨v, rr, rfl, rd, h2⟩
    · have e1 : putA f d ((p, e) :: fs) = (p, e) :: putA f d fs := by show (if p = f then _ else _) = _; rw [if_neg h]
      have e2 : putF (T.fld f) v ((T.fld p, u) :: rr) = (T.fld p, u) :: putF (T.fld f) v rr := by
        rw [putF]
        rw [if_neg fun z => h (inj _ _ z)]
      rw [e1, e2]
      exact ⟨u, _, rfl, h1, ih⟩
theorem st_seta (g : Gd T P nm k W X) {o' e' : E} {f : Nat} {o e : Expr} {n : Str} {q p : Pos} (hf : nm.fld[f]? = some n) (ho : PE X o (tE T W (cE P k o'))) (he : PE X e (tE T W (cE P k e'))) :
    PS X (.Assign [.Attribute o n q] e p) (tS T W (cS P k (.seta o' f e'))) := by
  obtain ⟨hn, rfl⟩ := g.fl f n hf
  refine ps_imp (ps_fld ho he sw_att) fun D σ H ⟨w, σa, A, e, hA, hS, hP⟩ => ?_
  subst e
  have hP : PostS T W w (bindS σa (cE P k e' σa A) fun d H1 => bindS σa (cE P k o' σa H1) fun x H2 => match setAt H2 f x d with
    | some H3 => .ok .nx σa H3
    | none => .no) D := hP
  refine ⟨w, σa, A, rfl, hA, hS, hP.bind hS fun w1 d v A1 e1 a1 r1 e11 h1 => ⟨w1, σa, A1, rfl, a1, hS.mono e1, h1.bind (hS.mono e1) fun w2 x vx A2 e2 a2 r2 e22 h2 => ?_⟩⟩
  cases hs : setAt A2 f x d with
  | none => rw [hs] at h2; exact h2.elim
  | some A4 =>
    rw [hs] at h2
    unfold setAt at hs
    split at hs
    · rename_i r
      split at hs
      · rename_i c fs hx
        split at hs
        · rename_i hl
          cases hs
          obtain ⟨hlt, rfl⟩ := rd_ref r2
          obtain ⟨dx, ws, t1, t2, t3⟩ := a2.ob _ _ hx
          have ep := ext_put (o := .ins (T.cad c) dx (putF (T.fld f) v ws)) a2 hlt t1
          obtain ⟨m1, m2⟩ := rfs_put g.inj (f := f) (t2.mono ep) (RD.mono (e2.trans ep) _ _ r1)
          rw [g.K]
          exact ⟨w2.f r, T.cad c, dx, ws, rfl, t1, t3.1, t3.2 f hn, by rw [← m2]; exact hl, h2 _ σ ep (a2.put hlt t1 ⟨dx, _, upd_same, m1, t3⟩) (hS.mono ((e1.trans e2).trans ep))⟩
        · cases hs
      · cases hs
    · cases hs
theorem Gd.tr (g : Gd T P nm k W X) {pn : List (Addr × Obj)} {xe : Value → Shared → Prop} {W' : WX} (h : Takes (X.tr pn xe) W') : Gd T P nm k W' (X.tr pn xe) where
  K := g.K
  calm := g.calm
  nd := g.nd
  room := g.room
  take := h
  fn := g.fn
  kw := g.kw
  mt := g.mt
  mak := g.mak
  cls := g.cls
  fl := g.fl
  inj := g.inj
  gl := g.gl
  bl := g.bl
  xcl := fun c x fs h => let ⟨a, b, d⟩ := g.xcl c x fs h; ⟨⟨a.ox, a.mg, a.ini⟩, b, d⟩
  exm := g.exm
  xo := g.xo
  isx := g.isx
  base := g.base
  nx := g.nx
theorem rfs_zip : ∀ {fs : List Nat} {ds : List D} {vs : List V} {w : Wd} {f1 : List (Nat × D)} {w1 : List (Str × V)}, RDs T w ds vs → RFs T w f1 w1 → RFs T w ((fs.zip ds).reverse ++ f1) (((fs.map T.fld).zip vs).reverse ++ w1)
  | [], ds, vs, w, f1, w1, _, r => by simpa using r
  | f :: fs, [], vs, w, f1, w1, h, r => by
    have h : vs = [] := by rw [RDs] at h; exact h
    subst h
    simpa using r
  | f :: fs, d :: ds, vs, w, f1, w1, h, r => by
    rw [RDs] at h
    obtain ⟨v, us, rfl, h1, h2⟩ := h
    have := rfs_zip (fs := fs) (f1 := (f, d) :: f1) (w1 := (T.fld f, v) :: w1) h2 ⟨v, w1, rfl, h1, r⟩
    simpa using this
theorem st_raise (g : Gd T P nm k W X) {c : Nat} {fs : List Nat} {es' : E} {x : Str} {e : Expr} {es : List Expr} {p q pos : Pos} (hc : nm.exc[c]? = some (x, fs)) (hg : glB X.env.scope x = true) (hl : es.length ≤ 900) (hck : chks nm X.N X.env.scope es' (e :: es) = true)
    (he : plainE e = true) (hpl : (backTo q (starEach es X.env)).any (·.1) = false) (h : PA X (e :: es) (tA T W (cA P k es'))) :
    PS X (.Raise (some (.Call (.Name x p) (e :: es) [] q)) none pos) (tS T W (cS P k (.raise c fs es'))) := by
  obtain ⟨xc, _, _⟩ := g.xcl c x fs hc
  refine ⟨fun pins s σ H D I ⟨w, σa, A, e0, hA, hS, hP⟩ => ?_⟩
  subst e0
  have hP : PostS T W w (bindS σa (callF P k (.xc 1) [] A) fun _ _ => bindS σa (cA P k es' σa A) fun ds H1 => if ds.length = fs.length then .ex c (fs.zip ds).reverse σa H1 else .no) D := hP
  rcases xc_cases (P := P) k A with ⟨h2, _⟩ | ⟨h2, hk⟩
  · rw [h2] at hP; exact hP.elim
  · rw [h2] at hP
    have hP : PostS T W w (bindS σa (cA P k es' σa A) fun ds H1 => if ds.length = fs.length then .ex c (fs.zip ds).reverse σa H1 else .no) D := hP
    refine (ps_raiseX (p := p) (q := q) (pos := pos) g.calm g.take xc (g.room.mono hk) (gl_of hg).1 (gl_of hg).2 h (plain_star he) hpl).run pins s σ w.H D I ⟨w, σa, A, rfl, hA, hS, hP.bind hS fun w1 ds vs A1 e1 a1 r1 q1 h1 => ?_⟩
    have hlen : vs.length = es.length + 1 := by rw [← r1.length, chks_len es' (e :: es) σa A A1 ds hck q1]; rfl
    by_cases hn : ds.length = fs.length
    · rw [if_pos hn] at h1
      refine mkx_in (K := X.K) (C := T.xad c) (H1 := w1.H) (Q := fun cls d H' => W cls d σ H') (ps := fs.map T.fld) (by rw [← r1.length, hn]; simp) (by omega) fun dx nd => ?_
      refine h1 ⟨w1.f, w1.n, upd w1.H dx (.xd ((fs.map T.fld).zip vs).reverse), w1.hid⟩ σ dx _ (ext_laid nd) (a1.laid nd) (hS.mono (e1.trans (ext_laid nd))) upd_same ?_
      have := rfs_zip (fs := fs) (f1 := []) (w1 := []) (RDs.mono (ext_laid (o := .xd ((fs.map T.fld).zip vs).reverse) nd) ds vs r1) rfl
      simpa using this
    · rw [if_neg hn] at h1; exact h1.elim
theorem st_try (g : Gd T P nm k W X) (hst : X.stack = X.env :: X.outer ∧ X.env.frame = some X.env.locals) {b : S} {c n i : Nat} {h : HE} {x v : Str} {e : Expr} {body : List Stmt} {np rp pos' pos : Pos} (hn : n = nm.exc.length) (hc : (nm.exc[c]?).map (·.1) = some x ∨ (c = n ∧ x ∈ nm.base)) (hg : glB X.env.scope x = true)
    (hi : X.N[i]? = some v) (hl : X.env.scope.names.lookup v = some .local) (hd : (v == ("__debug__" : Str)) = false) (hd2 : (v == ("__classdict__" : Str)) = false) (hh : chkHE nm X.env.scope v h e = true)
    (hb : ∀ (W' : WX) (pn : List (Addr × Obj)) (xe : Value → Shared → Prop), Takes (X.tr pn xe) W' → PassesOwn (model X.prog X.w) X.A X.env xe → PSs (X.tr pn xe) body (tS T W' (cS P k b))) :
    PS X (.Try body [.ExceptHandler (some (.Name x np)) (some v) [.Return (some e) rp] pos'] [] [] pos) (tS T W (cS P k (.tryr b n [(c, i, h)]))) := by
  obtain ⟨C, hm, hex⟩ : ∃ C : Addr, X.mg x = some (.ref C) ∧ ∀ c', c' < n → PySem.W.exmOne X.K (.ref (T.xad c')) (.ref C) = some (decide (c' < n ∧ (c = c' ∨ c = n))) := by
    rcases hc with hc | ⟨hc, hx⟩
    · obtain ⟨⟨x', gs⟩, q1, q2⟩ := Option.map_eq_some_iff.mp hc
      have q2 : x' = x := q2
      subst q2
      obtain ⟨xc, _, _⟩ := g.xcl c x' gs q1
      have hlt : c < nm.exc.length := (List.getElem?_eq_some_iff.mp q1).1
      refine ⟨T.xad c, xc.mg, fun c' hc' => ?_⟩
      rw [g.exm c' c (by rw [← hn]; exact hc') hlt]
      by_cases q : c' = c
      · rw [decide_eq_true q, decide_eq_true ⟨hc', .inl q.symm⟩]
      · rw [decide_eq_false q, decide_eq_false]
        rintro ⟨_, z | z⟩
        · exact q z.symm
        · omega
    · obtain ⟨C, q1, q2⟩ := g.base x hx
      exact ⟨C, q1, fun c' hc' => by rw [q2 c' (by rw [← hn]; exact hc'), decide_eq_true ⟨hc', .inr hc⟩]⟩
  refine ps_imp (ps_try_as (c := .ref C) (tb := fun W' => tS T W' (cS P k b)) (ts := fun a cls d => tRet (tHE T a i cls d h)) hst.1 hst.2 g.nd hi hl ⟨(gl_of hg).1, (gl_of hg).2, .inl hm⟩ g.take hb fun a oe cls d pn hz hf => ?_) fun D σ H ⟨w, σa, A, e0, hA, hS, hP⟩ => ?_
  · exact pss_imp (pss_cons (ps_ret (he_ok g hi (.inl hl) hd hd2 hz hf h e hh)) pss_nil) fun D σ H q => q
  · subst e0
    refine ⟨w, σa, A, rfl, hA, hS, ?_⟩
    have hP : PostS T W w (match cS P k b σa A with
      | .ex c' fs σ1 H1 => match clause n c' [(c, i, h)] with
        | some (some (i, h)) => match evHE c' fs h with
          | some d => if i < σ1.length then .ok (.rt d) σ1 H1 else .no
          | none => .no
        | some none => .ex c' fs σ1 H1
        | none => .no
      | r => r) D := hP
    revert hP
    cases cS P k b σa A with
    | no => exact fun h => h
    | ok f σ1 A1 => cases f <;> exact fun h => h
    | ex c' fs σ1 A1 =>
      intro hP w' σ' dx ws ex a1 s1 hx rf
      have hP : PostS T W w (match clause n c' [(c, i, h)] with
        | some (some (i, h)) => match evHE c' fs h with
          | some d => if i < σ1.length then .ok (.rt d) σ1 A1 else .no
          | none => .no
        | some none => .ex c' fs σ1 A1
        | none => .no) D := hP
      have hcl : clause n c' [(c, i, h)] = if c' < n ∧ (c = c' ∨ c = n) then some (some (i, h)) else if c' < n then some none else none := rfl
      by_cases hlt2 : c' < n
      · by_cases hcc : c' < n ∧ (c = c' ∨ c = n)
        · rw [if_pos hcc] at hcl
          rw [hcl] at hP
          refine ⟨true, by rw [hex c' hlt2, decide_eq_true hcc], fun _ a na => ?_, fun z => by cases z⟩
          have hP : PostS T W w (match evHE c' fs h with
            | some d => if i < σ1.length then .ok (.rt d) σ1 A1 else .no
            | none => .no) D := hP
          cases hh : evHE c' fs h with
          | none => rw [hh] at hP; exact hP.elim
          | some r =>
            rw [hh] at hP
            have hP : PostS T W w (if i < σ1.length then .ok (.rt r) σ1 A1 else .no) D := hP
            by_cases hlen : i < σ1.length
            · rw [if_pos hlen] at hP
              have hl2 : i < σ'.length := by rw [← s1.len]; exact hlen
              exact ⟨w', A1, c', fs, r, ⟨dx, ws, rfl, by rw [List.getElem?_set_self hl2], by rw [g.nx, ← hn]; exact hlt2, rfl, rfl, hx, rf⟩, a1, hh, fun w2 v e2 a2 r2 => hP w2 v (ex.trans e2) a2 r2⟩
            · rw [if_neg hlen] at hP; exact hP.elim
        · rw [if_neg hcc, if_pos hlt2] at hcl
          rw [hcl] at hP
          have hP : PostS T W w (.ex c' fs σ1 A1) D := hP
          exact ⟨false, by rw [hex c' hlt2, decide_eq_false hcc], fun z => (by cases z), fun _ => hP w' σ' dx ws ex a1 s1 hx rf⟩
      · rw [if_neg fun z => hlt2 z.1, if_neg hlt2] at hcl
        rw [hcl] at hP
        exact hP.elim
theorem st_ret {e' : E} {e : Expr} {p : Pos} (h : PE X e (tE T W (cE P k e'))) : PS X (.Return (some e) p) (tS T W (cS P k (.ret e'))) := by
  refine ps_imp (ps_ret h) fun D σ H ⟨w, σa, A, e, hA, hS, hP⟩ => ?_
  subst e
  have hP : PostS T W w (bindS σa (cE P k e' σa A) fun d H1 => .ok (.rt d) σa H1) D := hP
  exact ⟨w, σa, A, rfl, hA, hS, hP.bind hS fun w1 d v A1 e1 a1 r1 _ h1 => h1 w1 v (Ext.refl w1) a1 r1⟩
theorem st_ret0 {p : Pos} : PS X (.Return none p) (tS T W (cS P k .ret0)) := by
  refine ps_imp ps_retN fun D σ H ⟨w, σa, A, e, hA, hS, hP⟩ => ?_
  subst e
  have hP : PostS T W w (.ok (.rt .non) σa A) D := hP
  exact hP w .non (Ext.refl w) hA rd_non'
theorem st_brk {p : Pos} : PS X (.Break p) (tS T W (cS P k .brk)) := by
  refine ps_imp ps_break fun D σ H ⟨w, σa, A, e, hA, hS, hP⟩ => ?_
  subst e
  have hP : PostS T W w (.ok .bk σa A) D := hP
  exact hP w σ (Ext.refl w) hA hS
theorem st_cnt {p : Pos} : PS X (.Continue p) (tS T W (cS P k .cnt)) := by
  refine ps_imp ps_continue fun D σ H ⟨w, σa, A, e, hA, hS, hP⟩ => ?_
  subst e
  have hP : PostS T W w (.ok .ct σa A) D := hP
  exact hP w σ (Ext.refl w) hA hS
theorem st_bad {st : Stmt} : PS X st (tS T W (cS P k .bad)) := ps_imp ps_never fun D σ H ⟨w, σa, A, e, hA, hS, hP⟩ => hP
theorem st_ite {c' : E} {a b : S} {c : Expr} {xs ys : List Stmt} {p : Pos} (hc : PT X c (tT T W (cT P k c'))) (ha : PSs X xs (tS T W (cS P k a))) (hb : PSs X ys (tS T W (cS P k b))) : PS X (.If c xs ys p) (tS T W (cS P k (.ite c' a b))) := by
  refine ps_imp (ps_if hc ha hb) fun D σ H ⟨w, σa, A, e, hA, hS, hP⟩ => ?_
  subst e
  have hP : PostS T W w (bindS σa (cT P k c' σa A) fun z H1 => if z then cS P k a σa H1 else cS P k b σa H1) D := hP
  refine ⟨w, σa, A, rfl, hA, hS, hP.bind hS fun w1 z v A1 e1 a1 r1 _ h1 => ?_⟩
  cases r1
  cases z with
  | true => exact ⟨w1, σa, A1, rfl, a1, hS.mono e1, h1⟩
  | false => exact ⟨w1, σa, A1, rfl, a1, hS.mono e1, h1⟩
end
end Ev
end

section
set_option Elab.async false
set_option linter.all false
set_option maxRecDepth 100000
/-! Loops; every statement that the checker takes. -/
namespace Ev
open PySem PySem.Spec PyProof.Rows L2
section
variable {T : Tb} {P : Pg} {nm : Nm} {k : Nat} {W : WX} {X : Cx} {fb : Str → Bool}
theorem whl_succ {c : Sl → AH → Rs Bool} {b : Sl → AH → SR} {n : Nat} {σ : Sl} {H : AH} : whlGo c b (n + 1) σ H = bindS σ (c σ H) fun z H1 => if z then
      match b σ H1 with
      | .ok .nx σ2 H2 => whlGo c b n σ2 H2
      | .ok .ct σ2 H2 => whlGo c b n σ2 H2
      | .ok .bk σ2 H2 => .ok .nx σ2 H2
      | .ok (.rt d) σ2 H2 => .ok (.rt d) σ2 H2
      | .ex c fs σ2 H2 => .ex c fs σ2 H2
      | .no => .no
    else .ok .nx σ H1 := rfl
theorem st_whl (hp : PassesOwn (model X.prog X.w) X.A X.env X.xe) {c' : E} {b : S} {c : Expr} {xs : List Stmt} {p : Pos} (hc : PT X c (tT T W (cT P k c'))) (hb : PSs X xs (tS T W (cS P k b))) : PS X (.While c xs [] p) (tS T W (cS P k (.whl c' b))) := by
  refine ps_imp (ps_while hp hc hb) fun D σ H ⟨w, σa, A, e, hA, hS, hP⟩ => ?_
  subst e
  have hP : PostS T W w (whlGo (fun σ H => cT P k c' σ H) (fun σ H => cS P k b σ H) lap σa A) D := hP
  let Wm : Nat → L2.St → Hp → Prop := fun m σ H => ∃ wi σa A, wi.H = H ∧ Abs T wi A ∧ RS T wi σa σ ∧ PostS T W wi (whlGo (fun σ H => cT P k c' σ H) (fun σ H => cS P k b σ H) m σa A) D
  refine ⟨Wm, ⟨lap, w, σa, A, rfl, hA, hS, hP⟩, ?_⟩
  rintro m σ H ⟨wi, σa, A, rfl, hA, hS, h⟩
  cases m with
  | zero => exact h.elim
  | succ m =>
    rw [whl_succ] at h
    refine ⟨wi, σa, A, rfl, hA, hS, h.bind hS fun w1 z v A1 e1 a1 r1 _ h1 => ?_⟩
    cases r1
    cases z with
    | false => exact PostS.nx h1 a1 (hS.mono e1)
    | true =>
      refine ⟨Wm m, fun σ' H' q => ⟨m, Nat.lt_succ_self m, q⟩, w1, σa, A1, rfl, a1, hS.mono e1, ?_⟩
      revert h1
      show PostS T W w1 (match cS P k b σa A1 with
      | .ok .nx σ2 H2 => whlGo (fun σ H => cT P k c' σ H) (fun σ H => cS P k b σ H) m σ2 H2
      | .ok .ct σ2 H2 => whlGo (fun σ H => cT P k c' σ H) (fun σ H => cS P k b σ H) m σ2 H2
      | .ok .bk σ2 H2 => .ok .nx σ2 H2
      | .ok (.rt d) σ2 H2 => .ok (.rt d) σ2 H2
      | .ex c fs σ2 H2 => .ex c fs σ2 H2
      | .no => .no) D → PostS T W w1 (cS P k b σa A1) _
      cases cS P k b σa A1 with
      | no => exact fun h => h
      | ex c fs σ2 H2 => exact fun h => h
      | ok f σ2 H2 =>
        cases f with
        | nx => exact fun h w' σ' e a s => ⟨w', σ2, H2, rfl, a, s, PostS.later e h⟩
        | ct => exact fun h w' σ' e a s => ⟨w', σ2, H2, rfl, a, s, PostS.later e h⟩
        | bk => exact fun h => h
        | rt d => exact fun h => h
theorem forGo_nil {all : List D} {g : Option Nat} {t : TN} {b : Sl → AH → SR} {σ : Sl} {H : AH} : forGo all g t b [] σ H = if Still all g H then .ok .nx σ H else .no := by rw [forGo]
theorem forGo_cons {all : List D} {g : Option Nat} {t : TN} {b : Sl → AH → SR} {x : D} {xs : List D} {σ : Sl} {H : AH} : forGo all g t b (x :: xs) σ H = if Still all g H then
      match setT t x σ with
      | some σ1 => match b σ1 H with
        | .ok .nx σ2 H2 => forGo all g t b xs σ2 H2
        | .ok .ct σ2 H2 => forGo all g t b xs σ2 H2
        | .ok .bk σ2 H2 => .ok .nx σ2 H2
        | .ok (.rt d) σ2 H2 => .ok (.rt d) σ2 H2
        | .ex c fs σ2 H2 => .ex c fs σ2 H2
        | .no => .no
      | none => .no
    else .no := by rw [forGo] <;> rfl
theorem st_for (hp : PassesOwn (model X.prog X.w) X.A X.env X.xe) (g : Gd T P nm k W X) {t : TN} {kk : SK} {src : E} {b : S} {tg it : Expr} {xs : List Stmt} {p : Pos} (hi : PI X tg it (tI T W (cI P k kk src))) (hf : ∀ x, foldedSetIterable it X.env x = pure x)
    (hg : PG X tg (gD T t)) (hb : PSs X xs (tS T W (cS P k b))) : PS X (.For tg it xs [] p) (tS T W (cS P k (.fr t kk src b))) := by
  refine ps_imp (ps_for hp g.calm hi hg hb hf) fun D σ H ⟨w, σa, A, e, hA, hS, hP⟩ => ?_
  subst e
  have hP : PostS T W w (bindS σa (cA P k src σa A) fun ds H1 => match items H1 kk ds with
    | some (xs, g) => forGo xs g t (fun σ H => cS P k b σ H) xs σa H1
    | none => .no) D := hP
  have hP : PostS T W w (bindS σa (cI P k kk src σa A) fun p H1 => forGo p.1 p.2 t (fun σ H => cS P k b σ H) p.1 σa H1) D := by
    revert hP
    show _ → PostS T W w (bindS σa (bindR (cA P k src σa A) fun ds H1 => liftR (items H1 kk ds) H1) _) D
    cases cA P k src σa A with
    | no => exact fun h => h
    | ex c fs A => exact fun h => h
    | ok ds A1 =>
      show PostS T W w (match items A1 kk ds with
        | some (xs, g) => forGo xs g t (fun σ H => cS P k b σ H) xs σa A1
        | none => .no) D → PostS T W w (bindS σa (liftR (items A1 kk ds) A1) _) D
      cases items A1 kk ds with
      | none => exact fun h => h
      | some p => exact fun h => h
  refine ⟨w, σa, A, rfl, hA, hS, hP.bind hS fun w1 pr J A1 e1 a1 r1 _ h1 => ?_⟩
  obtain ⟨all, gd⟩ := pr
  have h1 : PostS T W w1 (forGo all gd t (fun σ H => cS P k b σ H) all σa A1) D := h1
  let Wm : Nat → Nat → L2.St → Hp → Prop := fun i m σ H => m = all.length - i ∧ i ≤ all.length ∧ ∃ wi σa A, wi.H = H ∧ Ext w1 wi ∧ Abs T wi A ∧ RS T wi σa σ ∧ PostS T W wi (forGo all gd t (fun σ H => cS P k b σ H) (all.drop i) σa A) D
  refine ⟨Wm, ⟨all.length, by simp, Nat.zero_le _, w1, σa, A1, rfl, Ext.refl _, a1, hS.mono e1, h1⟩, ?_⟩
  rintro i m σ H ⟨rfl, hi, wi, σa, A, rfl, ei, hA, hS, h⟩
  by_cases hlt : i < all.length
  · have hd : all.drop i = all[i] :: all.drop (i + 1) := List.drop_eq_getElem_cons hlt
    rw [hd, forGo_cons] at h
    by_cases st : Still all gd A
    · rw [if_pos st] at h
      obtain ⟨j1, j2, j3⟩ := r1 wi A ei.inc hA st
      refine .inr ⟨j1 i hlt, Wm (i + 1) (all.length - (i + 1)), fun σ' H' q => ⟨_, by omega, q⟩, fun x H' y => ?_⟩
      obtain ⟨rfl, rx⟩ := j3 i x H' y
      have rx := rx all[i] (by simp [hlt])
      cases hs : setT t all[i] σa with
      | none => rw [hs] at h; exact h.elim
      | some σb =>
        rw [hs] at h
        refine ⟨wi, σa, σb, all[i], rfl, hS, rx, hs, fun σ' hS' _ => ⟨wi, σb, A, rfl, hA, hS', ?_⟩⟩
        revert h
        show PostS T W wi (match cS P k b σb A with
        | .ok .nx σ2 H2 => forGo all gd t (fun σ H => cS P k b σ H) (all.drop (i + 1)) σ2 H2
        | .ok .ct σ2 H2 => forGo all gd t (fun σ H => cS P k b σ H) (all.drop (i + 1)) σ2 H2
        | .ok .bk σ2 H2 => .ok .nx σ2 H2
        | .ok (.rt d) σ2 H2 => .ok (.rt d) σ2 H2
        | .ex c fs σ2 H2 => .ex c fs σ2 H2
        | .no => .no) D → PostS T W wi (cS P k b σb A) _
        cases cS P k b σb A with
        | no => exact fun h => h
        | ex c fs σ2 H2 => exact fun h => h
        | ok f σ2 H2 =>
          cases f with
          | nx => exact fun h w' σ' e a s => ⟨rfl, hlt, w', σ2, H2, rfl, ei.trans e, a, s, PostS.later e h⟩
          | ct => exact fun h w' σ' e a s => ⟨rfl, hlt, w', σ2, H2, rfl, ei.trans e, a, s, PostS.later e h⟩
          | bk => exact fun h => h
          | rt d => exact fun h => h
    · rw [if_neg st] at h; exact h.elim
  · have e : i = all.length := by omega
    subst e
    rw [List.drop_length, forGo_nil] at h
    by_cases st : Still all gd A
    · rw [if_pos st] at h
      obtain ⟨j1, j2, j3⟩ := r1 wi A ei.inc hA st
      exact .inl ⟨j2 _ (Nat.le_refl _), h.nx hA hS⟩
    · rw [if_neg st] at h; exact h.elim
variable (T P nm k fb) in
def SndS (s : S) : Prop := ∀ {W : WX} {X : Cx} (g : Gd T P nm k W X) (hp : PassesOwn (model X.prog X.w) X.A X.env X.xe) (hf : ∀ x, fb x = true → X.fn x = true) (hst : X.stack = X.env :: X.outer ∧ X.env.frame = some X.env.locals),
  (∀ st, chkS nm X.N fb X.env.scope s st = true → PS X st (tS T W (cS P k s))) ∧ ∀ sts, chkB nm X.N fb X.env.scope s sts = true → PSs X sts (tS T W (cS P k s))
theorem noB {s : S} (h1 : ∀ {W : WX} {X : Cx} (g : Gd T P nm k W X) (hp : PassesOwn (model X.prog X.w) X.A X.env X.xe) (hf : ∀ x, fb x = true → X.fn x = true) (hst : X.stack = X.env :: X.outer ∧ X.env.frame = some X.env.locals) (st : Stmt), chkS nm X.N fb X.env.scope s st = true → PS X st (tS T W (cS P k s)))
    (h2 : ∀ {N : List Str} {sc : Scope} (sts : List Stmt), chkB nm N fb sc s sts = false) : SndS T P nm k fb s := fun g hp hf hst => ⟨h1 g hp hf hst, fun sts h => by rw [h2] at h; cases h⟩
theorem tryr_shape {N : List Str} {sc : Scope} {b : S} {n : Nat} {hs : List (Nat × Nat × HE)} {st : Stmt} (h : chkS nm N fb sc (.tryr b n hs) st = true) : ∃ body x np v e rp p1 p2 c i h', st = .Try body [.ExceptHandler (some (.Name x np)) (some v) [.Return (some e) rp] p1] [] [] p2 ∧ hs = [(c, i, h')] ∧
    (decide (n = nm.exc.length) && (decide ((nm.exc[c]?).map (·.1) = some x) || (decide (c = n) && decide (x ∈ nm.base))) && glB sc x && decide (N[i]? = some v) && decide (sc.names.lookup v = some .local) && (!(v == ("__debug__" : Str)) && !(v == ("__classdict__" : Str)) && chkHE nm sc v h' e) && chkB nm N fb sc b body) = true := by
  cases st <;> first | exact ff h | skip
  rename_i body hds orelse fin p2
  cases hds with
  | nil => exact ff h
  | cons hd hds =>
    obtain ⟨ty, nmo, suite, p1⟩ := hd
    cases ty with
    | none => cases hds <;> exact ff h
    | some ty =>
      cases ty <;> first | (cases hds <;> exact ff h) | skip
      rename_i x np
      cases nmo with
      | none => cases hds <;> exact ff h
      | some v =>
        cases suite with
        | nil => cases hds <;> exact ff h
        | cons r rs =>
          cases r <;> first | (cases rs <;> cases hds <;> exact ff h) | skip
          rename_i e rp
          cases e with
          | none => cases rs <;> cases hds <;> exact ff h
          | some e =>
            cases rs with
            | cons _ _ => cases hds <;> exact ff h
            | nil =>
              cases hds with
              | cons _ _ => exact ff h
              | nil =>
                cases orelse with
                | cons _ _ => exact ff h
                | nil =>
                  cases fin with
                  | cons _ _ => exact ff h
                  | nil =>
                    match hs, h with
                    | [], h => exact ff h
                    | _ :: _ :: _, h => exact ff h
                    | [(c, i, h')], h => exact ⟨body, x, np, v, e, rp, p1, p2, c, i, h', rfl, rfl, h⟩
theorem snds : ∀ s : S, SndS T P nm k fb s := by
  intro s
  induction s with
  | pass =>
    refine fun {W X} g hp hf hst => ⟨fun st h => ?_, fun sts h => ?_⟩
    · cases st <;> first | exact ff h | exact st_pass
    · cases sts with
      | nil => exact st_nil
      | cons _ _ => exact ff h
  | seq a b iha ihb =>
    refine fun {W X} g hp hf hst => ⟨fun st h => ?_, fun sts h => ?_⟩
    · cases st <;> exact ff h
    · cases sts with
      | nil => exact ff h
      | cons st r =>
        have h : (chkS nm X.N fb X.env.scope a st && chkB nm X.N fb X.env.scope b r) = true := h
        rw [Bool.and_eq_true] at h
        exact st_seq ((iha g hp hf hst).1 st h.1) ((ihb g hp hf hst).2 r h.2)
  | ex e =>
    refine noB (fun {W X} g hp hf hst st h => ?_) fun sts => by cases sts <;> rfl
    cases st <;> first | exact ff h | skip
    rename_i x p
    have h : (notLc x && chk nm X.N X.env.scope e x) = true := h
    rw [Bool.and_eq_true] at h
    exact st_ex h.1 ((snd e).1 g x h.2).1
  | asg t e =>
    refine noB (fun {W X} g hp hf hst st h => ?_) fun sts => by cases sts <;> rfl
    cases t with
    | nm i =>
      cases st <;> first | exact ff h | skip
      rename_i ts x p
      match ts, h with
      | [tg], h =>
        cases tg <;> first | exact ff h | skip
        rename_i y py
        have h : (decide (X.N[i]? = some y) && (decide (X.env.scope.names.lookup y = some .local) || (decide (X.env.scope.names.lookup y = some .cell) && fb y)) && chk nm X.N X.env.scope e x && (notLc x || lcOk X.env.scope y py x)) = true := h
        obtain ⟨h1, h2, h3, h4⟩ := and4 h
        cases hn : notLc x with
        | true => exact st_asgN g (of_decide_eq_true h1) (loc_of hf h2) hn ((snd e).1 g x h3).1
        | false =>
          rw [hn] at h4
          have h4 : lcOk X.env.scope y py x = true := h4
          cases x <;> first | exact ff hn | exact ff h4 | skip
          rename_i el gens scope pos
          cases e with
          | con d => cases d <;> exact ff h3
          | bi b es => cases b <;> exact ff h3
          | bm b o es => cases b <;> first | exact ff h3 | (cases es <;> exact ff h3)
          | comp m own t kk src tst elt =>
            obtain ⟨tg, it, ifs, rfl, q1, q2, q3, q4, q5, q6⟩ := comp_parts (snd src).2.1 (snd tst).1 (snd elt).1 g h3
            exact st_asgC g (of_decide_eq_true h1) h4 q1 q2 q3 q4 q5 q6
          | _ => exact ff h3
      | [], h => exact ff h
      | tg :: _ :: _, h => cases tg <;> exact ff h
    | tp t =>
      cases st <;> first | exact ff h | skip
      rename_i ts x p
      match ts, h with
      | [tg], h =>
        have h : (chkTN fb X.N X.env.scope (.tp t) tg && chk nm X.N X.env.scope e x && notLc x && (notTup x || par2 nm X.N X.env.scope t e tg x)) = true := h
        obtain ⟨h1, h2, h3, h4⟩ := and4 h
        rw [Bool.or_eq_true] at h4
        rcases h4 with h4 | h4
        case inr =>
          unfold par2 at h4
          split at h4
          · obtain ⟨q1, q2, q3, q4, q5⟩ := and5 h4
            exact st_par g (of_decide_eq_true q1) (of_decide_eq_true q2) (of_decide_eq_true q3) q4 ((snd _).2.1 g _ q5).1
          · cases h4
        have hg := pg_ofV (T := T) g.K g.calm g.nd hf t tg h1
        cases tg <;> first | exact ff h1 | skip
        exact st_asgT g hg h3 h4 ((snd e).1 g x h2).1
      | [], h => exact ff h
      | _ :: _ :: _, h => exact ff h
    | _ => cases st <;> exact ff h
  | seti o i e =>
    refine noB (fun {W X} g hp hf hst st h => ?_) fun sts => by cases sts <;> rfl
    cases st <;> first | exact ff h | skip
    rename_i ts x p
    match ts, h with
    | [tg], h =>
      cases tg <;> first | exact ff h | skip
      rename_i l r q
      have h : (plainE r && chk nm X.N X.env.scope o l && chk nm X.N X.env.scope i r && chk nm X.N X.env.scope e x) = true := h
      obtain ⟨h1, h2, h3, h4⟩ := and4 h
      exact st_seti g h1 ((snd o).1 g l h2).1 ((snd i).1 g r h3).1 ((snd e).1 g x h4).1
    | [], h => exact ff h
    | tg :: _ :: _, h => cases tg <;> exact ff h
  | seta o f e =>
    refine noB (fun {W X} g hp hf hst st h => ?_) fun sts => by cases sts <;> rfl
    cases st <;> first | exact ff h | skip
    rename_i ts x p
    match ts, h with
    | [tg], h =>
      cases tg <;> first | exact ff h | skip
      rename_i l n q
      have h : (decide (nm.fld[f]? = some n) && chk nm X.N X.env.scope o l && chk nm X.N X.env.scope e x) = true := h
      obtain ⟨h1, h2, h3⟩ := and3 h
      exact st_seta g (of_decide_eq_true h1) ((snd o).1 g l h2).1 ((snd e).1 g x h3).1
    | [], h => exact ff h
    | tg :: _ :: _, h => cases tg <;> exact ff h
  | ret e =>
    refine noB (fun {W X} g hp hf hst st h => ?_) fun sts => by cases sts <;> rfl
    cases st <;> first | exact ff h | skip
    rename_i x p
    cases x with
    | none => exact ff h
    | some x => exact st_ret ((snd e).1 g x h).1
  | ret0 =>
    refine noB (fun {W X} g hp hf hst st h => ?_) fun sts => by cases sts <;> rfl
    cases st <;> first | exact ff h | skip
    rename_i x p
    cases x with
    | none => exact st_ret0
    | some x => exact ff h
  | ite c a b iha ihb =>
    refine noB (fun {W X} g hp hf hst st h => ?_) fun sts => by cases sts <;> rfl
    cases st <;> first | exact ff h | skip
    rename_i t xs ys p
    have h : (chk nm X.N X.env.scope c t && chkB nm X.N fb X.env.scope a xs && chkB nm X.N fb X.env.scope b ys) = true := h
    obtain ⟨h1, h2, h3⟩ := and3 h
    exact st_ite ((snd c).1 g t h1).2.1 ((iha g hp hf hst).2 xs h2) ((ihb g hp hf hst).2 ys h3)
  | whl c b ihb =>
    refine noB (fun {W X} g hp hf hst st h => ?_) fun sts => by cases sts <;> rfl
    cases st <;> first | exact ff h | skip
    rename_i t xs ys p
    cases ys with
    | cons _ _ => exact ff h
    | nil =>
      have h : (chk nm X.N X.env.scope c t && chkB nm X.N fb X.env.scope b xs) = true := h
      rw [Bool.and_eq_true] at h
      exact st_whl hp ((snd c).1 g t h.1).2.1 ((ihb g hp hf hst).2 xs h.2)
  | fr t kk src b ihb =>
    refine noB (fun {W X} g hp hf hst st h => ?_) fun sts => by cases sts <;> rfl
    cases st <;> first | exact ff h | skip
    rename_i tg it xs ys p
    cases ys with
    | cons _ _ => exact ff h
    | nil =>
      have h : (chkTN fb X.N X.env.scope t tg && chkI nm X.N X.env.scope kk src it && chkB nm X.N fb X.env.scope b xs) = true := h
      obtain ⟨h1, h2, h3⟩ := and3 h
      obtain ⟨i1, i2⟩ := snd_iter g (snd src).2.1 h2 (tg := tg)
      exact st_for hp g i1 i2 ((pg_of (T := T) g.K g.calm g.nd hf t).1 tg h1) ((ihb g hp hf hst).2 xs h3)
  | brk =>
    refine noB (fun {W X} g hp hf hst st h => ?_) fun sts => by cases sts <;> rfl
    cases st <;> first | exact ff h | exact st_brk
  | cnt =>
    refine noB (fun {W X} g hp hf hst st h => ?_) fun sts => by cases sts <;> rfl
    cases st <;> first | exact ff h | exact st_cnt
  | raise c fs es =>
    refine noB (fun {W X} g hp hf hst st h => ?_) fun sts => by cases sts <;> rfl
    cases st <;> first | exact ff h | skip
    rename_i x y p
    cases x with
    | none => exact ff h
    | some x =>
      cases y with
      | some _ => cases x <;> first | exact ff h | skip
                  rename_i f as kws p1
                  cases f <;> first | exact ff h | skip
                  cases as <;> first | exact ff h | skip
                  cases kws <;> exact ff h
      | none =>
        cases x <;> first | exact ff h | skip
        rename_i f as kws p1
        cases f <;> first | exact ff h | skip
        rename_i x p2
        cases as with
        | nil => exact ff h
        | cons e xs =>
          cases kws with
          | cons _ _ => exact ff h
          | nil =>
            have h : (decide (nm.exc[c]? = some (x, fs)) && glB X.env.scope x && chks nm X.N X.env.scope es (e :: xs) && decide (xs.length ≤ 900)) = true := h
            obtain ⟨h1, h2, h3, h4⟩ := and4 h
            have he : plainE e = true ∧ ∃ a b, es = .cons a b ∧ chks nm X.N X.env.scope b xs = true := by
              cases es with
              | cons a b =>
                have h3 : (plainE e && chk nm X.N X.env.scope a e && chks nm X.N X.env.scope b xs) = true := h3
                obtain ⟨q1, q2, q3⟩ := and3 h3
                exact ⟨q1, a, b, rfl, q3⟩
              | _ => exact ff h3
            obtain ⟨he, a, b, rfl, hr⟩ := he
            exact st_raise g (of_decide_eq_true h1) h2 (of_decide_eq_true h4) h3 he (star_any (chks_plain _ _ hr)) ((snd (.cons a b)).2.1 g (e :: xs) h3).1
  | tryr b n hs ihb =>
    refine noB (fun {W X} g hp hf hst st h => ?_) fun sts => by cases sts <;> rfl
    obtain ⟨body, x, np, v, e, rp, p1, p2, c, i, hh, rfl, rfl, h⟩ := tryr_shape h
    obtain ⟨h1, h2, h3, h4, h5, h6, h7⟩ := and7 h
    obtain ⟨h8, h9, h10⟩ := and3 h6
    have h2 : (nm.exc[c]?).map (·.1) = some x ∨ (c = n ∧ x ∈ nm.base) := by
      rw [Bool.or_eq_true, Bool.and_eq_true] at h2
      exact h2.imp of_decide_eq_true fun z => ⟨of_decide_eq_true z.1, of_decide_eq_true z.2⟩
    exact st_try g hst (of_decide_eq_true h1) h2 h3 (of_decide_eq_true h4) (of_decide_eq_true h5) (by simpa using h8) (by simpa using h9) h10 fun W' pn xe tk pw => (ihb (g.tr tk) pw hf hst).2 body h7
  | bad => exact noB (fun {W X} g hp hf hst st h => st_bad) fun sts => by cases sts <;> rfl
end
end Ev
end

section
set_option Elab.async false
set_option linter.all false
set_option maxRecDepth 100000
/-! How arguments are bound. -/
namespace Ev
open PySem PySem.Spec PyProof.Rows L2
theorem zip_look {α : Type} : ∀ {ps : List Str} {us : List α} (i : Nat) {x : Str}, ps.Nodup → ps.length = us.length → ps[i]? = some x → ∃ u, us[i]? = some u ∧ (ps.zip us).lookup x = some u
  | [], _, i, x, _, _, h => by simp at h
  | p :: ps, [], i, x, _, hl, h => by simp at hl
  | p :: ps, u :: us, 0, x, nd, hl, h => by
    simp at h; subst h
    exact ⟨u, by simp, by simp [List.lookup]⟩
  | p :: ps, u :: us, i + 1, x, nd, hl, h => by
    rw [List.nodup_cons] at nd
    have h : ps[i]? = some x := by simpa using h
    obtain ⟨v, h1, h2⟩ := zip_look (us := us) i nd.2 (by simpa using hl) h
    have hne : (x == p) = false := by
      apply beq_eq_false_iff_ne.mpr
      intro e
      subst e
      exact nd.1 (List.mem_of_getElem? h)
    exact ⟨v, by simpa using h1, by simp [List.lookup, hne, h2]⟩
theorem lookup_app {α : Type} : ∀ (a b : List (Str × α)) (x : Str), (a ++ b).lookup x = (a.lookup x).or (b.lookup x)
  | [], b, x => by simp
  | (k, v) :: a, b, x => by
    have ih := lookup_app a b x
    by_cases h : x = k
    · subst h; simp [List.lookup]
    · have hb : (x == k) = false := beq_eq_false_iff_ne.mpr h
      simp [List.lookup, hb, ih]
theorem zip_none {α : Type} : ∀ {ps : List Str} {us : List α} {x : Str}, x ∉ ps → (ps.zip us).lookup x = none
  | [], _, x, _ => by simp
  | p :: ps, [], x, _ => by simp
  | p :: ps, u :: us, x, h => by
    have h1 : (x == p) = false := beq_eq_false_iff_ne.mpr fun e => h (by rw [e]; exact List.mem_cons_self)
    have ih := zip_none (ps := ps) (us := us) (x := x) fun m => h (List.mem_cons_of_mem _ m)
    show ((p, u) :: ps.zip us).lookup x = none
    rw [List.lookup_cons, h1]
    exact ih
theorem fm_zip {α : Type} {L : List (Str × α)} : ∀ {ps : List Str} {us : List α}, ps.length = us.length → (∀ (i : Nat) (x : Str), ps[i]? = some x → ∃ u, us[i]? = some u ∧ L.lookup x = some u) → ps.filterMap (fun n => (L.lookup n).map (n, ·)) = ps.zip us
  | [], [], _, _ => rfl
  | [], _ :: _, h, _ => by simp at h
  | _ :: _, [], h, _ => by simp at h
  | p :: ps, u :: us, h, q => by
    obtain ⟨v, h1, h2⟩ := q 0 p (by simp)
    simp at h1
    subst h1
    have ih := fm_zip (L := L) (ps := ps) (us := us) (by simpa using h) fun i x hx => by
      obtain ⟨w, a, b⟩ := q (i + 1) x (by simpa using hx)
      exact ⟨w, by simpa using a, b⟩
    rw [List.filterMap_cons, h2]
    simp [ih]
theorem bind_pos {fd : FuncData} {as : List Arg} (hp : fd.params = ⟨[], as, none, [], [], none, []⟩) (hd : fd.defaults = .none) (nd : (as.map (·.arg)).Nodup) (us : List Value) (h : us.length = as.length) :
    bindArgs fd ⟨us, []⟩ = pure ((as.map (·.arg)).zip us) := by
  have hl : (as.map (·.arg)).length = us.length := by rw [List.length_map, h]
  have hs : seqItems? fd.defaults = pure none := by rw [hd]; rfl
  have miss : ((as.map (·.arg)).filter fun n => (((as.map (·.arg)).zip us).lookup n).isNone) = [] := by
    rw [List.filter_eq_nil_iff]
    intro x hx
    obtain ⟨i, hi⟩ := List.getElem?_of_mem hx
    obtain ⟨u, _, e⟩ := zip_look i nd hl hi
    rw [e]; simp
  have fm := fm_zip (L := (as.map (·.arg)).zip us) hl fun i x hx => zip_look i nd hl hx
  unfold bindArgs
  rw [hs]
  simp only [hp]
  simp [fm, miss, h]
  have tk : List.take as.length (List.map (fun x => x.arg) as) = List.map (fun x => x.arg) as := List.take_of_length_le (by simp)
  rw [if_neg]
  · rw [← List.filterMap_map, fm]
  · simp [tk, miss]
theorem forIn_fold {σ α : Type} (f : α → σ → Sem (ForInStep σ)) (g : σ → α → σ) : ∀ (L : List α) (s0 : σ), (∀ (pre : List α) (x : α) (post : List α), L = pre ++ x :: post → f x (pre.foldl g s0) = pure (.yield (g (pre.foldl g s0) x))) → forIn L s0 f = pure (L.foldl g s0)
  | [], s0, _ => by rw [List.forIn_nil]; rfl
  | x :: L, s0, h => by
    have h0 : f x s0 = pure (.yield (g s0 x)) := h [] x L rfl
    rw [List.forIn_cons, h0]
    have ih := forIn_fold f g L (g s0 x) fun pre y post e => h (x :: pre) y post (by rw [e]; rfl)
    simp only [pure_bind, List.foldl_cons]
    exact ih
theorem pre_none {α : Type} : ∀ (a : List (Str × α)) (x : Str × α) (b : List (Str × α)), ((a ++ x :: b).map (·.1)).Nodup → a.lookup x.1 = none
  | [], x, b, _ => rfl
  | (k, v) :: a, x, b, h => by
    have h : (k :: (a ++ x :: b).map (·.1)).Nodup := h
    rw [List.nodup_cons] at h
    have hne : (x.1 == k) = false := beq_eq_false_iff_ne.mpr fun e => h.1 (by rw [← e]; exact List.mem_map.mpr ⟨x, by simp, rfl⟩)
    rw [List.lookup_cons, hne]
    exact pre_none a x b h.2
theorem fold_app {α : Type} : ∀ (L : List α) (s : List α × List α), L.foldl (fun (s : List α × List α) kv => (s.1 ++ [kv], s.2)) s = (s.1 ++ L, s.2)
  | [], s => by simp
  | x :: L, s => by
    rw [List.foldl_cons, fold_app L]
    simp
theorem bind_kw {fd : FuncData} {as : List Arg} (hp : fd.params = ⟨[], as, none, [], [], none, []⟩) (hd : fd.defaults = .none) (nd : (as.map (·.arg)).Nodup) (us ws : List Value) (h : us.length + ws.length = as.length) :
    bindArgs fd ⟨us, ((as.map (·.arg)).drop us.length).zip ws⟩ = pure ((as.map (·.arg)).zip (us ++ ws)) := by
  have hs : seqItems? fd.defaults = pure none := by rw [hd]; rfl
  unfold bindArgs
  rw [hs]
  simp only [hp]
  have e0 : (List.map (fun x => x.arg) ([] : List Arg) ++ List.map (fun x => x.arg) as) = List.map (fun x => x.arg) as := rfl
  rw [e0]
  generalize hps : List.map (fun x => x.arg) as = ps at nd ⊢
  have hlen : ps.length = as.length := by rw [← hps, List.length_map]
  have hl : ps.length = (us ++ ws).length := by rw [List.length_append, h, hlen]
  have hz : ps.zip us ++ (ps.drop us.length).zip ws = ps.zip (us ++ ws) := by
    have e1 : ps = ps.take us.length ++ ps.drop us.length := (List.take_append_drop _ _).symm
    have e2 : ps.zip us = (ps.take us.length).zip us := by
      conv => lhs; rw [e1]
      rw [show us = us ++ [] by simp, List.zip_append (by rw [List.length_take, hlen]; simp; omega)]
      simp
    rw [e2]
    conv => rhs; rw [e1]
    rw [List.zip_append (by rw [List.length_take]; omega)]
  have keys : (ps.zip (us ++ ws)).map (·.1) = ps := by rw [List.map_fst_zip]; omega
  rw [forIn_fold _ (fun s kv => (s.1 ++ [kv], s.2)) _ _ ?step]
  case step =>
    intro pre x post e
    rw [fold_app]
    have hx : x.1 ∈ ps := by
      have : x ∈ (ps.drop us.length).zip ws := by rw [e]; simp
      exact List.mem_of_mem_drop (List.of_mem_zip (a := x.1) (b := x.2) this).1
    have hn : (ps.zip us ++ pre).lookup x.1 = none := by
      refine pre_none _ x post ?_
      rw [List.append_assoc, ← e, hz, keys]; exact nd
    have hc : (ps.contains x.1 || (List.map (fun x => x.arg) ([] : List Arg)).contains x.1) = true := by
      rw [List.contains_iff_mem.mpr hx]; rfl
    rw [if_pos hc]
    simp only [hn]
    rfl
  rw [fold_app]
  simp only [pure_bind, hz]
  have miss : (ps.filter fun n => ((ps.zip (us ++ ws)).lookup n).isNone) = [] := by
    rw [List.filter_eq_nil_iff]
    intro x hx
    obtain ⟨i, hi⟩ := List.getElem?_of_mem hx
    obtain ⟨u, _, e⟩ := zip_look i nd hl hi
    rw [e]; simp
  have fm := fm_zip (L := ps.zip (us ++ ws)) hl fun i x hx => zip_look i nd hl hx
  have tk : List.take ps.length ps = ps := List.take_of_length_le (Nat.le_refl _)
  have hle : ¬ ps.length < us.length := by rw [hlen]; omega
  simp [fm, miss, tk, hle]
theorem bind_sw {fd : FuncData} {s a b : Arg} (hp : fd.params = ⟨[], [s, a, b], none, [], [], none, []⟩) (hd : fd.defaults = .none) (h1 : s.arg ≠ a.arg) (h2 : s.arg ≠ b.arg) (h3 : a.arg ≠ b.arg) (u x y : Value) :
    bindArgs fd ⟨[u], [(b.arg, x), (a.arg, y)]⟩ = pure [(s.arg, u), (a.arg, y), (b.arg, x)] := by
  have hs : seqItems? fd.defaults = pure none := by rw [hd]; rfl
  have b1 : (a.arg == s.arg) = false := beq_eq_false_iff_ne.mpr (Ne.symm h1)
  have b2 : (b.arg == s.arg) = false := beq_eq_false_iff_ne.mpr (Ne.symm h2)
  have b3 : (a.arg == b.arg) = false := beq_eq_false_iff_ne.mpr h3
  have b4 : (b.arg == a.arg) = false := beq_eq_false_iff_ne.mpr (Ne.symm h3)
  have b5 : (s.arg == a.arg) = false := beq_eq_false_iff_ne.mpr h1
  have b6 : (s.arg == b.arg) = false := beq_eq_false_iff_ne.mpr h2
  unfold bindArgs
  rw [hs]
  simp only [hp]
  simp [List.lookup, b1, b2, b3, b4, b5, b6, h1, h2, h3, Ne.symm h1, Ne.symm h2, Ne.symm h3]
end Ev
end

section
set_option Elab.async false
set_option linter.all false
set_option maxRecDepth 100000
/-! Functions: the promise by fuel. -/
namespace Ev
open PySem PySem.Spec PyProof.Rows L2
/-- what retract gives, in a world of its own -/
theorem retract_ok {T : Tb} {W : WX} {w w' : Wd} {σ : L2.St} {A A' : AH} {d : D} {v : V} {fz : Bool} {Q : VK} (hA : Abs T w A) (e : Ext w w') (a : Abs T w' A') (r : RD T w' d v) (h : Post T W (RD T) w σ (retract fz A A' d) Q) : Q v w'.H := by
  unfold retract at h
  have hn : A.length = w.n := hA.len
  have hle : A.length ≤ w'.n := by rw [hn]; exact e.le
  by_cases hb : Back A A'
  · rw [if_pos hb] at h
    have low : ∀ i o, i < A.length → A'[i]? = some o → o.low A.length = true := fun i o hi q => by
      rcases hb.2 i hi with z | ⟨o', z, l⟩
      · rw [z] at q
        have := (hA.ob i o q).low
        rw [hn]; exact this
      · rw [q] at z; cases z; exact l
    -- the cut world
    have ag : ∀ i, i < w.n → w'.f i = w.f i := e.ag
    have ext : Ext w ⟨w'.f, A.length, w'.H, w'.hid⟩ := ⟨by rw [← hn]; exact Nat.le_refl _, ag, fun i h1 h2 => absurd h1 (by have h2 : i < A.length := h2; omega), e.fm, e.kp, e.hd, e.hm⟩
    have sub : Sub A.length w' ⟨w'.f, A.length, w'.H, w'.hid⟩ := ⟨fun _ _ => rfl, Nat.le_refl _, fun x q => ⟨fun i hi => q.1 i (Nat.lt_of_lt_of_le hi hle), q.2⟩, rfl⟩
    have abs : Abs T ⟨w'.f, A.length, w'.H, w'.hid⟩ (A'.take A.length) := by
      refine ⟨by rw [List.length_take]; exact Nat.min_eq_left hb.1, fun i j hi hj => a.inj i j (Nat.lt_of_lt_of_le hi hle) (Nat.lt_of_lt_of_le hj hle), fun i o q => ?_, fun i hi => a.nh i (Nat.lt_of_lt_of_le hi hle), a.hs⟩
      have hi : i < A.length := by
        have := (List.getElem?_eq_some_iff.mp q).1
        rw [List.length_take] at this; omega
      rw [List.getElem?_take_of_lt hi] at q
      exact RO.sub sub (a.ob i o q) (low i o hi q)
    cases hx : newL A.length A' d with
    | some xs =>
      rw [hx] at h
      unfold newL at hx
      split at hx
      · rename_i j
        split at hx
        · rename_i hj
          split at hx
          · rename_i ys hy
            split at hx
            · rename_i hl
              cases hx
              obtain ⟨vs, t1, t2⟩ := a.ob _ _ hy
              obtain ⟨hjn, rfl⟩ := rd_ref r
              have off : ∀ i, i < A.length → w'.f i ≠ w'.f j := fun i hi z => by
                have := a.inj i j (Nat.lt_of_lt_of_le hi hle) hjn z
                omega
              cases fz with
              | true =>
                have h : Post T W (RD T) w σ (.ok (.lst xs) (A'.take A.length)) Q := h
                refine h ⟨w'.f, A.length, w'.H, w'.hid⟩ _ ext abs ?_
                rw [RD]
                exact ⟨w'.f j, vs, rfl, ⟨t1, off, a.nh j hjn⟩, RDs.sub sub xs vs t2 hl⟩
              | false =>
                have h : Post T W (RD T) w σ (.ok (.ref A.length) (A'.take A.length ++ [.lst xs])) Q := h
                let w2 : Wd := ⟨fun i => if i = A.length then w'.f j else w'.f i, A.length + 1, w'.H, w'.hid⟩
                have ag2 : ∀ i, i < A.length → w2.f i = w'.f i := fun i hi => by
                  show (if i = A.length then _ else _) = _
                  rw [if_neg (by omega)]
                have new : w2.f A.length = w'.f j := by
                  show (if A.length = A.length then _ else _) = _
                  rw [if_pos rfl]
                have sub2 : Sub A.length w' w2 := ⟨ag2, Nat.le_succ _, fun x q => ⟨fun i hi z => by
                  have hi : i < A.length + 1 := hi
                  by_cases e1 : i = A.length
                  · rw [e1, new] at z
                    exact q.1 j hjn z
                  · rw [ag2 i (by omega)] at z
                    exact q.1 i (by omega) z, q.2⟩, rfl⟩
                refine h w2 _ ⟨by show w.n ≤ A.length + 1; omega, fun i hi => (ag2 i (by omega)).trans (ag i hi), fun i h1 h2 => ?_, e.fm, e.kp, e.hd, e.hm⟩ ⟨?_, fun i k hi hk z => ?_, fun i o q => ?_, fun i hi => ?_, a.hs⟩ ?_
                · have h2 : i < A.length + 1 := h2
                  have : i = A.length := by omega
                  subst this
                  show w.H (w2.f A.length) = none
                  rw [new]
                  exact e.fr j (by omega) hjn
                · show (A'.take A.length ++ [AO.lst xs]).length = A.length + 1
                  rw [List.length_append, List.length_take, Nat.min_eq_left hb.1]; rfl
                · have hi : i < A.length + 1 := hi
                  have hk : k < A.length + 1 := hk
                  by_cases e1 : i = A.length <;> by_cases e2 : k = A.length
                  · rw [e1, e2]
                  · rw [e1, new, ag2 k (by omega)] at z
                    exact absurd z.symm (off k (by omega))
                  · rw [e2, new, ag2 i (by omega)] at z
                    exact absurd z (off i (by omega))
                  · rw [ag2 i (by omega), ag2 k (by omega)] at z
                    exact a.inj i k (by omega) (by omega) z
                · have hlen : (A'.take A.length).length = A.length := by rw [List.length_take]; exact Nat.min_eq_left hb.1
                  by_cases hi : i < A.length
                  · rw [List.getElem?_append_left (by rw [hlen]; exact hi)] at q
                    rw [ag2 i hi]
                    rw [List.getElem?_take_of_lt hi] at q
                    exact RO.sub sub2 (a.ob i o q) (low i o hi q)
                  · have hi' : i = A.length := by
                      have := (List.getElem?_eq_some_iff.mp q).1
                      rw [List.length_append, hlen] at this
                      simp at this; omega
                    subst hi'
                    rw [List.getElem?_append_right (by rw [hlen]; exact Nat.le_refl _), hlen] at q
                    simp at q
                    subst q
                    rw [new]
                    exact ⟨vs, t1, RDs.sub sub2 xs vs t2 hl⟩
                · have hi : i < A.length + 1 := hi
                  by_cases e1 : i = A.length
                  · rw [e1, new]; exact a.nh j hjn
                  · rw [ag2 i (by omega)]; exact a.nh i (by omega)
                · rw [RD]
                  exact ⟨Nat.lt_succ_self _, by rw [new]⟩
            · cases hx
          · cases hx
        · cases hx
      · cases hx
    | none =>
      rw [hx] at h
      simp only at h
      by_cases hl : d.low A.length = true
      · rw [if_pos hl] at h
        exact h ⟨w'.f, A.length, w'.H, w'.hid⟩ v ext abs (RD.sub sub d v r hl)
      · rw [if_neg hl] at h
        exact h w' v e a r
  · rw [if_neg hb] at h
    exact h w' v e a r
end Ev
end

section
set_option Elab.async false
set_option linter.all false
set_option maxRecDepth 100000
/-! Functions, two. -/
namespace Ev
open PySem PySem.Spec PyProof.Rows L2
def argsOf (p : Arguments) : Option (List Str) := match p with
  | ⟨[], as, none, [], [], none, []⟩ => some (as.map (·.arg))
  | _ => none
/-- a chain of doublings -/
def chkD (nm : Nm) (N : List Str) (sc : Scope) : E → Expr → Bool
  | .bm (.dbl c) o .nil, .Call (.Attribute x m p) as [] q => decide (m = "replace") && dblB c as && (chkD nm N sc o x || chk nm N sc o x) && notSuper x && (p.endLine == q.line)
  | _, _ => false
/-- a def's body -/
def okBody (nm : Nm) (N ps : List Str) (sc : Scope) (s : S) (body : List Stmt) : Bool :=
  chkB nm N (fun _ => true) sc s body || (match s, body with
    | .seq (.ret e') .pass, [.Return (some e) _] => chkD nm N sc e' e && (sc.names.all fun y => match y.2 with
      | .cell => false
      | _ => true) && decide (1 ≤ ps.length)
    | _, _ => false)
/-- what the head tells -/
structure HdF (T : Tb) (P : Pg) (nm : Nm) (mg : Str → Option Value) : Prop where
  fn : ∀ (f : Nat) (fi : FnI), P.fns[f]? = some fi → ∃ (d : He.DefD) (fd : FuncData) (ps N : List Str), FunD T.K d.name d.qual d.params d.body d.scope [] [] (He.fAd T.K d.at_) fd ∧ FnScope N ps d.scope ∧ fi.np = ps.length ∧ fi.ns = N.length ∧ ps.Nodup ∧ argsOf d.params = some ps ∧
    okBody nm N ps d.scope fi.body d.body = true ∧ nm.par[f]? = some ps ∧
    ((∃ x, nm.fns[f]? = some (none, x) ∧ mg x = some (.ref (He.fAd T.K d.at_))) ∨
      ∃ c m, nm.fns[f]? = some (some c, m) ∧ Cls T.K (T.cad c) ∧ Meth T.K (T.cad c) m (He.fAd T.K d.at_) ∧ ∀ j, T.fld j ≠ m)
  len : nm.fns.length = P.fns.length
  mak : ∀ (c : Nat) (x : Str), nm.cls[c]? = some x → mg x = some (.ref (T.cad c)) ∧ ∃ a, Mk T.K (T.cad c) a ∧ ∀ f, P.mks[c]? = some f → nm.fns[f]? = some (some c, ("__init__" : Str)) ∧ Meth T.K (T.cad c) "__init__" a
  cls : ∀ (c f : Nat), P.mks[c]? = some f → ClsOk T c
  fl : ∀ (f : Nat) (x : Str), nm.fld[f]? = some x → f < T.nf ∧ T.fld f = x
  inj : ∀ i j, T.fld i = T.fld j → i = j
  gl : ∀ (i : Nat) (x : Str) (d : D), nm.glob[i]? = some x → P.glob[i]? = some d → ∃ u v, mg x = some u ∧ RelV v u ∧ RD T ⟨fun _ => 0, 0, fun _ => none, fun _ => False⟩ d v
  bl : ∀ x, x ∈ builtins → mg x = none
  xcl : ∀ (c : Nat) (x : Str) (fs : List Nat), nm.exc[c]? = some (x, fs) → XcHd T.K mg x (T.xad c) (fs.map T.fld) ∧ XfC T.K (T.xad c) ∧ ∀ (f : Nat) (n : Str), nm.fld[f]? = some n → PySem.W.findIn T.K (.ref (T.xad c)) n = some none
  exm : ∀ c d, c < nm.exc.length → d < nm.exc.length → PySem.W.exmOne T.K (.ref (T.xad c)) (.ref (T.xad d)) = some (decide (c = d))
  xo : ∀ c, c < nm.exc.length → XoOk T c
  isx : ∀ (i : Nat) (y : Str) (ts : List Nat), nm.isx[i]? = some (y, ts) → ∃ (cv : V) (u : Value), ClsV cv u ∧ RelV cv u ∧ (mg y = some u ∨ (mg y = none ∧ bootBuiltins y = some u)) ∧ ∀ c, c < nm.exc.length → PySem.W.kitOne T.K (.ref (T.xad c)) u = some (decide (c ∈ ts))
  base : ∀ y, y ∈ nm.base → ∃ C : Addr, mg y = some (.ref C) ∧ ∀ c, c < nm.exc.length → PySem.W.exmOne T.K (.ref (T.xad c)) (.ref C) = some true
  nx : T.nx = nm.exc.length
theorem fnOf_params {x qual : Str} {params : Arguments} {body : List Stmt} {scope : Scope} {dV kV doc pm : Value} {an : Option Addr} {cdv ct : Value} : (PySem.W.fnOf x qual params body scope dV kV doc pm an cdv ct).params = params ∧ (PySem.W.fnOf x qual params body scope dV kV doc pm an cdv ct).defaults = dV := ⟨rfl, rfl⟩
section
variable {K : PySem.W.Frag} {x qual : Str} {params : Arguments} {body : List Stmt} {scope : Scope} {f : Addr} {fd : FuncData} {ps : List Str}
theorem fd_of (F : FunD K x qual params body scope [] [] f fd) : fd.params = params ∧ fd.defaults = .none := by
  obtain ⟨oc, od, dV, kV, doc, pm, an, cdv, ct, osl, rfl, lk, hcd, hdV, _⟩ := F.ex
  refine ⟨rfl, ?_⟩
  rcases hdV with ⟨_, e⟩ | ⟨e, _⟩
  · exact e
  · exact absurd rfl e
theorem args_of (h : argsOf params = some ps) : ∃ as, params = ⟨[], as, none, [], [], none, []⟩ ∧ ps = as.map (·.arg) := by
  unfold argsOf at h
  split at h
  · cases h; exact ⟨_, rfl, rfl⟩
  · cases h
theorem binds_of (F : FunD K x qual params body scope [] [] f fd) (h : argsOf params = some ps) (nd : ps.Nodup) : Binds K fd ps [] ∧ ∀ (s : Shared) (ws : List Value), ws.length = ps.length → BindsTo s fd ⟨[], ps.zip ws⟩ (ps.zip ws) := by
  obtain ⟨e1, e2⟩ := fd_of F
  obtain ⟨as, e3, e4⟩ := args_of h
  subst e4
  refine ⟨Binds.all fun us hu => bind_pos (e1.trans e3) e2 nd us (by rw [hu, List.length_map]), fun s ws hw => .of_eq ?_⟩
  exact bind_kw (e1.trans e3) e2 nd [] ws (by rw [hw, List.length_map]; simp)
theorem kwb_of {s : Str} {ps : List Str} (F : FunD K x qual params body scope [] [] f fd) (h : argsOf params = some (s :: ps)) (nd : (s :: ps).Nodup) : KwB fd s ps := by
  obtain ⟨e1, e2⟩ := fd_of F
  obtain ⟨as, e3, e4⟩ := args_of h
  cases as with
  | nil => cases e4
  | cons a0 as =>
    simp only [List.map_cons, List.cons.injEq] at e4
    obtain ⟨e4, e5⟩ := e4
    subst e4 e5
    refine ⟨fun s' u ws hw => .of_eq ?_, fun a b hab s' u x y => .of_eq ?_⟩
    · have := bind_kw (e1.trans e3) e2 nd [u] ws (by rw [List.length_map] at hw; simp [hw]; omega)
      exact this
    · match as, hab with
      | [a1, b1], hab =>
        simp only [List.map_cons, List.map_nil, List.cons.injEq, and_true] at hab
        obtain ⟨h1, h2⟩ := hab
        subst h1 h2
        simp only [List.map_cons, List.map_nil, List.nodup_cons, List.mem_cons, List.not_mem_nil, or_false, not_or] at nd
        exact bind_sw (e1.trans e3) e2 nd.1.1 nd.1.2 nd.2.1 u x y
theorem binds_any (F : FunD K x qual params body scope [] [] f fd) (h : argsOf params = some ps) (nd : ps.Nodup) (s : Shared) (us : List Value) (hu : us.length = ps.length) : BindsTo s fd ⟨us, []⟩ (ps.zip us) := by
  obtain ⟨e1, e2⟩ := fd_of F
  obtain ⟨as, e3, e4⟩ := args_of h
  subst e4
  exact .of_eq (bind_pos (e1.trans e3) e2 nd us (by rw [hu, List.length_map]))
end
section
variable {T : Tb} {P : Pg} {nm : Nm} {k : Nat} {W : WX} {X : Cx}
/-- the start's slots -/
theorem start_rs {w : Wd} {fi : FnI} {ds : List D} {vs : List V} {N : List Str} (r : RDs T w ds vs) (h1 : fi.np = ds.length) (h2 : fi.ns = N.length) : RS T w (start fi ds) (L2.start N vs) := by
  have hl := r.length
  refine ⟨?_, fun i d q => ?_⟩
  · unfold start L2.start
    simp [h1, h2, hl]
  · unfold start at q
    unfold L2.start
    by_cases hi : i < ds.length
    · rw [List.getElem?_append_left (by simpa using hi), List.getElem?_map] at q
      obtain ⟨e, he, h3⟩ := Option.map_eq_some_iff.mp q
      cases h3
      obtain ⟨v, hv, rv⟩ := r.get he
      exact ⟨v, by rw [List.getElem?_append_left (by rw [List.length_map, ← hl]; exact hi), List.getElem?_map, hv]; rfl, rv⟩
    · rw [List.getElem?_append_right (by simpa using Nat.le_of_not_lt hi)] at q
      rw [List.getElem?_replicate] at q
      split at q <;> cases q
theorem pet_of (g : Gd T P nm k W X) : ∀ (e' : E) (e : Expr), chkD nm X.N X.env.scope e' e = true → L2.PET X e (tE T W (cE P k e')) := by
  intro e'
  induction e' with
  | bm b o es iho _ =>
    intro e h
    cases b with
    | dbl c =>
      cases es <;> first | (cases e <;> exact ff h) | skip
      cases e <;> first | exact ff h | skip
      rename_i fu xs kws p
      cases fu <;> first | exact ff h | skip
      rename_i x m q
      cases kws <;> first | exact ff h | skip
      have h : (decide (m = "replace") && dblB c xs && (chkD nm X.N X.env.scope o x || chk nm X.N X.env.scope o x) && notSuper x && (q.endLine == p.line)) = true := h
      obtain ⟨h1, h2, h3, h4, h5⟩ := and5 h
      have h1 := of_decide_eq_true h1
      obtain ⟨ja, pa, jb, pb, rfl⟩ := dblB_inv h2
      subst h1
      have ho : L2.PET X x (tE T W (cE P k o)) := by
        cases hd : chkD nm X.N X.env.scope o x with
        | true => exact iho x hd
        | false =>
          rw [hd] at h3
          exact CwR.PET.of ((snd o).1 g x h3).1
      have q := CwR.pet_replT (X := X) (j := ja) (k := jb) (c0 := pa) (c1 := pb) (apos := q) (pos := p) ho (dbl_ne c) rfl (plain_sup h4) h5
      exact fun pins s σ H Q h0 I hq => q pins s σ H Q h0 I (repl_ok σ H Q hq)
    | _ => cases e <;> exact ff h
  | _ => intro e h; cases e <;> exact ff h
theorem gd_of {mg : Str → Option Value} (hd : HdF T P nm mg) (hK : X.K = T.K) (hmg : X.mg = mg) (hc : X.calm = true) (hN : X.N.Nodup) (hr : Room k X.A) (ht : Takes X W)
    (F : ∀ (f : Nat) (fi : FnI) (d : He.DefD) (fd : FuncData) (ps N : List Str), P.fns[f]? = some fi → nm.par[f]? = some ps → FunD T.K d.name d.qual d.params d.body d.scope [] [] (He.fAd T.K d.at_) fd → FnScope N ps d.scope → fi.np = ps.length → fi.ns = N.length → okBody nm N ps d.scope fi.body d.body = true →
      ∀ j, j ≤ k → FnOk X.prog X.w X.K X.mg X.base (L2.CX X.prog X.w) j (He.fAd T.K d.at_) fd ps (spF T P j (.fn f))) : Gd T P nm k W X := by
  subst hmg
  have get : ∀ f p, nm.fns[f]? = some p → ∃ fi, P.fns[f]? = some fi := fun f p h => by
    have h1 := (List.getElem?_eq_some_iff.mp h).1
    rw [hd.len] at h1
    exact ⟨_, List.getElem?_eq_getElem h1⟩
  refine ⟨hK, hc, hN, hr, ht, fun f x hx => ?_, fun f x ps hx hp => ?_, fun f c m hx => ?_, fun c x hx => ?_, hd.cls, hd.fl, hd.inj, hd.gl, hd.bl, fun c x fs h => ?_, fun c d h1 h2 => by rw [hK]; exact hd.exm c d h1 h2, hd.xo, fun i y ts h => by rw [hK]; exact hd.isx i y ts h, fun y h => by rw [hK]; exact hd.base y h, hd.nx⟩
  · obtain ⟨fi, hfi⟩ := get f _ hx
    obtain ⟨d, fd, ps, N, h1, h2, h3, h4, h5, h6, h7, h8, h9⟩ := hd.fn f fi hfi
    have FF := F f fi d fd ps N hfi h8 h1 h2 h3 h4 h7 k (Nat.le_refl k)
    rcases h9 with ⟨y, e1, e2⟩ | ⟨c, m, e1, _⟩
    · rw [hx] at e1; cases e1
      exact ⟨_, fd, ps, e2, by rw [hK]; exact h1.kp, FF, by rw [hK]; exact (binds_of h1 h6 h5).1⟩
    · rw [hx] at e1; cases e1
  · obtain ⟨fi, hfi⟩ := get f _ hx
    obtain ⟨d, fd, ps', N, h1, h2, h3, h4, h5, h6, h7, h8, h9⟩ := hd.fn f fi hfi
    rw [hp] at h8; cases h8
    have FF := F f fi d fd ps N hfi hp h1 h2 h3 h4 h7 k (Nat.le_refl k)
    rcases h9 with ⟨y, e1, e2⟩ | ⟨c, m, e1, _⟩
    · rw [hx] at e1; cases e1
      exact ⟨_, fd, e2, by rw [hK]; exact h1.kp, FF, (binds_of h1 h6 h5).2⟩
    · rw [hx] at e1; cases e1
  · obtain ⟨fi, hfi⟩ := get f _ hx
    obtain ⟨d, fd, ps, N, h1, h2, h3, h4, h5, h6, h7, h8, h9⟩ := hd.fn f fi hfi
    have FF := F f fi d fd ps N hfi h8 h1 h2 h3 h4 h7 k (Nat.le_refl k)
    rcases h9 with ⟨y, e1, e2⟩ | ⟨c', m', e1, e2, e3, e4⟩
    · rw [hx] at e1; cases e1
    · rw [hx] at e1; cases e1
      exact ⟨_, fd, ps, by rw [hK]; exact e2, by rw [hK]; exact e3, FF, by rw [hK]; exact (binds_of h1 h6 h5).1, e4⟩
  · obtain ⟨m1, a, m2, m3⟩ := hd.mak c x hx
    refine ⟨a, m1, by rw [hK]; exact m2, fun f hf j hj => ?_⟩
    obtain ⟨e1, e2⟩ := m3 f hf
    obtain ⟨fi, hfi⟩ := get f _ e1
    obtain ⟨d, fd, ps, N, h1, h2, h3, h4, h5, h6, h7, h8, h9⟩ := hd.fn f fi hfi
    have FF := F f fi d fd ps N hfi h8 h1 h2 h3 h4 h7 j (by omega)
    rcases h9 with ⟨y, e3, _⟩ | ⟨c', m', e3, e4, e5, e6⟩
    · rw [e1] at e3; cases e3
    · rw [e1] at e3; cases e3
      have ea : a = He.fAd T.K d.at_ := by
        have h1 := e2.at_
        rw [e5.at_] at h1
        injection h1 with h1
        injection h1 with h1
        injection h1 with h1
        exact h1.symm
      subst ea
      exact ⟨fd, ps, FF, by rw [hK]; exact (binds_of h1 h6 h5).1⟩
  · obtain ⟨q1, q2, q3⟩ := hd.xcl c x fs h
    exact ⟨q1.ok hK rfl, by rw [hK]; exact q2, by rw [hK]; exact q3⟩
/-- every def keeps its promise -/
theorem fns_ok {prog : Program} {w : World} {mg : Str → Option Value} {base : Heap} (hd : HdF T P nm mg) : ∀ (k : Nat) (f : Nat) (fi : FnI) (d : He.DefD) (fd : FuncData) (ps N : List Str), P.fns[f]? = some fi → nm.par[f]? = some ps → FunD T.K d.name d.qual d.params d.body d.scope [] [] (He.fAd T.K d.at_) fd →
    FnScope N ps d.scope → fi.np = ps.length → fi.ns = N.length → okBody nm N ps d.scope fi.body d.body = true → FnOk prog w T.K mg base (L2.CX prog w) k (He.fAd T.K d.at_) fd ps (spF T P k (.fn f)) := by
  intro k
  induction k using Nat.strongRecOn with
  | _ k ih =>
    intro f fi d fd ps N hfi hpar hF S hnp hns hok
    cases k with
    | zero =>
      refine ⟨fun vs H Q E ⟨w, ds, A, _, _, _, h⟩ => h.elim, fun A outer s H args us vs Q E _ _ _ _ ⟨w, ds, A, _, _, _, h⟩ => h.elim⟩
    | succ k =>
      have len : ∀ vs H Q E, spF T P (k + 1) (.fn f) vs H Q E → vs.length = ps.length := fun vs H Q E ⟨w, ds, A, _, _, r, h⟩ => by
        have h : Post T (fun c d _ H => E c d H) (RD T) w [] (match P.fns[f]? with
          | some fi => if ds.length = fi.np then
              (match evS (callF P k) P.glob fi.body (start fi ds) A with
              | .ok (.rt d) _ H' => retract fi.fz A H' d
              | .ok .nx _ H' => retract fi.fz A H' .non
              | .ex c fs _ H' => .ex c fs H'
              | _ => .no)
            else .no
          | none => .no) Q := h
        rw [hfi] at h
        simp only at h
        by_cases hl : ds.length = fi.np
        · rw [← r.length, hl, hnp]
        · rw [if_neg hl] at h; exact h.elim
      have body : ∀ (cdv : Value) (A : Around) (outer : List Env) (s : Shared) (H : Hp) (vs : List V) (Q : VK) (E : XK), Room k (A.deeper (envOfC d.qual d.scope s.heap.objs.size (He.fAd T.K d.at_) cdv)) → spF T P (k + 1) (.fn f) vs H Q E →
          Gd T P nm k (fun c d _ H => E c d H) (cxOf (L2.CX prog w) prog w T.K mg base N d.qual d.scope (He.fAd T.K d.at_) cdv A outer s H E) ∧
          PassesOwn (model prog w) (A.deeper (envOfC d.qual d.scope s.heap.objs.size (He.fAd T.K d.at_) cdv)) (envOfC d.qual d.scope s.heap.objs.size (He.fAd T.K d.at_) cdv) (cxOf (L2.CX prog w) prog w T.K mg base N d.qual d.scope (He.fAd T.K d.at_) cdv A outer s H E).xe ∧
          tS T (fun c d _ H => E c d H) (cS P k fi.body) { nx := fun _ H' => Q .non H', rt := Q } (L2.start N vs) H := by
        intro cdv A outer s H vs Q E hr hsp
        refine ⟨gd_of hd rfl rfl rfl S.nd hr (takes_of rfl rfl rfl rfl) fun f fi d fd ps N a1 a2 a3 a4 a5 a6 a7 j hj => ih j (by omega) f fi d fd ps N a1 a2 a3 a4 a5 a6 a7, passes_of (X := cxOf (L2.CX prog w) prog w T.K mg base N d.qual d.scope (He.fAd T.K d.at_) cdv A outer s H E) rfl, ?_⟩
        obtain ⟨wd, ds, Ah, e, hA, r, h⟩ := hsp
        subst e
        have h : Post T (fun c d _ H => E c d H) (RD T) wd [] (match P.fns[f]? with
          | some fi => if ds.length = fi.np then
              (match evS (callF P k) P.glob fi.body (start fi ds) Ah with
              | .ok (.rt d) _ H' => retract fi.fz Ah H' d
              | .ok .nx _ H' => retract fi.fz Ah H' .non
              | .ex c fs _ H' => .ex c fs H'
              | _ => .no)
            else .no
          | none => .no) Q := h
        rw [hfi] at h
        simp only at h
        by_cases hl : ds.length = fi.np
        · rw [if_pos hl] at h
          refine ⟨wd, start fi ds, Ah, rfl, hA, start_rs r hl.symm hns, ?_⟩
          revert h
          show Post T (fun c d _ H => E c d H) (RD T) wd [] (match cS P k fi.body (start fi ds) Ah with
              | .ok (.rt d) _ H' => retract fi.fz Ah H' d
              | .ok .nx _ H' => retract fi.fz Ah H' .non
              | .ex c fs _ H' => .ex c fs H'
              | _ => .no) Q → PostS T (fun c d _ H => E c d H) wd (cS P k fi.body (start fi ds) Ah) _
          cases cS P k fi.body (start fi ds) Ah with
          | no => exact fun h => h
          | ex c fs σa A' => exact fun h w' σ dx ws e a _ q x => h w' dx ws e a q x
          | ok fl σa A' =>
            cases fl with
            | nx => exact fun h w' σ e a _ => retract_ok hA e a rd_non' h
            | rt d => exact fun h w' v e a r => retract_ok hA e a r h
            | bk => exact fun h => h.elim
            | ct => exact fun h => h.elim
        · rw [if_neg hl] at h; exact h.elim
      unfold okBody at hok
      rw [Bool.or_eq_true] at hok
      rcases hok with hok | hok
      · refine hF.ok S len fun cdv A outer s H vs Q E hr hsp => ?_
        obtain ⟨g, hp, ht⟩ := body cdv A outer s H vs Q E hr hsp
        exact ⟨_, (snds (fb := fun _ => true) fi.body g hp (fun _ _ => rfl) ⟨rfl, rfl⟩).2 d.body hok, ht⟩
      · split at hok
        · rename_i s0 b0 e' e p hs hb
          obtain ⟨h1, h2, h3⟩ := and3 hok
          have hnc : ∀ y ∈ d.scope.names, y.2 ≠ .cell := fun y hy z => by
            have := List.all_eq_true.mp h2 y hy
            rw [z] at this
            cases this
          obtain ⟨oc, od, dV, kV, doc, pm, an, cdv, ct, osl, rfl, lk, hcd, _, _⟩ := hF.ex
          rw [hb] at lk ⊢
          refine fn_ofT lk hcd S hnc (of_decide_eq_true h3) len fun A outer s H vs Q E hr hsp => ?_
          obtain ⟨g, hp, ht⟩ := body cdv A outer s H vs Q E hr hsp
          refine ⟨_, CwR.psst_one (CwR.pst_ret (pet_of g e' e h1)), ?_⟩
          rw [hs] at ht
          obtain ⟨wd, σa, A', e1, hA, hS, hP⟩ := ht
          subst e1
          have hP : PostS T _ wd (match bindS σa (cE P k e' σa A') (fun d H1 => .ok (.rt d) σa H1) with
            | .ok .nx σ1 H1 => .ok .nx σ1 H1
            | r => r) _ := hP
          refine ⟨wd, σa, A', rfl, hA, hS, ?_⟩
          revert hP
          cases cE P k e' σa A' with
          | no => exact fun h => h
          | ex c fs A1 => exact fun h w' dx ws e a q x => h w' _ dx ws e a (hS.mono e) q x
          | ok d1 A1 => exact fun h w' v e a r => h w' v e a r
        · cases hok
end
end Ev
end

section
set_option Elab.async false
set_option linter.all false
set_option maxRecDepth 100000
/-! The head's facts, the end. -/
namespace Ev
open PySem PySem.Spec PyProof.Rows L2
def low0 (x : Str) : Bool := x.cps[0]? == some 0
def fldOf (l : List Str) (i : Nat) : Str := match l[i]? with
  | some x => x
  | none => ⟨#[0, i]⟩
def tbOf (nm : Nm) (K : PySem.W.Frag) : Tb := ⟨K, fun c => He.ga K (nm.cls.getD c Str.empty), fun c => He.ga K (nm.exc.getD c (Str.empty, [])).1, fldOf nm.fld, nm.fld.length, nm.exc.length⟩
theorem low0_new (i : Nat) : low0 ⟨#[0, i]⟩ = true := rfl
theorem fld_some {l : List Str} {i : Nat} {x : Str} (h : l[i]? = some x) : fldOf l i = x := by unfold fldOf; rw [h]
theorem fld_none {l : List Str} {i : Nat} (h : l[i]? = none) : fldOf l i = ⟨#[0, i]⟩ := by unfold fldOf; rw [h]
theorem fld_inj {l : List Str} (nd : l.Nodup) (h0 : ∀ x ∈ l, low0 x = false) (i j : Nat) (e : fldOf l i = fldOf l j) : i = j := by
  cases hi : l[i]? with
  | some x =>
    cases hj : l[j]? with
    | some y =>
      rw [fld_some hi, fld_some hj] at e
      subst e
      exact (List.getElem?_inj (List.getElem?_eq_some_iff.mp hi).1 nd).mp (hi.trans hj.symm)
    | none =>
      rw [fld_some hi, fld_none hj] at e
      have := h0 x (List.mem_of_getElem? hi)
      rw [e, low0_new] at this; cases this
  | none =>
    cases hj : l[j]? with
    | some y =>
      rw [fld_none hi, fld_some hj] at e
      have := h0 y (List.mem_of_getElem? hj)
      rw [← e, low0_new] at this; cases this
    | none =>
      rw [fld_none hi, fld_none hj] at e
      have := congrArg (fun s : Str => s.cps[1]?) e
      simpa using this
theorem fld_ne {l : List Str} {m : Str} (h1 : m ∉ l) (h0 : low0 m = false) (j : Nat) : fldOf l j ≠ m := by
  intro e
  cases hj : l[j]? with
  | some y =>
    rw [fld_some hj] at e
    subst e
    exact h1 (List.mem_of_getElem? hj)
  | none =>
    rw [fld_none hj] at e
    rw [← e, low0_new] at h0; cases h0
/-- the facts that the head is asked for -/
def faOf0 (nm : Nm) (gi : List Int) : List He.Fa :=
  (nm.fns.filterMap fun p => match p.1 with
    | none => some (He.Fa.glo p.2)
    | some c => (nm.cls[c]?).map fun C => He.Fa.meth C p.2) ++
  (nm.cls.flatMap fun C => [He.Fa.glo C, .cls C, .mkr C] ++ nm.fld.map fun f => .noat C f) ++ (nm.glob.zip gi).map (fun p => He.Fa.int p.1 p.2) ++ (builtins.map fun x => He.Fa.free x) ++
  ((nm.exc.flatMap fun p => [He.Fa.glo p.1] ++ nm.fld.map fun f => .noat p.1 f) ++ nm.exc.flatMap fun p => nm.exc.map fun q => .exm p.1 q.1 (decide (p.1 = q.1)))
def isOwn (nm : Nm) (y : Str) : Bool := decide (y ∈ nm.exc.map (·.1)) || decide (y ∈ nm.base)
def faX (nm : Nm) : List He.Fa := (nm.isx.map fun p => if isOwn nm p.1 then He.Fa.glo p.1 else He.Fa.free p.1) ++ nm.base.map fun y => He.Fa.glo y
def faOf (nm : Nm) (gi : List Int) : List He.Fa := faOf0 nm gi ++ faX nm
/-- what isinstance asks of an own exception class -/
def excCB (K : PySem.W.Frag) (C : Addr) : Bool := He.eqO (PySem.W.findIn K (.ref C) "__getattribute__") (some (some (.builtin "BaseException.__getattribute__"))) && (He.eqO (PySem.W.findIn K (.ref C) "__getattr__") (some none) && (decide (PySem.W.subIn K (.ref C) (.type "BaseException") = some true) && (PySem.W.hasDictIn K C && (He.eqO (PySem.W.findIn K (.ref C) "__class__") (some (some (.builtin "object.__class__"))) && (He.eqO (PySem.W.specialIn K (.builtin "object.__class__") "__get__") (some (some (.builtin "getset_descriptor.__get__"))) && (decide (PySem.W.takesIn K (.builtin "object.__class__") = some true) && decide (PySem.W.mroIn K C (.type "object") = some true)))))))
theorem excCB_ok {K : PySem.W.Frag} {C : Addr} (h : excCB K C = true) : ExcC K C := by
  unfold excCB at h
  obtain ⟨h1, h⟩ := He.ba h
  obtain ⟨h2, h⟩ := He.ba h
  obtain ⟨h3, h⟩ := He.ba h
  obtain ⟨h4, h⟩ := He.ba h
  obtain ⟨h5, h⟩ := He.ba h
  obtain ⟨h6, h⟩ := He.ba h
  obtain ⟨h7, h8⟩ := He.ba h
  exact ⟨He.eqO_ok h1, He.eqO_ok h2, of_decide_eq_true h3, h4, He.eqO_ok h5, He.eqO_ok h6, of_decide_eq_true h7, of_decide_eq_true h8⟩
def isU (nm : Nm) (K : PySem.W.Frag) (y : Str) : Option Value := if isOwn nm y then some (.ref (He.ga K y)) else match bootBuiltins y with
  | some (.type n) => some (.type n)
  | _ => none
def isB (nm : Nm) (K : PySem.W.Frag) : Bool := nm.isx.all fun p => match isU nm K p.1 with
  | some u => nm.exc.zipIdx.all fun q => decide (PySem.W.kitOne K (.ref (He.ga K q.1.1)) u = some (decide (q.2 ∈ p.2)))
  | none => false
def baB (nm : Nm) (K : PySem.W.Frag) : Bool := nm.base.all fun y => nm.exc.all fun q => decide (PySem.W.exmOne K (.ref (He.ga K q.1)) (.ref (He.ga K y)) = some true)
/-- an own exception class over Exception -/
def oexB (K : PySem.W.Frag) (C : Addr) : Bool := (match K.lookup C with
  | some ⟨.type "type", _, .cls cd, sl⟩ => (match cd.mro, sl.toList with
    | .ref C' :: bm, [_, _, _, _, some (.builtin n), _] => C' == C && n == "Exception.__new__" && !cd.hasDel && cd.hasDict && refsEx bm
    | _, _ => false)
  | _ => false) && (He.eqO (PySem.W.findIn K (.ref C) "__setattr__") (some (some (.builtin "object.__setattr__"))) && (decide (PySem.W.subIn K (.ref C) (.type "BaseException") = some true) && (decide (PySem.W.typeIn K (.ref C) = some (.type "type")) && PySem.W.keepIn K (.ref C))))
theorem oexB_ok {K : PySem.W.Frag} {C : Addr} (h : oexB K C = true) : OexX K C := by
  unfold oexB at h
  obtain ⟨q, h1⟩ := He.ba h
  obtain ⟨h2, h3⟩ := He.ba h1
  obtain ⟨h4, h5⟩ := He.ba h3
  obtain ⟨h6, h7⟩ := He.ba h5
  refine ⟨?_, He.eqO_ok h2, of_decide_eq_true h4, of_decide_eq_true h6, h7⟩
  split at q
  · rename_i dd cd sl ho
    split at q
    · rename_i C' bm k0 k1 k2 k3 n k5 hm hs
      simp only [Bool.and_eq_true, beq_iff_eq, Bool.not_eq_true'] at q
      obtain ⟨⟨⟨⟨rfl, rfl⟩, hdel⟩, hdd⟩, ht⟩ := q
      obtain ⟨nm, bs, mro, ns, qn, hd, sn, sub, ab, col, del⟩ := cd
      dsimp only at hm hdel hdd
      subst hm hdel hdd
      have hsl : sl = #[k0, k1, k2, k3, some (.builtin "Exception.__new__"), k5] := by
        obtain ⟨l⟩ := sl
        simp only at hs
        rw [hs]
      subst hsl
      exact ⟨nm, qn, ns, bs, bm, sn, sub, ab, col, dd, k0, k1, k2, k3, k5, ho, ht⟩
    · cases q
  · cases q
/-- the further Bool of the head -/
def exB (nm : Nm) (K : PySem.W.Frag) : Bool := (nm.exc.all fun p => excCB K (He.ga K p.1)) && (isB nm K && baB nm K) && nm.exc.all fun p => oexB K (He.ga K p.1) && (xfB K (He.ga K p.1) && (He.eqO (PySem.W.findIn K (.ref (He.ga K p.1)) "__init__") (some (some (.ref (He.ma K (He.ga K p.1) "__init__")))) && decide (PySem.W.typeIn K (.ref (He.ma K (He.ga K p.1) "__init__")) = some (.type "function"))))
def scB (N ps : List Str) (sc : Scope) : Bool := (match sc.kind with
    | .function => true
    | _ => false) && !sc.isCoroutine && !sc.isGenerator && decide N.Nodup && decide (N.take ps.length = ps) && (ps.all fun x => decide (sc.names.lookup x = some .local) || decide (sc.names.lookup x = some .cell)) && (sc.names.all fun y => match y.2 with
    | .free => false
    | _ => true)
/-- one def -/
def oneB (nm : Nm) (d : He.DefD) (fi : FnI) (N : List Str) (key : Option Nat × Str) (ps : List Str) : Bool :=
  (d.dfl.isEmpty && d.kwd.isEmpty) && (decide (argsOf d.params = some ps) && decide ps.Nodup) && (decide (fi.np = ps.length) && decide (fi.ns = N.length)) && scB N ps d.scope && okBody nm N ps d.scope fi.body d.body && (match key.1, d.at_.2 with
    | none, none => decide (key.2 = d.at_.1)
    | some c, some m => decide (key.2 = m) && decide (nm.cls[c]? = some d.at_.1) && decide (m ∉ nm.fld) && !low0 m
    | _, _ => false)
/-- one exception class's __init__ -/
def xB (nm : Nm) (p : Str × List Nat) (d : He.DefD) : Bool := decide (d.at_ = (p.1, some ("__init__" : Str))) && (d.dfl.isEmpty && d.kwd.isEmpty) && (p.2.all fun f => decide (f < nm.fld.length)) && (match argsOf d.params with
  | some (s :: ps) => decide (ps = p.2.map (fldOf nm.fld)) && decide (s :: ps).Nodup && scB (s :: ps) (s :: ps) d.scope && xBody s ps d.body && !ps.isEmpty && decide (ps.length ≤ 900) && ((s :: ps).all fun q => visB d.scope q && !(q == ("__debug__" : Str)) && !(q == ("__classdict__" : Str)))
  | _ => false)
def allX (nm : Nm) : List (Str × List Nat) → List He.DefD → Bool
  | [], [] => true
  | p :: ps, d :: ds => xB nm p d && allX nm ps ds
  | _, _ => false
theorem allX_get {nm : Nm} : ∀ {ps : List (Str × List Nat)} {ds : List He.DefD}, allX nm ps ds = true → ∀ p ∈ ps, ∃ d ∈ ds, xB nm p d = true
  | [], [], _, p, hp => absurd hp (by simp)
  | [], _ :: _, h, _, _ => by cases (show false = true from h)
  | _ :: _, [], h, _, _ => by cases (show false = true from h)
  | q :: ps, d :: ds, h, p, hp => by
    have h : (xB nm q d && allX nm ps ds) = true := h
    rw [Bool.and_eq_true] at h
    rcases List.mem_cons.mp hp with rfl | hp
    · exact ⟨d, List.mem_cons_self, h.1⟩
    · obtain ⟨e, he, h2⟩ := allX_get h.2 p hp
      exact ⟨e, List.mem_cons_of_mem _ he, h2⟩
theorem scB_ok {N ps : List Str} {sc : Scope} (o4 : scB N ps sc = true) : FnScope N ps sc := by
  unfold scB at o4
  obtain ⟨s1, s2, s3, s4, s5, s6, s7⟩ := and7 o4
  refine ⟨?_, by simpa using s2, by simpa using s3, of_decide_eq_true s4, of_decide_eq_true s5, fun x hx => ?_, fun y hy z => ?_⟩
  · split at s1
    · assumption
    · cases s1
  · have := List.all_eq_true.mp s6 x hx
    rw [Bool.or_eq_true] at this
    exact this.imp of_decide_eq_true of_decide_eq_true
  · have := List.all_eq_true.mp s7 y hy
    rw [z] at this; cases this
def allB (nm : Nm) : List He.DefD → List FnI → List (List Str) → List (Option Nat × Str) → List (List Str) → Bool
  | [], [], [], [], [] => true
  | d :: ds, fi :: fis, N :: Ns, key :: ks, ps :: pss => oneB nm d fi N key ps && allB nm ds fis Ns ks pss
  | _, _, _, _, _ => false
theorem allB_get {nm : Nm} : ∀ {ds : List He.DefD} {fis : List FnI} {Ns : List (List Str)} {ks : List (Option Nat × Str)} {pss : List (List Str)}, allB nm ds fis Ns ks pss = true → ks.length = fis.length ∧ ∀ (f : Nat) (fi : FnI), fis[f]? = some fi →
    ∃ d N key ps, ds[f]? = some d ∧ Ns[f]? = some N ∧ ks[f]? = some key ∧ pss[f]? = some ps ∧ oneB nm d fi N key ps = true
  | [], [], [], [], [], _ => ⟨rfl, fun f fi h => by simp at h⟩
  | d :: ds, fi :: fis, N :: Ns, key :: ks, ps :: pss, h => by
    have h : (oneB nm d fi N key ps && allB nm ds fis Ns ks pss) = true := h
    rw [Bool.and_eq_true] at h
    obtain ⟨h1, h2⟩ := allB_get h.2
    refine ⟨by simp [h1], fun f x hx => ?_⟩
    cases f with
    | zero =>
      simp at hx; subst hx
      exact ⟨d, N, key, ps, rfl, rfl, rfl, rfl, h.1⟩
    | succ f =>
      obtain ⟨d', N', key', ps', a1, a2, a3, a4, a5⟩ := h2 f x (by simpa using hx)
      exact ⟨d', N', key', ps', by simpa using a1, by simpa using a2, by simpa using a3, by simpa using a4, a5⟩
  | [], _ :: _, _, _, _, h | [], [], _ :: _, _, _, h | [], [], [], _ :: _, _, h | [], [], [], [], _ :: _, h
  | _ :: _, [], _, _, _, h | _ :: _, _ :: _, [], _, _, h | _ :: _, _ :: _, _ :: _, [], _, h | _ :: _, _ :: _, _ :: _, _ :: _, [], h => by cases (show false = true from h)
def restB (nm : Nm) (P : Pg) : Bool := (P.mks.zipIdx.all fun p => decide (nm.fns[p.1]? = some (some p.2, ("__init__" : Str))) && decide (p.2 < nm.cls.length)) && (decide nm.fld.Nodup && decide (nm.exc.map (·.1)).Nodup) && (nm.fld.all fun x => !low0 x)
theorem meth_get {K : PySem.W.Frag} {C m : Str} (c : (He.Fa.meth C m).ok K = true) : Meth K (He.ga K C) m (He.ma K (He.ga K C) m) := He.meth_ok c
theorem hdf_of {nm : Nm} {P : Pg} {fn fx : List He.DefD} {slots : List (List Str)} {gi : List Int} {K : PySem.W.Frag} {h : Heap} {mg : Str → Option Value} (c : He.SaysD (faOf nm gi) (fn ++ fx) K) (cx : exB nm K = true) (hfx : allX nm nm.exc fx = true) (KX : K.In h) (G : h.Ns mainGlobals mg)
    (hall : allB nm fn P.fns slots nm.fns nm.par = true) (hrest : restB nm P = true) (hgl : P.glob = gi.map D.int) : HdF (tbOf nm K) P nm mg := by
  obtain ⟨hlen, hget⟩ := allB_get hall
  unfold restB at hrest
  obtain ⟨r1, r2, r3⟩ := and3 hrest
  rw [Bool.and_eq_true] at r2
  obtain ⟨r2, r4⟩ := r2
  have r2 := of_decide_eq_true r2
  have r4 := of_decide_eq_true r4
  have r3 : ∀ x ∈ nm.fld, low0 x = false := fun x hx => by simpa using List.all_eq_true.mp r3 x hx
  have fact1 : ∀ f ∈ faOf nm gi, f.ok K = true := fun f hf => by
    obtain ⟨i, hi⟩ := List.getElem?_of_mem hf
    exact c.fact i hi
  have fact : ∀ f ∈ faOf0 nm gi, f.ok K = true := fun f hf => fact1 f (List.mem_append_left _ hf)
  have inX : ∀ f ∈ faX nm, f.ok K = true := fun f hf => fact1 f (List.mem_append_right _ hf)
  unfold exB at cx
  obtain ⟨cx1, cx⟩ := He.ba cx
  obtain ⟨cx1, cx2⟩ := He.ba cx1
  obtain ⟨cx2, cx3⟩ := He.ba cx2
  have inA : ∀ f, f ∈ (nm.fns.filterMap fun p => match p.1 with
    | none => some (He.Fa.glo p.2)
    | some c => (nm.cls[c]?).map fun C => He.Fa.meth C p.2) → f.ok K = true := fun f hf => fact f (List.mem_append_left _ (List.mem_append_left _ (List.mem_append_left _ (List.mem_append_left _ hf))))
  have inB : ∀ f, f ∈ (nm.cls.flatMap fun C => [He.Fa.glo C, .cls C, .mkr C] ++ nm.fld.map fun f => .noat C f) → f.ok K = true := fun f hf => fact f (List.mem_append_left _ (List.mem_append_left _ (List.mem_append_left _ (List.mem_append_right _ hf))))
  have inC : ∀ f, f ∈ (nm.glob.zip gi).map (fun p => He.Fa.int p.1 p.2) → f.ok K = true := fun f hf => fact f (List.mem_append_left _ (List.mem_append_left _ (List.mem_append_right _ hf)))
  have inD : ∀ x : Str, x ∈ builtins → (He.Fa.free x).ok K = true := fun x hx => fact _ (List.mem_append_left _ (List.mem_append_right _ (List.mem_map.mpr ⟨x, hx, rfl⟩)))
  have inE : ∀ f, f ∈ ((nm.exc.flatMap fun p => [He.Fa.glo p.1] ++ nm.fld.map fun f => .noat p.1 f) ++ nm.exc.flatMap fun p => nm.exc.map fun q => .exm p.1 q.1 (decide (p.1 = q.1))) → f.ok K = true := fun f hf => fact f (List.mem_append_right _ hf)
  have xad : ∀ (i : Nat) (p : Str × List Nat), nm.exc[i]? = some p → (tbOf nm K).xad i = He.ga K p.1 := fun i p hp => by
    show He.ga K (nm.exc.getD i (Str.empty, [])).1 = _
    rw [List.getD_eq_getElem?_getD, hp]; rfl
  have cls : ∀ (i : Nat) (C : Str), nm.cls[i]? = some C → (tbOf nm K).cad i = He.ga K C ∧ mg C = some (.ref (He.ga K C)) ∧ Cls K (He.ga K C) ∧ Mk K (He.ga K C) (He.ma K (He.ga K C) "__init__") ∧ ∀ f ∈ nm.fld, NoAttr K (He.ga K C) f := fun i C hC => by
    have hm := List.mem_of_getElem? hC
    have g : ∀ f, f ∈ ([He.Fa.glo C, .cls C, .mkr C] ++ nm.fld.map fun f => .noat C f) → f.ok K = true := fun f hf => inB f (List.mem_flatMap.mpr ⟨C, hm, hf⟩)
    refine ⟨?_, He.glo_ok KX G (g _ (by simp)), He.cls_ok (g _ (by simp)), He.mkr_ok (g _ (by simp)), fun f hf => He.noat_ok (g _ (List.mem_append_right _ (List.mem_map.mpr ⟨f, hf, rfl⟩)))⟩
    show He.ga K (nm.cls.getD i Str.empty) = _
    rw [List.getD_eq_getElem?_getD, hC]; rfl
  have mk : ∀ (ci f : Nat), P.mks[ci]? = some f → nm.fns[f]? = some (some ci, ("__init__" : Str)) ∧ ci < nm.cls.length := fun ci f hf => by
    have := List.all_eq_true.mp r1 (f, ci) (by
      rw [List.mem_zipIdx_iff_getElem?]
      simpa using hf)
    rw [Bool.and_eq_true] at this
    exact ⟨of_decide_eq_true this.1, of_decide_eq_true this.2⟩
  have meth : ∀ (f ci : Nat) (m C : Str), nm.fns[f]? = some (some ci, m) → nm.cls[ci]? = some C → Meth K (He.ga K C) m (He.ma K (He.ga K C) m) := fun f ci m C hf hC =>
    He.meth_ok (inA _ (List.mem_filterMap.mpr ⟨(some ci, m), List.mem_of_getElem? hf, by show (nm.cls[ci]?).map _ = _; rw [hC]; rfl⟩))
  refine ⟨fun f fi hfi => ?_, hlen, fun ci C hC => ?_, fun ci f hf => ?_, fun f x hf => ?_, fld_inj r2 r3, fun i x d hx hd => ?_, fun x hx => He.free_ok KX G (inD x hx), fun i x fs hi => ?_, fun i j hi hj => ?_, fun i hi => ?_, fun i y ts hi => ?_, fun y hy => ?_, rfl⟩
  · obtain ⟨d, N, key, ps, e1, e2, e3, e4, ho⟩ := hget f fi hfi
    unfold oneB at ho
    obtain ⟨o1, o2, o3, o4, o5, o6⟩ := and6 ho
    rw [Bool.and_eq_true] at o1 o2 o3
    obtain ⟨fd, F⟩ := c.def_ f (by rw [List.getElem?_append_left (List.getElem?_eq_some_iff.mp e1).1]; exact e1)
    have z1 : d.dvs K = [] := by
      unfold He.DefD.dvs
      rw [List.isEmpty_iff.mp o1.1]; rfl
    have z2 : d.kws K = [] := by
      unfold He.DefD.kws
      rw [List.isEmpty_iff.mp o1.2]; rfl
    rw [z1, z2] at F
    unfold scB at o4
    obtain ⟨s1, s2, s3, s4, s5, s6, s7⟩ := and7 o4
    have S : FnScope N ps d.scope := by
      refine ⟨?_, by simpa using s2, by simpa using s3, of_decide_eq_true s4, of_decide_eq_true s5, fun x hx => ?_, fun y hy z => ?_⟩
      · split at s1
        · assumption
        · cases s1
      · have := List.all_eq_true.mp s6 x hx
        rw [Bool.or_eq_true] at this
        exact this.imp of_decide_eq_true of_decide_eq_true
      · have := List.all_eq_true.mp s7 y hy
        rw [z] at this; cases this
    refine ⟨d, fd, ps, N, F, S, of_decide_eq_true o3.1, of_decide_eq_true o3.2, of_decide_eq_true o2.2, of_decide_eq_true o2.1, o5, e4, ?_⟩
    obtain ⟨k1, k2⟩ := key
    cases k1 with
    | none =>
      cases hat : d.at_.2 with
      | some m => rw [hat] at o6; cases o6
      | none =>
        rw [hat] at o6
        have o6 : k2 = d.at_.1 := of_decide_eq_true o6
        refine .inl ⟨k2, e3, ?_⟩
        have q := He.glo_ok KX G (x := k2) (inA _ (List.mem_filterMap.mpr ⟨(none, k2), List.mem_of_getElem? e3, rfl⟩))
        rw [q]
        show some (Value.ref (He.ga K k2)) = some (.ref (He.fAd K d.at_))
        unfold He.fAd
        rw [hat, o6]
    | some ci =>
      cases hat : d.at_.2 with
      | none => rw [hat] at o6; cases o6
      | some m =>
        rw [hat] at o6
        obtain ⟨p1, p2, p3, p4⟩ := and4 o6
        have p1 : k2 = m := of_decide_eq_true p1
        subst p1
        have p2 := of_decide_eq_true p2
        obtain ⟨q1, q2, q3, q4, q5⟩ := cls ci _ p2
        refine .inr ⟨ci, k2, e3, by rw [q1]; exact q3, ?_, fld_ne (of_decide_eq_true p3) (by simpa using p4)⟩
        rw [q1]
        have := meth f ci k2 _ e3 p2
        show Meth K _ k2 (He.fAd K d.at_)
        unfold He.fAd
        rw [hat]
        exact this
  · obtain ⟨q1, q2, q3, q4, q5⟩ := cls ci C hC
    refine ⟨by rw [q1]; exact q2, _, by rw [q1]; exact q4, fun f hf => ?_⟩
    obtain ⟨m1, m2⟩ := mk ci f hf
    exact ⟨m1, by rw [q1]; exact meth f ci _ C m1 hC⟩
  · obtain ⟨m1, m2⟩ := mk ci f hf
    obtain ⟨q1, q2, q3, q4, q5⟩ := cls ci _ (List.getElem?_eq_getElem m2)
    refine ⟨by rw [q1]; exact q3, fun i hi => ?_⟩
    rw [q1]
    have hi : i < nm.fld.length := hi
    show NoAttr K _ (fldOf nm.fld i)
    rw [fld_some (List.getElem?_eq_getElem hi)]
    exact q5 _ (List.getElem_mem hi)
  · exact ⟨(List.getElem?_eq_some_iff.mp hf).1, fld_some hf⟩
  · rw [hgl, List.getElem?_map] at hd
    obtain ⟨z, hz, e⟩ := Option.map_eq_some_iff.mp hd
    subst e
    obtain ⟨t, ht⟩ := He.int_ok KX G (x := x) (i := z) (inC _ (List.mem_map.mpr ⟨(x, z), List.mem_of_getElem? (i := i) (by rw [List.getElem?_zip_eq_some]; exact ⟨hx, hz⟩), rfl⟩))
    exact ⟨_, .int z, ht, ⟨t, rfl⟩, rd_int'⟩
  · have hm := List.mem_of_getElem? hi
    rw [xad i _ hi]
    have hb := List.all_eq_true.mp cx _ hm
    obtain ⟨b1, b2⟩ := He.ba hb
    obtain ⟨b2, b3⟩ := He.ba b2
    obtain ⟨b3, b4⟩ := He.ba b3
    have no : ∀ f ∈ nm.fld, PySem.W.findIn K (.ref (He.ga K x)) f = some none := fun f hf => He.eqO_ok (inE (.noat x f) (List.mem_append_left _ (List.mem_flatMap.mpr ⟨_, hm, List.mem_append_right _ (List.mem_map.mpr ⟨f, hf, rfl⟩)⟩)))
    refine ⟨⟨oexB_ok b1, He.glo_ok KX G (inE (.glo x) (List.mem_append_left _ (List.mem_flatMap.mpr ⟨_, hm, by simp⟩))), ?_⟩, xfB_ok b2, fun f n hn => no n (List.mem_of_getElem? hn)⟩
    obtain ⟨d, hd, ho⟩ := allX_get hfx _ hm
    obtain ⟨fd, F⟩ := c.defs (List.mem_append_right _ hd)
    unfold xB at ho
    obtain ⟨o1, o2, o3, o4⟩ := and4 ho
    rw [Bool.and_eq_true] at o2
    have z1 : d.dvs K = [] := by
      unfold He.DefD.dvs
      rw [List.isEmpty_iff.mp o2.1]; rfl
    have z2 : d.kws K = [] := by
      unfold He.DefD.kws
      rw [List.isEmpty_iff.mp o2.2]; rfl
    rw [z1, z2] at F
    cases ha : argsOf d.params with
    | none => rw [ha] at o4; cases o4
    | some ps =>
      rw [ha] at o4
      cases ps with
      | nil => cases o4
      | cons s ps =>
        obtain ⟨p1, p2, p3, p4, p5, p6, p7⟩ := and7 o4
        have p1 := of_decide_eq_true p1
        have p1 : ps = fs.map (fldOf nm.fld) := p1
        have at_ : He.fAd K d.at_ = He.ma K (He.ga K x) "__init__" := by
          rw [of_decide_eq_true o1]; rfl
        rw [at_] at F
        have e : fs.map (tbOf nm K).fld = ps := p1.symm
        rw [e]
        refine ⟨_, fd, s, d.name, d.qual, d.params, d.body, d.scope, He.eqO_ok b3, of_decide_eq_true b4, F, scB_ok p3, fun q hq => ?_, p4, (fun z => by rw [z] at p5; cases p5), of_decide_eq_true p6, fun q hq => ?_, (binds_of F ha (of_decide_eq_true p2)).1, kwb_of F ha (of_decide_eq_true p2)⟩
        · rw [p1] at hq
          obtain ⟨j, hj, e⟩ := List.mem_map.mp hq
          have hj := of_decide_eq_true (List.all_eq_true.mp o3 j hj)
          rw [← e, fld_some (List.getElem?_eq_getElem hj)]
          exact no _ (List.getElem_mem hj)
        · obtain ⟨v1, v2, v3⟩ := and3 (List.all_eq_true.mp p7 q hq)
          exact ⟨v1, by simpa using v2, by simpa using v3⟩
  · obtain ⟨p, hp⟩ : ∃ p, nm.exc[i]? = some p := ⟨_, List.getElem?_eq_getElem hi⟩
    obtain ⟨q, hq⟩ : ∃ q, nm.exc[j]? = some q := ⟨_, List.getElem?_eq_getElem hj⟩
    rw [xad i _ hp, xad j _ hq]
    have := He.exm_ok (inE (.exm p.1 q.1 (decide (p.1 = q.1))) (List.mem_append_right _ (List.mem_flatMap.mpr ⟨p, List.mem_of_getElem? hp, List.mem_map.mpr ⟨q, List.mem_of_getElem? hq, rfl⟩⟩)))
    show PySem.W.exmOne K _ _ = _
    rw [this]
    congr 1
    have e1 : (nm.exc.map (·.1))[i]? = some p.1 := by rw [List.getElem?_map, hp]; rfl
    have e2 : (nm.exc.map (·.1))[j]? = some q.1 := by rw [List.getElem?_map, hq]; rfl
    refine decide_eq_decide.mpr ⟨fun z => ?_, fun z => ?_⟩
    · rw [z] at e1
      exact (List.getElem?_inj (List.getElem?_eq_some_iff.mp e1).1 r4).mp (e1.trans e2.symm)
    · subst z
      rw [hp] at hq
      cases hq; rfl
  · obtain ⟨p, hp⟩ : ∃ p, nm.exc[i]? = some p := ⟨_, List.getElem?_eq_getElem hi⟩
    have hm := List.mem_of_getElem? hp
    refine ⟨hi, ?_, fun j hj => ?_⟩
    · show ExcC K _
      rw [xad i _ hp]
      exact excCB_ok (List.all_eq_true.mp cx1 _ hm)
    · show PySem.W.findIn K _ _ = _
      rw [xad i _ hp]
      have hj : j < nm.fld.length := hj
      show PySem.W.findIn K _ (fldOf nm.fld j) = _
      rw [fld_some (List.getElem?_eq_getElem hj)]
      exact He.eqO_ok (inE (.noat p.1 _) (List.mem_append_left _ (List.mem_flatMap.mpr ⟨_, hm, List.mem_append_right _ (List.mem_map.mpr ⟨_, List.getElem_mem hj, rfl⟩)⟩)))
  · have hm := List.mem_of_getElem? hi
    have hb := List.all_eq_true.mp cx2 _ hm
    have hf := inX _ (List.mem_append_left _ (List.mem_map.mpr ⟨_, hm, rfl⟩))
    have key : ∀ u, isU nm K y = some u → ∀ c, c < nm.exc.length → PySem.W.kitOne K (.ref ((tbOf nm K).xad c)) u = some (decide (c ∈ ts)) := fun u hu c hc => by
      have hb : (match isU nm K y with
        | some u => nm.exc.zipIdx.all fun q => decide (PySem.W.kitOne K (.ref (He.ga K q.1.1)) u = some (decide (q.2 ∈ ts)))
        | none => false) = true := hb
      rw [hu] at hb
      have hp : nm.exc[c]? = some (nm.exc[c]) := List.getElem?_eq_getElem hc
      have := List.all_eq_true.mp hb (nm.exc[c], c) (by rw [List.mem_zipIdx_iff_getElem?]; simpa using hp)
      rw [xad c _ hp]
      exact of_decide_eq_true this
    by_cases ho : isOwn nm y = true
    · have hf : (He.Fa.glo y).ok K = true := by
        have hf : (if isOwn nm y then He.Fa.glo y else He.Fa.free y).ok K = true := hf
        rw [if_pos ho] at hf
        exact hf
      exact ⟨.ref (He.ga K y), .ref (He.ga K y), .own _, rfl, .inl (He.glo_ok KX G hf), key _ (by unfold isU; rw [if_pos ho])⟩
    · have hf : (He.Fa.free y).ok K = true := by
        have hf : (if isOwn nm y then He.Fa.glo y else He.Fa.free y).ok K = true := hf
        rw [if_neg ho] at hf
        exact hf
      cases hu : isU nm K y with
      | none =>
        have hb : (match isU nm K y with
          | some u => nm.exc.zipIdx.all fun q => decide (PySem.W.kitOne K (.ref (He.ga K q.1.1)) u = some (decide (q.2 ∈ ts)))
          | none => false) = true := hb
        rw [hu] at hb
        cases hb
      | some u =>
        have hu' := hu
        unfold isU at hu'
        rw [if_neg ho] at hu'
        split at hu'
        · rename_i n hbt
          cases hu'
          exact ⟨.ty n, .type n, .ty n, rfl, .inr ⟨He.free_ok KX G hf, hbt⟩, key _ hu⟩
        · cases hu'
  · have hf := inX (He.Fa.glo y) (List.mem_append_right _ (List.mem_map.mpr ⟨_, hy, rfl⟩))
    refine ⟨_, He.glo_ok KX G hf, fun c hc => ?_⟩
    have hp : nm.exc[c]? = some (nm.exc[c]) := List.getElem?_eq_getElem hc
    show PySem.W.exmOne K (.ref ((tbOf nm K).xad c)) _ = _
    rw [xad c _ hp]
    exact of_decide_eq_true (List.all_eq_true.mp (List.all_eq_true.mp cx3 _ hy) _ (List.getElem_mem hc))
/-- a law: the bits told -/
theorem walk_ofEB {l : PySem.W.OpenLaw} {n k : Nat} {q : Program} {loose : List Str} {XP : (Str → Option Value) → Heap → Prop} {YP : World → Heap → Prop} {d : DefRec} {x : Str}
    (hn : l.most = some n) (hn2 : n ≤ sizeLine) (hdf : d.params.defaults = []) (hr : Room k callerA)
    (F : ∀ (w : World) (mg : Str → Option Value) (fa : Addr) (h : Heap), YP w h → h.Ns mainGlobals mg → mg d.name = some (.ref fa) →
      ∃ (K : PySem.W.Frag) (fd : FuncData) (sp : Sp), K.In h ∧ (∀ (s : Shared) (u : Value), BindsTo s fd ⟨[u], []⟩ [(x, u)]) ∧
        (∀ (H : Hp) (a : Addr) (ns : List Int), ns.length ≤ n → (∀ z ∈ ns, Builtin.Int.intBits z ≤ 1048576) → Only H → SqL K H a (ns.map V.int) → sp [.ref a] H (fun v _ => v = .bl true) fun _ _ _ => False) ∧
        ∀ base : Heap, K.In base → base.Ns mainGlobals mg → FnOk l.prog w K mg base (L2.CX l.prog w) k fa fd [x] sp) :
    PySem.W.WalkO q loose XP YP l.row.toRowW d [] (fun f vs => PySem.call f vs) := by
  refine Att.attach_callB hn hdf fun w s₀ s₁ mg mb fa o pm cd doc a vs ns G Y ho hd hcd hmg hobj hints hlen hbits hg => ?_
  obtain ⟨K, fd, sp, KX, hb, hsp, hF⟩ := F w mg fa _ Y G.T.g hmg
  exact law_call KX G.T.g G.T.b G.T.builtins G.T.nolimit hg hobj hints (Nat.le_trans hlen hn2) hr hF hb (fun H hO hS => hsp H a ns hlen hbits hO hS) fun H e s' hc => by
    obtain ⟨_, _, _, _, _, _, _, _, _, _, _, _, hf⟩ := hc
    exact hf
/-- the law's call, from the evaluator's answer -/
theorem law_sp {nm : Nm} {P : Pg} {k f : Nat} {K : PySem.W.Frag} {H : Hp} {a : Addr} {ns : List Int} (hS : SqL K H a (ns.map V.int)) (hv : ∃ A, callF P k (.fn f) [.scr ns] [] = .ok (.bl true) A) :
    spF (tbOf nm K) P k (.fn f) [.ref a] H (fun v _ => v = .bl true) fun _ _ _ => False := by
  obtain ⟨A, hv⟩ := hv
  refine ⟨⟨fun _ => 0, 0, H, fun _ => False⟩, [.scr ns], [], rfl, ⟨rfl, fun i j h => absurd h (Nat.not_lt_zero _), fun i o h => by simp at h, fun i h => absurd h (Nat.not_lt_zero _), fun a h => h.elim⟩, RDs.cons ?_ RDs.nil, ?_⟩
  · rw [RD]
    refine ⟨a, rfl, ?_⟩
    rcases hS with h | h
    · exact .inl ⟨h, fun i h => absurd h (Nat.not_lt_zero _), fun z => z⟩
    · exact .inr (.inr h)
  · rw [hv]
    exact fun w' v e a r => rd_bl r
end Ev
/-! ### the Hook: one more Bool, the addresses by any road -/
namespace Ev
open PySem PySem.Spec PyProof.Rows L2
abbrev AlY : Type := He.AlD × Bool
def obsY (as : (Addr → Option Obj) → List Addr) (fa : List He.Fa) (fn : List He.DefD) (ex : PySem.W.Frag → Bool) (g : Addr → Option Obj) : AlY := (He.obsD fa fn (He.frG g (as g)), ex (He.frG g (as g)))
def hookY (as : (Addr → Option Obj) → List Addr) (fa : List He.Fa) (fn : List He.DefD) (ex : PySem.W.Frag → Bool) : PySem.W.Hook where
  α := AlY
  obs := fun s => obsY as fa fn ex s.heap.get?
  val := fun _ => (He.valD fn, true)
  says := fun _ h => ∃ K : PySem.W.Frag, K.In h ∧ He.SaysD fa fn K ∧ ex K = true
  of := fun _ _ e => ⟨_, He.frG_in, congrArg (fun z : AlY => z.1) e, congrArg (fun z : AlY => z.2) e⟩
  keeps := fun _ _ _ ⟨K, hK, c⟩ k => ⟨K, PySem.W.Frag.In.keeps hK k, c⟩
theorem obsY_eq {as : (Addr → Option Obj) → List Addr} {fa : List He.Fa} {fn : List He.DefD} {ex : PySem.W.Frag → Bool} {g : Addr → Option Obj} {s : Shared} (h : ∀ a, g a = s.heap.get? a) : obsY as fa fn ex g = (hookY as fa fn ex).obs s := by
  have e : g = s.heap.get? := funext h
  rw [e] <;> rfl
end Ev
end

section
set_option Elab.async false
set_option linter.all false
set_option maxRecDepth 100000
/-! The evaluator's equations. -/
namespace Ev
open PySem
section
variable (F : CF) (G : List D) (σ : Sl) (H : AH)
theorem e_var (i : Nat) : evE F G (.var i) σ H = match σ[i]? with
    | some (some d) => .ok d H
    | _ => .no := rfl
theorem e_con (d : D) : evE F G (.con d) σ H = .ok d H := rfl
theorem e_glo (i : Nat) : evE F G (.glo i) σ H = liftR (G[i]?) H := rfl
theorem e_tup (es : E) : evE F G (.tup es) σ H = bindR (evEs F G es σ H) fun ds H1 => .ok (.tup ds) H1 := rfl
theorem e_lst (m : Bool) (es : E) : evE F G (.lst m es) σ H = bindR (evEs F G es σ H) fun ds H1 => liftH (some (mkL m ds H1)) := rfl
theorem e_dnew : evE F G .dnew σ H = .ok (.ref H.length) (H ++ [.dic []]) := rfl
theorem e_dlit (kvs : List (DK × D)) : evE F G (.dlit kvs) σ H = .ok (.ref H.length) (H ++ [.dic (mergeD kvs)]) := rfl
theorem e_bin (o : Op) (a b : E) : evE F G (.bin o a b) σ H = bindR (evE F G a σ H) fun x H1 => bindR (evE F G b σ H1) fun y H2 => liftR (opD o x y) H2 := rfl
theorem e_cat (m : Bool) (a b : E) : evE F G (.cat m a b) σ H = bindR (evE F G a σ H) fun x H1 => bindR (evE F G b σ H1) fun y H2 => liftH (catD m H2 x y) := rfl
theorem e_neg (a : E) : evE F G (.neg a) σ H = bindR (evE F G a σ H) fun x H1 => liftR ((intD x).map fun i => .int (-i)) H1 := rfl
theorem e_cmp (o : Cp) (a b : E) : evE F G (.cmp o a b) σ H = bindR (evE F G a σ H) fun x H1 => bindR (evE F G b σ H1) fun y H2 => liftR ((cmpD H2 o x y).map .bl) H2 := rfl
theorem e_isn (n : Bool) (a : E) : evE F G (.isn n a) σ H = bindR (evE F G a σ H) fun x H1 => .ok (.bl (n != isNon x)) H1 := rfl
theorem e_chain (o p : Cp) (a b c : E) : evE F G (.chain o p a b c) σ H = bindR (evE F G a σ H) fun x H1 => bindR (evE F G b σ H1) fun y H2 => bindR (liftR (cmpD H2 o x y) H2) fun z H2 =>
    if z then bindR (evE F G c σ H2) fun w H3 => liftR ((cmpD H3 p y w).map .bl) H3 else .ok (.bl false) H2 := rfl
theorem e_and (es : E) : evE F G (.and es) σ H = evAnd F G es σ H := rfl
theorem e_or (es : E) : evE F G (.or es) σ H = evOr F G es σ H := rfl
theorem e_not (a : E) : evE F G (.not a) σ H = bindR (evE F G a σ H) fun x H1 => liftR ((notD x).map .bl) H1 := rfl
theorem e_ite (c a b : E) : evE F G (.ite c a b) σ H = bindR (evT F G c σ H) fun z H1 => if z then evE F G a σ H1 else evE F G b σ H1 := rfl
theorem e_idx (a i : E) : evE F G (.idx a i) σ H = bindR (evE F G a σ H) fun x H1 => bindR (evE F G i σ H1) fun y H2 => liftR (idxD H2 x y) H2 := rfl
theorem e_slc (m : Bool) (a lo hi : E) : evE F G (.slc m a lo hi) σ H = bindR (evE F G a σ H) fun x H1 => bindR (evP F G lo σ H1) fun l H2 => bindR (evP F G hi σ H2) fun h H3 => liftH (slcD m H3 x l h) := rfl
theorem e_att (a : E) (f : Nat) : evE F G (.att a f) σ H = bindR (evE F G a σ H) fun x H1 => liftR (attD H1 f x) H1 := rfl
theorem e_call (f : Nat) (es : E) : evE F G (.call f es) σ H = bindR (evEs F G es σ H) fun ds H1 => F (.fn f) ds H1 := rfl
theorem e_mth (c f : Nat) (o es : E) : evE F G (.mth c f o es) σ H = bindR (evE F G o σ H) fun x H1 => if clsD H1 x = some c then bindR (evEs F G es σ H1) fun ds H2 => F (.fn f) (x :: ds) H2 else .no := rfl
theorem e_mkx (c : Nat) (fs ks : List Nat) (es : E) : evE F G (.mkx c fs ks es) σ H = bindR (F (.xc 1) [] H) fun _ _ => bindR (evEs F G es σ H) fun ds H1 => if ds.length = ks.length then liftH ((byName fs (ks.zip ds)).map fun r => (.ref H1.length, H1 ++ [.exo c r.reverse])) else .no := rfl
theorem e_isx (i : Nat) (ts : List Nat) (a : E) : evE F G (.isx i ts a) σ H = bindR (evE F G a σ H) fun x H1 => liftR ((xcD H1 x).map fun c => .bl (decide (c ∈ ts))) H1 := rfl
theorem t_isx (i : Nat) (ts : List Nat) (a : E) : evT F G (.isx i ts a) σ H = bindR (evE F G a σ H) fun x H1 => liftR ((xcD H1 x).map fun c => decide (c ∈ ts)) H1 := rfl
theorem e_mak (c : Nat) (es : E) : evE F G (.mak c es) σ H = bindR (evEs F G es σ H) fun ds H1 => F (.mk c) ds H1 := rfl
theorem e_bi (b : Bi) (es : E) : evE F G (.bi b es) σ H = bindR (evEs F G es σ H) fun ds H1 => liftH (evBi H1 b ds) := rfl
theorem e_bm (b : Bm) (o es : E) : evE F G (.bm b o es) σ H = bindR (evE F G o σ H) fun x H1 => if bmOk H1 b x then bindR (evEs F G es σ H1) fun ds H2 => liftH (evBm H2 b x ds) else .no := rfl
theorem e_comp (m : Bool) (own : List Nat) (t : TN) (k : SK) (src test elt : E) : evE F G (.comp m own t k src test elt) σ H = bindR (evEs F G src σ H) fun ds H1 => bindR (liftR (items H1 k ds) H1) fun (p : List D × Option Nat) H1 =>
    bindR (compGo p.1 p.2 t (fun σ H => if noTest test then .ok true H else evT F G test σ H) (fun σ H => evE F G elt σ H) (wipeD σ own) p.1 [] H1) fun ys H2 => liftH (some (mkL m ys H2)) := rfl
theorem es_nil : evEs F G .nil σ H = .ok [] H := rfl
theorem es_cons (e es : E) : evEs F G (.cons e es) σ H = bindR (evE F G e σ H) fun x H1 => bindR (evEs F G es σ H1) fun xs H2 => .ok (x :: xs) H2 := rfl
theorem ep_nil : evP F G .nil σ H = .ok none H := rfl
theorem ep_cons (e es : E) : evP F G (.cons e es) σ H = bindR (evE F G e σ H) fun x H1 => liftR ((intD x).map some) H1 := rfl
theorem t_and (es : E) : evT F G (.and es) σ H = evAndT F G es σ H := rfl
theorem t_or (es : E) : evT F G (.or es) σ H = evOrT F G es σ H := rfl
theorem t_not (a : E) : evT F G (.not a) σ H = bindR (evT F G a σ H) fun z H1 => .ok (!z) H1 := rfl
theorem t_cmp (o : Cp) (a b : E) : evT F G (.cmp o a b) σ H = bindR (evE F G a σ H) fun x H1 => bindR (evE F G b σ H1) fun y H2 => liftR (cmpD H2 o x y) H2 := rfl
theorem t_isn (n : Bool) (a : E) : evT F G (.isn n a) σ H = bindR (evE F G a σ H) fun x H1 => .ok (n != isNon x) H1 := rfl
theorem t_chain (o p : Cp) (a b c : E) : evT F G (.chain o p a b c) σ H = bindR (evE F G a σ H) fun x H1 => bindR (evE F G b σ H1) fun y H2 => bindR (liftR (cmpD H2 o x y) H2) fun z H2 =>
    if z then bindR (evE F G c σ H2) fun w H3 => liftR (cmpD H3 p y w) H3 else .ok false H2 := rfl
theorem t_var (i : Nat) : evT F G (.var i) σ H = match σ[i]? with
    | some (some d) => liftR (truD H d) H
    | _ => .no := rfl
theorem t_call (f : Nat) (es : E) : evT F G (.call f es) σ H = bindR (evEs F G es σ H) fun ds H1 => bindR (F (.fn f) ds H1) fun d H2 => liftR (truD H2 d) H2 := rfl
theorem t_mth (c f : Nat) (o es : E) : evT F G (.mth c f o es) σ H = bindR (evE F G o σ H) fun x H1 => if clsD H1 x = some c then bindR (evEs F G es σ H1) fun ds H2 => bindR (F (.fn f) (x :: ds) H2) fun d H2 => liftR (truD H2 d) H2 else .no := rfl
theorem t_bi (b : Bi) (es : E) : evT F G (.bi b es) σ H = bindR (evEs F G es σ H) fun ds H1 => bindR (liftH (evBi H1 b ds)) fun d H2 => liftR (truD H2 d) H2 := rfl
theorem t_idx (a i : E) : evT F G (.idx a i) σ H = bindR (evE F G a σ H) fun x H1 => bindR (evE F G i σ H1) fun y H2 => bindR (liftR (idxD H2 x y) H2) fun d H2 => liftR (truD H2 d) H2 := rfl
theorem eAnd_1 (e : E) : evAnd F G (.cons e .nil) σ H = evE F G e σ H := rfl
theorem eAnd_2 (e a b : E) : evAnd F G (.cons e (.cons a b)) σ H = bindR (evE F G e σ H) fun x H1 => bindR (liftR (boolD x) H1) fun z H1 => if z then evAnd F G (.cons a b) σ H1 else .ok (.bl false) H1 := rfl
theorem eOr_1 (e : E) : evOr F G (.cons e .nil) σ H = evE F G e σ H := rfl
theorem eOr_2 (e a b : E) : evOr F G (.cons e (.cons a b)) σ H = bindR (evE F G e σ H) fun x H1 => bindR (liftR (boolD x) H1) fun z H1 => if z then .ok (.bl true) H1 else evOr F G (.cons a b) σ H1 := rfl
theorem tAnd_1 (e : E) : evAndT F G (.cons e .nil) σ H = evT F G e σ H := rfl
theorem tAnd_2 (e a b : E) : evAndT F G (.cons e (.cons a b)) σ H = bindR (evT F G e σ H) fun x H1 => if x then evAndT F G (.cons a b) σ H1 else .ok false H1 := rfl
theorem tOr_1 (e : E) : evOrT F G (.cons e .nil) σ H = evT F G e σ H := rfl
theorem tOr_2 (e a b : E) : evOrT F G (.cons e (.cons a b)) σ H = bindR (evT F G e σ H) fun x H1 => if x then .ok true H1 else evOrT F G (.cons a b) σ H1 := rfl
theorem x_pass : evS F G .pass σ H = .ok .nx σ H := rfl
theorem x_seq (a b : S) : evS F G (.seq a b) σ H = match evS F G a σ H with
    | .ok .nx σ1 H1 => evS F G b σ1 H1
    | r => r := rfl
theorem x_ex (e : E) : evS F G (.ex e) σ H = bindS σ (evE F G e σ H) fun _ H1 => .ok .nx σ H1 := rfl
theorem x_asg (t : TN) (e : E) : evS F G (.asg t e) σ H = bindS σ (evE F G e σ H) fun d H1 => match setT t (seeT H1 t d) σ with
    | some σ1 => .ok .nx σ1 H1
    | none => .no := rfl
theorem x_asgN (i : Nat) (e : E) : evS F G (.asg (.nm i) e) σ H = bindS σ (evE F G e σ H) fun d H1 => .ok .nx (σ.set i (some d)) H1 := rfl
theorem x_seti (o i e : E) : evS F G (.seti o i e) σ H = bindS σ (evE F G e σ H) fun d H1 => bindS σ (evE F G o σ H1) fun x H2 => bindS σ (evE F G i σ H2) fun y H3 => match setI H3 x y d with
    | some H4 => .ok .nx σ H4
    | none => .no := rfl
theorem x_seta (o : E) (f : Nat) (e : E) : evS F G (.seta o f e) σ H = bindS σ (evE F G e σ H) fun d H1 => bindS σ (evE F G o σ H1) fun x H2 => match setAt H2 f x d with
    | some H3 => .ok .nx σ H3
    | none => .no := rfl
theorem x_ret (e : E) : evS F G (.ret e) σ H = bindS σ (evE F G e σ H) fun d H1 => .ok (.rt d) σ H1 := rfl
theorem x_ret0 : evS F G .ret0 σ H = .ok (.rt .non) σ H := rfl
theorem x_ite (c : E) (a b : S) : evS F G (.ite c a b) σ H = bindS σ (evT F G c σ H) fun z H1 => if z then evS F G a σ H1 else evS F G b σ H1 := rfl
theorem x_whl (c : E) (b : S) : evS F G (.whl c b) σ H = whlGo (fun σ H => evT F G c σ H) (fun σ H => evS F G b σ H) lap σ H := rfl
theorem x_fr (t : TN) (k : SK) (src : E) (b : S) : evS F G (.fr t k src b) σ H = bindS σ (evEs F G src σ H) fun ds H1 => match items H1 k ds with
    | some p => forGo p.1 p.2 t (fun σ H => evS F G b σ H) p.1 σ H1
    | none => .no := by
  show bindS σ (evEs F G src σ H) _ = _
  congr 1
  funext ds H1
  cases items H1 k ds <;> rfl
theorem x_brk : evS F G .brk σ H = .ok .bk σ H := rfl
theorem x_cnt : evS F G .cnt σ H = .ok .ct σ H := rfl
end
section
variable {α β : Type} (a : α) (H : AH) (f : α → AH → Rs β) (g : α → AH → SR) (σ : Sl)
theorem b_ok : bindR (.ok a H) f = f a H := rfl
theorem b_some : liftR (some a) H = .ok a H := rfl
theorem b_someH : liftH (some (a, H)) = .ok a H := rfl
theorem bs_ok : bindS σ (.ok a H) g = g a H := rfl
end
/-- the end of a call -/
def fin (fz : Bool) (H : AH) (r : SR) : Rs D := match r with
  | .ok (.rt d) _ H' => retract fz H H' d
  | .ok .nx _ H' => retract fz H H' .non
  | .ex c fs _ H' => .ex c fs H'
  | _ => .no
theorem call_fn {P : Pg} {k i : Nat} {args : List D} {H : AH} {fi : FnI} (h : P.fns[i]? = some fi) (hl : args.length = fi.np) : callF P (k + 1) (.fn i) args H = fin fi.fz H (evS (callF P k) P.glob fi.body (start fi args) H) := by
  show (match P.fns[i]? with
    | some fi => if args.length = fi.np then
        (match evS (callF P k) P.glob fi.body (start fi args) H with
        | .ok (.rt d) _ H' => retract fi.fz H H' d
        | .ok .nx _ H' => retract fi.fz H H' .non
        | .ex c fs _ H' => .ex c fs H'
        | _ => .no)
      else .no
    | none => .no) = _
  rw [h]
  simp only
  rw [if_pos hl]
  rfl
theorem take_self (H : AH) : H.take H.length = H := List.take_length
theorem back_refl (H : AH) : Back H H := ⟨Nat.le_refl _, fun _ _ => .inl rfl⟩
/-- nothing is left behind -/
theorem ret_same {fz : Bool} {H : AH} {d : D} : retract fz H H d = .ok d H := by
  unfold retract
  rw [if_pos (back_refl H)]
  have hn : newL H.length H d = none := by
    unfold newL
    split
    · rename_i j
      split
      · rename_i hj
        rw [List.getElem?_eq_none hj]
      · rfl
    · rfl
  rw [hn, take_self]
  simp only
  split <;> rfl
theorem fin_rt {fz : Bool} {H : AH} {d : D} {σ : Sl} : fin fz H (.ok (.rt d) σ H) = .ok d H := ret_same
theorem fin_nx {fz : Bool} {H : AH} {σ : Sl} : fin fz H (.ok .nx σ H) = .ok .non H := ret_same (fz := fz)
/-! ### operators, one by one -/
section
variable (H : AH)
theorem o_addI (i j : Int) : opD .add (.int i) (.int j) = some (.int (i + j)) := rfl
theorem o_addS (x y : Tx) : opD .add (.str x) (.str y) = if x.length + y.length ≤ sizeLine then some (.str (x ++ y)) else none := rfl
theorem o_addT (x y : List D) : opD .add (.tup x) (.tup y) = if x ≠ [] ∧ x.length + y.length ≤ sizeLine then some (.tup (x ++ y)) else none := rfl
theorem o_sub (i j : Int) : opD .sub (.int i) (.int j) = some (.int (i - j)) := rfl
theorem o_mul (i j : Int) : opD .mul (.int i) (.int j) = if mulOk i j then some (.int (i * j)) else none := rfl
theorem o_fdiv (i j : Int) : opD .fdiv (.int i) (.int j) = if 0 < j ∧ j < 1073741824 then some (.int (i / j)) else none := rfl
theorem o_mod (i j : Int) : opD .mod (.int i) (.int j) = if 0 < j then some (.int (i % j)) else none := rfl
theorem o_pow (i j : Int) : opD .pow (.int i) (.int j) = if 0 ≤ j ∧ j ≤ 1000000 ∧ i.natAbs < 2 ^ 64 then some (.int (i ^ j.toNat)) else none := rfl
theorem v_non : view H .non = .non := rfl
theorem v_bl (b : Bool) : view H (.bl b) = .bl b := rfl
theorem v_int (b : Int) : view H (.int b) = .int b := rfl
theorem v_str (b : Tx) : view H (.str b) = .str b := rfl
theorem v_tup (b : List D) : view H (.tup b) = .tup b := rfl
theorem v_lst (b : List D) : view H (.lst b) = .lst b := rfl
theorem v_scr (b : List Int) : view H (.scr b) = .scr b := rfl
theorem v_ref (i : Nat) : view H (.ref i) = match H[i]? with
    | some (.lst xs) => .lst xs
    | _ => .ref i := rfl
theorem q_str (x y : Tx) : eqD H (.str x) (.str y) = some (decide (x = y)) := rfl
theorem q_int (x y : Int) : eqD H (.int x) (.int y) = some (decide (x = y)) := rfl
theorem q_bl (x y : Bool) : eqD H (.bl x) (.bl y) = some (decide (x = y)) := rfl
theorem q_non : eqD H .non .non = some true := rfl
theorem c_eq (a b : D) : cmpD H .eq a b = eqD H a b := rfl
theorem c_ne (a b : D) : cmpD H .ne a b = (eqD H a b).map (!·) := rfl
theorem c_ltI (i j : Int) : cmpD H .lt (.int i) (.int j) = some (decide (i < j)) := rfl
theorem c_leI (i j : Int) : cmpD H .le (.int i) (.int j) = some (decide (i ≤ j)) := rfl
theorem c_gtI (i j : Int) : cmpD H .gt (.int i) (.int j) = some (decide (j < i)) := rfl
theorem c_geI (i j : Int) : cmpD H .ge (.int i) (.int j) = some (decide (j ≤ i)) := rfl
theorem c_ltS (i j : Tx) : cmpD H .lt (.str i) (.str j) = some (decide (i < j)) := rfl
theorem c_leS (i j : Tx) : cmpD H .le (.str i) (.str j) = some (!decide (j < i)) := rfl
theorem c_inn (a b : D) : cmpD H .inn a b = inD H a b := rfl
theorem c_nin (a b : D) : cmpD H .nin a b = (inD H a b).map (!·) := rfl
theorem i_lst (x : D) (xs : List D) : inD H x (.lst xs) = if flatD x && xs.all flatD then some (xs.any fun y => feq y x) else none := rfl
theorem i_tup (x : D) (xs : List D) : inD H x (.tup xs) = if flatD x && xs.all flatD then some (xs.any fun y => feq y x) else none := rfl
theorem i_str (c : Nat) (s : Tx) : inD H (.str [c]) (.str s) = some (decide (c ∈ s)) := rfl
theorem x_lst (xs : List D) (j : Int) : idxD H (.lst xs) (.int j) = place xs j := rfl
theorem x_tup (xs : List D) (j : Int) : idxD H (.tup xs) (.int j) = place xs j := rfl
theorem x_str (s : Tx) (j : Int) : idxD H (.str s) (.int j) = if s.length ≤ sizeLine then (place s j).map fun c => .str [c] else none := rfl
theorem l_lst (m : Bool) (xs : List D) (lo hi : Option Int) : slcD m H (.lst xs) lo hi = some (mkL m (cutL xs lo hi) H) := rfl
theorem l_str (m : Bool) (s : Tx) (lo hi : Option Int) : slcD m H (.str s) lo hi = if s.length ≤ sizeLine then some (.str (cutL s lo hi), H) else none := rfl
theorem l_scr (m : Bool) (xs : List Int) (lo hi : Option Int) : slcD m H (.scr xs) lo hi = some (mkL m ((cutL xs lo hi).map .int) H) := rfl
theorem mk_f (xs : List D) : mkL false xs H = (.lst xs, H) := rfl
theorem mk_t (xs : List D) : mkL true xs H = (.ref H.length, H ++ [.lst xs]) := rfl
theorem n_len (d : D) : evBi H .len [d] = match view H d with
    | .lst xs => some (.int xs.length, H)
    | .tup xs => some (.int xs.length, H)
    | .str s => if s.length ≤ sizeLine then some (.int s.length, H) else none
    | _ => none := rfl
theorem n_lenL (xs : List D) : evBi H .len [.lst xs] = some (.int xs.length, H) := rfl
theorem n_lenT (xs : List D) : evBi H .len [.tup xs] = some (.int xs.length, H) := rfl
theorem n_lenS (s : Tx) : evBi H .len [.str s] = if s.length ≤ sizeLine then some (.int s.length, H) else none := rfl
theorem n_isi (ts : List Ty) (d : D) : evBi H (.isi ts) [d] = if plainD H d then some (.bl (ts.any fun t => isTy H t d), H) else none := rfl
theorem n_intI (i : Int) : evBi H .toInt [.int i] = some (.int i, H) := rfl
theorem n_intS (s : Tx) : evBi H .toInt [.str s] = if isDigits s then some (.int (digVal s), H) else none := rfl
theorem n_str (i : Int) : evBi H .toStr [.int i] = if i.natAbs.log2 < 1920 then some (.str (digits i), H) else none := rfl
theorem n_ord (c : Nat) : evBi H .ord [.str [c]] = some (.int c, H) := rfl
theorem n_all (xs : List D) : evBi H .all [.lst xs] = match bools xs with
    | some bs => some (.bl (bs.all id), H)
    | none => none := rfl
theorem n_any (xs : List D) : evBi H .any [.lst xs] = match bools xs with
    | some bs => some (.bl (bs.any id), H)
    | none => none := rfl
theorem n_tup (d : D) : evBi H .tuple [d] = (seqD H d).map fun xs => (.tup xs, H) := rfl
theorem n_list (m : Bool) (d : D) : evBi H (.list m) [d] = (seqD H d).map fun xs => mkL m xs H := rfl
theorem n_set (xs : List D) : evBi H .lenSet [.lst xs] = match texts xs with
      | some ts => if ts.length ≤ 1000 then some (.int (dedup ts).length, H) else none
      | none => none := rfl
theorem sq_lst (xs : List D) : seqD H (.lst xs) = some xs := rfl
theorem sq_tup (xs : List D) : seqD H (.tup xs) = some xs := rfl
theorem m_join (s : Tx) (xs : List D) : evBm H .join (.str s) [.lst xs] = match texts xs with
      | some ts => if (ts.map List.length).sum + ts.length * s.length ≤ 16777216 then some (.str (joinT s ts), H) else none
      | none => none := rfl
theorem m_dbl (c : Nat) (s : Tx) : evBm H (.dbl c) (.str s) [] = if s.length + (s.length + 1) * 2 ≤ 16777216 then some (.str (dblT c s), H) else none := rfl
theorem k_join (s : Tx) : bmOk H .join (.str s) = true := rfl
theorem k_dbl (c : Nat) (s : Tx) : bmOk H (.dbl c) (.str s) = true := rfl
theorem d_bl (b : Bool) : boolD (.bl b) = some b := rfl
theorem d_not (b : Bool) : notD (.bl b) = some (!b) := rfl
theorem d_int (b : Int) : intD (.int b) = some b := rfl
theorem u_bl (b : Bool) : truD H (.bl b) = some b := rfl
theorem p_non : plainD H .non = true := rfl
theorem p_bl (b : Bool) : plainD H (.bl b) = true := rfl
theorem p_int (b : Int) : plainD H (.int b) = true := rfl
theorem p_str (b : Tx) : plainD H (.str b) = true := rfl
theorem p_tup (b : List D) : plainD H (.tup b) = true := rfl
theorem p_lst (b : List D) : plainD H (.lst b) = true := rfl
theorem it_lst (xs : List D) : items H .val [.lst xs] = some (xs, none) := rfl
theorem it_tup (xs : List D) : items H .val [.tup xs] = some (xs, none) := rfl
theorem it_str (s : Tx) : items H .val [.str s] = some (s.map fun c => .str [c], none) := rfl
theorem it_rng (j : Int) : items H .rng [.int j] = if -(2 ^ 62) ≤ j ∧ j < 2 ^ 62 then some ((List.range j.toNat).map fun i => .int (i : Nat), none) else none := rfl
end
theorem start_eq (np ns : Nat) (fz : Bool) (b : S) (args : List D) : Ev.start ⟨np, ns, fz, b⟩ args = args.map some ++ List.replicate (ns - np) none := rfl
theorem still_none {xs : List D} {H : AH} : Still xs none H := fun _ h => by cases h
/-! ### comprehensions, loops over what stands -/
theorem comp_nil {all : List D} {t : TN} {tst : Sl → AH → Rs Bool} {f : Sl → AH → Rs D} {σ : Sl} {acc : List D} {H : AH} : compGo all none t tst f σ [] acc H = .ok acc H := by rw [compGo_nil, if_pos still_none]
theorem comp_one {all : List D} {t : TN} {f : Sl → AH → Rs D} {σ σ' : Sl} {x y : D} {xs acc : List D} {H H' : AH} {tst : Sl → AH → Rs Bool} (h1 : setT t x σ = some σ') (h2 : tst σ' H = .ok true H) (h3 : f σ' H = .ok y H') (h4 : acc.length < sizeLine) :
    compGo all none t tst f σ (x :: xs) acc H = compGo all none t tst f σ xs (acc ++ [y]) H' := by
  rw [compGo_cons, if_pos still_none, h1]
  simp only [h2, h3, if_pos h4]
theorem comp_skip {all : List D} {t : TN} {f : Sl → AH → Rs D} {σ σ' : Sl} {x : D} {xs acc : List D} {H : AH} {tst : Sl → AH → Rs Bool} (h1 : setT t x σ = some σ') (h2 : tst σ' H = .ok false H) :
    compGo all none t tst f σ (x :: xs) acc H = compGo all none t tst f σ xs acc H := by
  rw [compGo_cons, if_pos still_none, h1]
  simp only [h2]
/-- every item is read by g, the heap stays -/
theorem comp_map {α : Type} {all : List D} {t : TN} {f : Sl → AH → Rs D} {σ : Sl} {H : AH} {tst : Sl → AH → Rs Bool} (inj g : α → D) : ∀ (l : List α) (acc : List D), (∀ x ∈ l, ∃ σ', setT t (inj x) σ = some σ' ∧ tst σ' H = .ok true H ∧ f σ' H = .ok (g x) H) → acc.length + l.length ≤ sizeLine →
    compGo all none t tst f σ (l.map inj) acc H = .ok (acc ++ l.map g) H
  | [], acc, _, _ => by rw [List.map_nil, comp_nil]; simp
  | x :: l, acc, h, hl => by
    obtain ⟨σ', h1, h2, h3⟩ := h x (by simp)
    rw [List.length_cons] at hl
    rw [List.map_cons, comp_one h1 h2 h3 (by omega), comp_map inj g l (acc ++ [g x]) (fun y hy => h y (by simp [hy])) (by rw [List.length_append, List.length_singleton]; omega)]
    simp
/-- items are kept by p -/
theorem comp_filter {α : Type} {all : List D} {t : TN} {f : Sl → AH → Rs D} {σ : Sl} {H : AH} {tst : Sl → AH → Rs Bool} (inj g : α → D) (p : α → Bool) : ∀ (l : List α) (acc : List D), (∀ x ∈ l, ∃ σ', setT t (inj x) σ = some σ' ∧ tst σ' H = .ok (p x) H ∧ f σ' H = .ok (g x) H) → acc.length + l.length ≤ sizeLine →
    compGo all none t tst f σ (l.map inj) acc H = .ok (acc ++ (l.filter p).map g) H
  | [], acc, _, _ => by rw [List.map_nil, comp_nil]; simp
  | x :: l, acc, h, hl => by
    obtain ⟨σ', h1, h2, h3⟩ := h x (by simp)
    rw [List.length_cons] at hl
    cases hp : p x with
    | true =>
      rw [hp] at h2
      rw [List.map_cons, comp_one h1 h2 h3 (by omega), comp_filter inj g p l (acc ++ [g x]) (fun y hy => h y (by simp [hy])) (by rw [List.length_append, List.length_singleton]; omega)]
      simp [hp]
    | false =>
      rw [hp] at h2
      rw [List.map_cons, comp_skip h1 h2, comp_filter inj g p l acc (fun y hy => h y (by simp [hy])) (by omega)]
      simp [hp]
theorem for_nil {all : List D} {t : TN} {b : Sl → AH → SR} {σ : Sl} {H : AH} : forGo all none t b [] σ H = .ok .nx σ H := by rw [forGo_nil, if_pos still_none]
theorem for_one {all : List D} {t : TN} {b : Sl → AH → SR} {x : D} {xs : List D} {σ σ1 : Sl} {H : AH} (h : setT t x σ = some σ1) : forGo all none t b (x :: xs) σ H = match b σ1 H with
        | .ok .nx σ2 H2 => forGo all none t b xs σ2 H2
        | .ok .ct σ2 H2 => forGo all none t b xs σ2 H2
        | .ok .bk σ2 H2 => .ok .nx σ2 H2
        | .ok (.rt d) σ2 H2 => .ok (.rt d) σ2 H2
        | .ex c fs σ2 H2 => .ex c fs σ2 H2
        | .no => .no := by
  rw [forGo_cons, if_pos still_none, h] <;> rfl
end Ev
end

section
set_option Elab.async false
set_option linter.all false
set_option maxRecDepth 100000
/-! A run does not look at what lies below its own objects; more fuel changes nothing. -/
namespace Ev
open PySem
mutual
def D.sh (n : Nat) : D → D
  | .tup xs => .tup (D.shs n xs)
  | .lst xs => .lst (D.shs n xs)
  | .ref i => .ref (n + i)
  | .non => .non
  | .bl b => .bl b
  | .int i => .int i
  | .str s => .str s
  | .scr xs => .scr xs
def D.shs (n : Nat) : List D → List D
  | [] => []
  | x :: xs => D.sh n x :: D.shs n xs
end
theorem shs_map (n : Nat) : ∀ xs : List D, D.shs n xs = xs.map (D.sh n)
  | [] => rfl
  | x :: xs => by rw [D.shs, shs_map n xs]; rfl
def shK (n : Nat) (kvs : List (DK × D)) : List (DK × D) := kvs.map fun kv => (kv.1, kv.2.sh n)
def shF (n : Nat) (kvs : List (Nat × D)) : List (Nat × D) := kvs.map fun kv => (kv.1, kv.2.sh n)
def AO.sh (n : Nat) : AO → AO
  | .lst xs => .lst (xs.map (D.sh n))
  | .dic kvs => .dic (shK n kvs)
  | .ins c fs => .ins c (shF n fs)
  | .exo c fs => .exo c (shF n fs)
def shL (P : AH) (H : AH) : AH := P ++ H.map (AO.sh P.length)
def shS (n : Nat) (σ : Sl) : Sl := σ.map (Option.map (D.sh n))
theorem shL_len (P H : AH) : (shL P H).length = P.length + H.length := by simp [shL]
theorem shL_get (P H : AH) (i : Nat) : (shL P H)[P.length + i]? = (H[i]?).map (AO.sh P.length) := by
  unfold shL
  rw [List.getElem?_append_right (by omega), Nat.add_sub_cancel_left, List.getElem?_map]
theorem shL_lo (P H : AH) (i : Nat) (h : i < P.length) : (shL P H)[i]? = P[i]? := by
  unfold shL
  rw [List.getElem?_append_left h]
theorem shL_push (P H : AH) (o : AO) : shL P H ++ [o.sh P.length] = shL P (H ++ [o]) := by simp [shL]
theorem shL_set (P H : AH) (i : Nat) (o : AO) : (shL P H).set (P.length + i) (o.sh P.length) = shL P (H.set i o) := by
  unfold shL
  rw [List.set_append_right _ _ (by omega), Nat.add_sub_cancel_left, List.map_set]
theorem shL_take (P H : AH) (n : Nat) : (shL P H).take (P.length + n) = shL P (H.take n) := by
  unfold shL
  rw [List.take_append, List.take_of_length_le (by omega), Nat.add_sub_cancel_left, List.map_take]
/-! ### what may follow -/
def Sim {α : Type} (P : AH) (f : α → α) (r r' : Rs α) : Prop := match r with
  | .no => True
  | .ok d A => r' = .ok (f d) (shL P A)
  | .ex c fs A => r' = .ex c (shF P.length fs) (shL P A)
def SimS (P : AH) (r r' : SR) : Prop := match r with
  | .no => True
  | .ok f σ A => r' = .ok (match f with
    | .rt d => .rt (d.sh P.length)
    | g => g) (shS P.length σ) (shL P A)
  | .ex c fs σ A => r' = .ex c (shF P.length fs) (shS P.length σ) (shL P A)
def OSim {α : Type} (f : α → α) (o o' : Option α) : Prop := o = none ∨ o' = o.map f
section
variable {P : AH}
theorem Sim.bind {α β : Type} {f : α → α} {g : β → β} {r r' : Rs α} {k k' : α → AH → Rs β} (h : Sim P f r r') (q : ∀ d A, r = .ok d A → Sim P g (k d A) (k' (f d) (shL P A))) : Sim P g (bindR r k) (bindR r' k') := by
  cases r with
  | no => trivial
  | ok d A =>
    have e : r' = .ok (f d) (shL P A) := h
    rw [e]; exact q d A rfl
  | ex c fs A =>
    have e : r' = .ex c (shF P.length fs) (shL P A) := h
    rw [e]; exact rfl
theorem SimS.bind {α : Type} {f : α → α} {σ : Sl} {r r' : Rs α} {k k' : α → AH → SR} (h : Sim P f r r') (q : ∀ d A, r = .ok d A → SimS P (k d A) (k' (f d) (shL P A))) : SimS P (bindS σ r k) (bindS (shS P.length σ) r' k') := by
  cases r with
  | no => trivial
  | ok d A =>
    have e : r' = .ok (f d) (shL P A) := h
    rw [e]; exact q d A rfl
  | ex c fs A =>
    have e : r' = .ex c (shF P.length fs) (shL P A) := h
    rw [e]; exact rfl
theorem Sim.lift {α : Type} {f : α → α} {o o' : Option α} {A : AH} (h : OSim f o o') : Sim P f (liftR o A) (liftR o' (shL P A)) := by
  cases o with
  | none => trivial
  | some d =>
    rcases h with h | h
    · cases h
    · rw [h]; exact rfl
theorem Sim.liftH {α : Type} {f : α → α} {o o' : Option (α × AH)} (h : OSim (fun p : α × AH => (f p.1, shL P p.2)) o o') : Sim P f (liftH o) (liftH o') := by
  cases o with
  | none => trivial
  | some d =>
    rcases h with h | h
    · cases h
    · rw [h]; exact rfl
end
section
variable (P H : AH)
theorem view_sh (d : D) : view (shL P H) (d.sh P.length) = (view H d).sh P.length := by
  cases d with
  | ref i =>
    show (match (shL P H)[P.length + i]? with
      | some (.lst xs) => D.lst xs
      | _ => D.ref (P.length + i)) = _
    rw [shL_get]
    cases h : H[i]? with
    | none => simp only [view, h, Option.map_none]; rfl
    | some o =>
      cases o <;> simp only [view, h, Option.map_some, AO.sh, D.sh, shs_map]
  | _ => rfl
mutual
theorem py_sh (n : Nat) : ∀ d : D, (d.sh n).py = d.py
  | .non => rfl
  | .bl _ => rfl
  | .int _ => rfl
  | .str _ => rfl
  | .ref _ => rfl
  | .scr _ => rfl
  | .tup xs => by simp only [D.sh, D.py, pys_sh n xs]
  | .lst xs => by simp only [D.sh, D.py, pys_sh n xs]
theorem pys_sh (n : Nat) : ∀ ds : List D, D.pys (D.shs n ds) = D.pys ds
  | [] => rfl
  | x :: xs => by simp only [D.shs, D.pys, py_sh n x, pys_sh n xs]
end
mutual
theorem sh_low (n : Nat) : ∀ d : D, d.low 0 = true → d.sh n = d
  | .non, _ => rfl
  | .bl _, _ => rfl
  | .int _, _ => rfl
  | .str _, _ => rfl
  | .scr _, _ => rfl
  | .ref i, h => by rw [D.low] at h; simp at h
  | .tup xs, h => by rw [D.low] at h; rw [D.sh, shs_low n xs h]
  | .lst xs, h => by rw [D.low] at h; rw [D.sh, shs_low n xs h]
theorem shs_low (n : Nat) : ∀ ds : List D, D.lows 0 ds = true → D.shs n ds = ds
  | [], _ => rfl
  | x :: xs, h => by
    rw [D.lows, Bool.and_eq_true] at h
    rw [D.shs, sh_low n x h.1, shs_low n xs h.2]
end
mutual
theorem low_sh (n m : Nat) : ∀ d : D, (d.sh n).low (n + m) = d.low m
  | .non => rfl
  | .bl _ => rfl
  | .int _ => rfl
  | .str _ => rfl
  | .scr _ => rfl
  | .ref i => by simp only [D.sh, D.low, Nat.add_lt_add_iff_left]
  | .tup xs => by simp only [D.sh, D.low, lows_sh n m xs]
  | .lst xs => by simp only [D.sh, D.low, lows_sh n m xs]
theorem lows_sh (n m : Nat) : ∀ ds : List D, D.lows (n + m) (D.shs n ds) = D.lows m ds
  | [] => rfl
  | x :: xs => by simp only [D.shs, D.lows, low_sh n m x, lows_sh n m xs]
end
mutual
theorem sh_inj (n : Nat) : ∀ a b : D, a.sh n = b.sh n → a = b
  | .non, b, h => by cases b <;> simp [D.sh] at h ⊢
  | .bl _, b, h => by cases b <;> simp [D.sh] at h ⊢ <;> exact h
  | .int _, b, h => by cases b <;> simp [D.sh] at h ⊢ <;> exact h
  | .str _, b, h => by cases b <;> simp [D.sh] at h ⊢ <;> exact h
  | .scr _, b, h => by cases b <;> simp [D.sh] at h ⊢ <;> exact h
  | .ref i, b, h => by cases b <;> simp [D.sh] at h ⊢ <;> exact h
  | .tup xs, b, h => by
    cases b <;> simp [D.sh] at h ⊢
    exact shs_inj n _ _ h
  | .lst xs, b, h => by
    cases b <;> simp [D.sh] at h ⊢
    exact shs_inj n _ _ h
theorem shs_inj (n : Nat) : ∀ a b : List D, D.shs n a = D.shs n b → a = b
  | [], b, h => by cases b <;> simp [D.shs] at h ⊢
  | x :: xs, b, h => by
    cases b with
    | nil => simp [D.shs] at h
    | cons y ys =>
      simp only [D.shs, List.cons.injEq] at h
      rw [sh_inj n x y h.1, shs_inj n xs ys h.2]
end
theorem flat_sh (n : Nat) (d : D) : flatD (d.sh n) = flatD d := by cases d <;> rfl
theorem feq_sh (n : Nat) (a b : D) : feq (a.sh n) (b.sh n) = feq a b := by cases a <;> cases b <;> rfl
theorem key_sh (n : Nat) (d : D) : keyD (d.sh n) = keyD d := by cases d <;> rfl
theorem non_sh (n : Nat) (d : D) : isNon (d.sh n) = isNon d := by cases d <;> rfl
theorem lookK_sh (n : Nat) (k : DK) : ∀ kvs, lookK k (shK n kvs) = (lookK k kvs).map (D.sh n)
  | [] => rfl
  | (q, d) :: r => by
    show (if q = k then some (d.sh n) else lookK k (shK n r)) = Option.map _ (if q = k then some d else lookK k r)
    rw [lookK_sh n k r]
    split <;> rfl
theorem putK_sh (n : Nat) (k : DK) (d : D) (kvs) : putK k (d.sh n) (shK n kvs) = shK n (putK k d kvs) := by
  unfold putK shK
  have e : ((kvs.map fun kv => (kv.1, kv.2.sh n)).any fun kv => decide (kv.1 = k)) = kvs.any fun kv => decide (kv.1 = k) := by
    rw [List.any_map]; rfl
  rw [e]
  split
  · rw [List.map_map, List.map_map]
    congr 1
    funext kv
    simp only [Function.comp]
    split <;> rfl
  · simp
theorem eq_sh (a b : D) : OSim id (eqD H a b) (eqD (shL P H) (a.sh P.length) (b.sh P.length)) := by
  have key : ∀ a b : D, (match (view (shL P H) (a.sh P.length)).py, (view (shL P H) (b.sh P.length)).py with
    | some p, some q => if SeqAt.shaped p = true ∧ SeqAt.shaped q = true then some (PyData.eqv p q) else none
    | _, _ => none) = (match (view H a).py, (view H b).py with
    | some p, some q => if SeqAt.shaped p = true ∧ SeqAt.shaped q = true then some (PyData.eqv p q) else none
    | _, _ => none) := by
    intro a b
    rw [view_sh, view_sh, py_sh, py_sh]
  refine .inr ?_
  rw [Option.map_id, id]
  have k := key a b
  revert k
  cases a <;> cases b <;> intro k <;> first | rfl | exact k
theorem all_flat (n : Nat) (xs : List D) : (D.shs n xs).all flatD = xs.all flatD := by
  rw [shs_map, List.all_map]
  congr 1
  funext d
  exact flat_sh n d
theorem any_feq (n : Nat) (x : D) (xs : List D) : ((D.shs n xs).any fun y => feq y (x.sh n)) = xs.any fun y => feq y x := by
  rw [shs_map, List.any_map]
  congr 1
  funext d
  exact feq_sh n d x
theorem in_sh (x c : D) : OSim id (inD H x c) (inD (shL P H) (x.sh P.length) (c.sh P.length)) := by
  refine .inr ?_
  rw [Option.map_id, id]
  unfold inD
  rw [view_sh]
  cases hv : view H c with
  | lst xs => simp only [D.sh]; rw [flat_sh, all_flat, any_feq]
  | tup xs => simp only [D.sh]; rw [flat_sh, all_flat, any_feq]
  | str s => cases x <;> rfl
  | ref i =>
    simp only [D.sh]
    rw [shL_get, key_sh]
    cases H[i]? with
    | none => rfl
    | some o =>
      cases o with
      | dic kvs =>
        simp only [Option.map_some, AO.sh]
        cases keyD x with
        | none => rfl
        | some k => simp only [lookK_sh, Option.isSome_map]
      | _ => rfl
  | _ => rfl
theorem cmp_sh (o : Cp) (a b : D) : OSim id (cmpD H o a b) (cmpD (shL P H) o (a.sh P.length) (b.sh P.length)) := by
  cases o with
  | eq => exact eq_sh P H a b
  | ne =>
    rcases eq_sh P H a b with h | h
    · exact .inl (by show (eqD H a b).map _ = none; rw [h]; rfl)
    · refine .inr ?_
      show (eqD (shL P H) (a.sh P.length) (b.sh P.length)).map _ = _
      rw [h, Option.map_id]; rfl
  | inn => exact in_sh P H a b
  | nin =>
    rcases in_sh P H a b with h | h
    · exact .inl (by show (inD H a b).map _ = none; rw [h]; rfl)
    · refine .inr ?_
      show (inD (shL P H) (a.sh P.length) (b.sh P.length)).map _ = _
      rw [h, Option.map_id]; rfl
  | _ => cases a <;> cases b <;> first | exact .inl rfl | exact .inr rfl
theorem shs_app (n : Nat) (a b : List D) : D.shs n (a ++ b) = D.shs n a ++ D.shs n b := by simp [shs_map]
theorem op_sh (n : Nat) (o : Op) (a b : D) : OSim (D.sh n) (opD o a b) (opD o (a.sh n) (b.sh n)) := by
  cases o <;> cases a <;> cases b <;> first | exact .inl rfl | skip
  case add.int.int => exact .inr rfl
  case add.str.str x y =>
    show OSim (D.sh n) (if _ then _ else _) (if _ then _ else _)
    split
    · exact .inr rfl
    · exact .inl rfl
  case add.tup.tup x y =>
    show OSim (D.sh n) (if x ≠ [] ∧ x.length + y.length ≤ sizeLine then some (.tup (x ++ y)) else none) (if D.shs n x ≠ [] ∧ (D.shs n x).length + (D.shs n y).length ≤ sizeLine then some (.tup (D.shs n x ++ D.shs n y)) else none)
    have e1 : (D.shs n x ≠ []) ↔ x ≠ [] := by cases x <;> simp [D.shs]
    rw [shs_map n x, shs_map n y, List.length_map, List.length_map]
    rw [shs_map n x] at e1
    by_cases h : x ≠ [] ∧ x.length + y.length ≤ sizeLine
    · rw [if_pos h, if_pos ⟨e1.mpr h.1, h.2⟩]
      refine .inr ?_
      simp [D.sh, shs_map]
    · rw [if_neg h]; exact .inl rfl
  all_goals first | exact .inr rfl | (dsimp only [opD, D.sh]; split <;> first | exact .inr rfl | exact .inl rfl)
end

section
variable (P H : AH)
theorem place_map {α β : Type} (f : α → β) (xs : List α) (i : Int) : place (xs.map f) i = (place xs i).map f := by
  unfold place
  rw [List.length_map]
  split
  · rw [List.getElem?_map]
  · split
    · rw [List.getElem?_map]
    · rfl
theorem cutL_map {α β : Type} (f : α → β) (xs : List α) (lo hi : Option Int) : cutL (xs.map f) lo hi = (cutL xs lo hi).map f := by
  unfold cutL
  rw [List.length_map, List.map_take, List.map_drop]
theorem idx_sh (a i : D) : OSim (D.sh P.length) (idxD H a i) (idxD (shL P H) (a.sh P.length) (i.sh P.length)) := by
  refine .inr ?_
  unfold idxD
  rw [view_sh]
  cases hv : view H a with
  | lst xs => cases i <;> first | rfl | (simp only [D.sh, shs_map, place_map])
  | tup xs => cases i <;> first | rfl | (simp only [D.sh, shs_map, place_map])
  | str s =>
    cases i <;> first | rfl | skip
    simp only [D.sh]
    split
    · rw [Option.map_map]; rfl
    · rfl
  | ref r =>
    simp only [D.sh]
    rw [shL_get, key_sh]
    cases H[r]? with
    | none => rfl
    | some o =>
      cases o with
      | dic kvs =>
        simp only [Option.map_some, AO.sh]
        cases keyD i with
        | none => rfl
        | some k => simp only [lookK_sh]
      | _ => rfl
  | _ => rfl
def shP (P : AH) (p : D × AH) : D × AH := (p.1.sh P.length, shL P p.2)
theorem mkL_sh (m : Bool) (xs : List D) : mkL m (xs.map (D.sh P.length)) (shL P H) = shP P (mkL m xs H) := by
  unfold mkL shP
  cases m with
  | false => simp [D.sh, shs_map]
  | true =>
    simp only [if_true, D.sh, shL_len]
    rw [← shL_push]; rfl
theorem slc_sh (m : Bool) (a : D) (lo hi : Option Int) : OSim (shP P) (slcD m H a lo hi) (slcD m (shL P H) (a.sh P.length) lo hi) := by
  refine .inr ?_
  unfold slcD
  rw [view_sh]
  cases hv : view H a with
  | lst xs => simp only [D.sh, shs_map, cutL_map, mkL_sh, Option.map_some]
  | tup xs =>
    simp only [D.sh, shs_map, List.length_map]
    split
    · rfl
    · simp [cutL_map, shP, D.sh, shs_map]
  | str s =>
    simp only [D.sh]
    split <;> rfl
  | scr xs =>
    simp only [D.sh, Option.map_some]
    rw [← mkL_sh, List.map_map]; rfl
  | _ => rfl
theorem getA_sh (n f : Nat) : ∀ fs, getA f (shF n fs) = (getA f fs).map (D.sh n)
  | [] => rfl
  | (g, d) :: r => by
    show (if g = f then some (d.sh n) else getA f (shF n r)) = Option.map _ (if g = f then some d else getA f r)
    rw [getA_sh n f r]
    split <;> rfl
theorem putA_sh (n f : Nat) (d : D) : ∀ fs, putA f (d.sh n) (shF n fs) = shF n (putA f d fs)
  | [] => rfl
  | (g, e) :: r => by
    show (if g = f then (g, d.sh n) :: shF n r else (g, e.sh n) :: putA f (d.sh n) (shF n r)) = shF n (if g = f then (g, d) :: r else (g, e) :: putA f d r)
    rw [putA_sh n f d r]
    split <;> rfl
theorem ty_sh (t : Ty) (d : D) : isTy (shL P H) t (d.sh P.length) = isTy H t d := by
  cases t <;> cases d <;> first | rfl | skip
  simp only [D.sh, isTy]
  rw [shL_get]
  cases H[(_ : Nat)]? with
  | none => rfl
  | some o => cases o <;> rfl
theorem plain_sh (d : D) : plainD (shL P H) (d.sh P.length) = plainD H d := by
  cases d <;> first | rfl | skip
  simp only [D.sh, plainD]
  rw [shL_get]
  cases H[(_ : Nat)]? with
  | none => rfl
  | some o => cases o <;> rfl
theorem seq_sh (d : D) : seqD (shL P H) (d.sh P.length) = (seqD H d).map (List.map (D.sh P.length)) := by
  unfold seqD
  rw [view_sh]
  cases view H d <;> simp [D.sh, shs_map]
theorem bools_sh (n : Nat) : ∀ xs : List D, bools (xs.map (D.sh n)) = bools xs
  | [] => rfl
  | x :: xs => by cases x <;> first | rfl | (simp only [List.map_cons, D.sh, bools, bools_sh n xs])
theorem texts_sh (n : Nat) : ∀ xs : List D, texts (xs.map (D.sh n)) = texts xs
  | [] => rfl
  | x :: xs => by cases x <;> first | rfl | (simp only [List.map_cons, D.sh, texts, texts_sh n xs])
theorem bi_sh (b : Bi) (ds : List D) : OSim (shP P) (evBi H b ds) (evBi (shL P H) b (ds.map (D.sh P.length))) := by
  cases ds with
  | nil => cases b <;> exact .inl rfl
  | cons d r =>
    cases r with
    | cons _ _ =>
      refine .inl ?_
      cases b <;> first | rfl | (cases d <;> first | rfl | (rename_i s; rcases s with _ | ⟨_, _ | _⟩ <;> rfl))
    | nil =>
      cases b with
      | len =>
        refine .inr ?_
        show evBi (shL P H) .len [d.sh P.length] = _
        rw [n_len, n_len, view_sh]
        cases view H d <;> first | rfl | skip
        · simp only [D.sh]; split <;> rfl
        · simp only [D.sh, shs_map, List.length_map]; rfl
        · simp only [D.sh, shs_map, List.length_map]; rfl
      | isi ts =>
        refine .inr ?_
        show evBi (shL P H) (.isi ts) [d.sh P.length] = _
        rw [n_isi, n_isi, plain_sh]
        simp only [ty_sh]
        split <;> rfl
      | toInt =>
        cases d <;> first | exact .inl rfl | exact .inr rfl | skip
        refine .inr ?_
        show (if _ then _ else _) = Option.map _ (if _ then _ else _)
        split <;> rfl
      | toStr =>
        cases d <;> first | exact .inl rfl | exact .inr rfl | skip
        refine .inr ?_
        show (if _ then _ else _) = Option.map _ (if _ then _ else _)
        split <;> rfl
      | ord =>
        cases d with
        | str s => match s with
          | [] => exact .inl rfl
          | [c] => exact .inr rfl
          | _ :: _ :: _ => exact .inl rfl
        | _ => exact .inl rfl
      | all =>
        refine .inr ?_
        show (match view (shL P H) (d.sh P.length) with
          | .lst xs => match bools xs with
            | some bs => some (D.bl (bs.all id), shL P H)
            | none => none
          | _ => none) = Option.map _ (match view H d with
          | .lst xs => match bools xs with
            | some bs => some (D.bl (bs.all id), H)
            | none => none
          | _ => none)
        rw [view_sh]
        cases view H d <;> first | rfl | skip
        simp only [D.sh, shs_map, bools_sh]
        cases bools _ <;> rfl
      | any =>
        refine .inr ?_
        show (match view (shL P H) (d.sh P.length) with
          | .lst xs => match bools xs with
            | some bs => some (D.bl (bs.any id), shL P H)
            | none => none
          | _ => none) = Option.map _ (match view H d with
          | .lst xs => match bools xs with
            | some bs => some (D.bl (bs.any id), H)
            | none => none
          | _ => none)
        rw [view_sh]
        cases view H d <;> first | rfl | skip
        simp only [D.sh, shs_map, bools_sh]
        cases bools _ <;> rfl
      | tuple =>
        refine .inr ?_
        show (seqD (shL P H) (d.sh P.length)).map _ = Option.map _ ((seqD H d).map _)
        rw [seq_sh, Option.map_map, Option.map_map]
        congr 1
        funext xs
        simp [shP, D.sh, shs_map]
      | list m =>
        refine .inr ?_
        show (seqD (shL P H) (d.sh P.length)).map _ = Option.map _ ((seqD H d).map _)
        rw [seq_sh, Option.map_map, Option.map_map]
        congr 1
        funext xs
        exact mkL_sh P H m xs
      | lenSet =>
        refine .inr ?_
        show (match view (shL P H) (d.sh P.length) with
          | .lst xs => match texts xs with
            | some ts => if ts.length ≤ 1000 then some (D.int (dedup ts).length, shL P H) else none
            | none => none
          | _ => none) = Option.map _ (match view H d with
          | .lst xs => match texts xs with
            | some ts => if ts.length ≤ 1000 then some (D.int (dedup ts).length, H) else none
            | none => none
          | _ => none)
        rw [view_sh]
        cases view H d <;> first | rfl | skip
        simp only [D.sh, shs_map, texts_sh]
        cases texts _ with
        | none => rfl
        | some ts => simp only []; split <;> rfl
theorem bmOk_sh (b : Bm) (x : D) : bmOk (shL P H) b (x.sh P.length) = bmOk H b x := by
  cases b <;> cases x <;> first | rfl | skip
  all_goals
    simp only [D.sh, bmOk]
    rw [shL_get]
    cases H[(_ : Nat)]? with
    | none => rfl
    | some o => cases o <;> rfl
theorem bm_sh (b : Bm) (x : D) (ds : List D) : OSim (shP P) (evBm H b x ds) (evBm (shL P H) b (x.sh P.length) (ds.map (D.sh P.length))) := by
  refine .inr ?_
  cases b with
  | append =>
    cases x <;> first | rfl | skip
    match ds with
    | [] => rfl
    | [d] =>
      show (match (shL P H)[P.length + _]? with
        | some (.lst xs) => if xs.length < sizeLine then some (D.non, (shL P H).set (P.length + _) (.lst (xs ++ [d.sh P.length]))) else none
        | _ => none) = Option.map _ (match H[(_ : Nat)]? with
        | some (.lst xs) => if xs.length < sizeLine then some (D.non, H.set _ (.lst (xs ++ [d]))) else none
        | _ => none)
      rw [shL_get]
      cases H[(_ : Nat)]? with
      | none => rfl
      | some o =>
        cases o <;> first | rfl | skip
        simp only [Option.map_some, AO.sh, List.length_map]
        split
        · simp only [Option.map_some, shP, D.sh]
          rw [← shL_set]
          simp [AO.sh]
        · rfl
    | _ :: _ :: _ => rfl
  | pop =>
    cases x <;> first | rfl | skip
    match ds with
    | [] =>
      show (match (shL P H)[P.length + _]? with
        | some (.lst xs) => match xs.getLast? with
          | some d => some (d, (shL P H).set (P.length + _) (.lst xs.dropLast))
          | none => none
        | _ => none) = Option.map _ (match H[(_ : Nat)]? with
        | some (.lst xs) => match xs.getLast? with
          | some d => some (d, H.set _ (.lst xs.dropLast))
          | none => none
        | _ => none)
      rw [shL_get]
      cases H[(_ : Nat)]? with
      | none => rfl
      | some o =>
        cases o <;> first | rfl | skip
        simp only [Option.map_some, AO.sh, List.getLast?_map]
        cases List.getLast? _ with
        | none => rfl
        | some d =>
          simp only [Option.map_some, shP]
          rw [← shL_set]
          simp [AO.sh, List.map_dropLast]
    | _ :: _ => rfl
  | join =>
    cases x <;> first | rfl | skip
    match ds with
    | [] => rfl
    | [d] =>
      show (match seqD (shL P H) (d.sh P.length) with
        | some xs => match texts xs with
          | some ts => if (ts.map List.length).sum + ts.length * List.length _ ≤ 16777216 then some (D.str (joinT _ ts), shL P H) else none
          | none => none
        | none => none) = Option.map _ (match seqD H d with
        | some xs => match texts xs with
          | some ts => if (ts.map List.length).sum + ts.length * List.length _ ≤ 16777216 then some (D.str (joinT _ ts), H) else none
          | none => none
        | none => none)
      rw [seq_sh]
      cases seqD H d with
      | none => rfl
      | some xs =>
        simp only [Option.map_some, texts_sh]
        cases texts xs with
        | none => rfl
        | some ts => simp only []; split <;> rfl
    | _ :: _ :: _ => rfl
  | dbl c =>
    cases x <;> first | rfl | skip
    match ds with
    | [] =>
      show (if _ then _ else _) = Option.map _ (if _ then _ else _)
      split <;> rfl
    | _ :: _ => rfl
end
section
variable {n : Nat}
theorem shS_set (σ : Sl) (i : Nat) (d : D) : shS n (σ.set i (some d)) = (shS n σ).set i (some (d.sh n)) := by simp [shS, List.map_set]
theorem shS_get (σ : Sl) (i : Nat) : (shS n σ)[i]? = (σ[i]?).map (Option.map (D.sh n)) := by simp [shS]
theorem wipe_sh (σ : Sl) : ∀ vs, wipeD (shS n σ) vs = shS n (wipeD σ vs)
  | [] => rfl
  | v :: vs => by
    show (wipeD (shS n σ) vs).set v none = shS n ((wipeD σ vs).set v none)
    rw [wipe_sh σ vs]
    simp [shS, List.map_set]
mutual
theorem setT_sh : ∀ (t : TN) (d : D) (σ : Sl), setT t (d.sh n) (shS n σ) = (setT t d σ).map (shS n)
  | .nm i, d, σ => by simp only [setT, Option.map_some, shS_set]
  | .tp t, d, σ => by
    cases d <;> first | rfl | skip
    · simp only [D.sh, setT]; exact setTs_sh t _ σ
    · simp only [D.sh, setT]; exact setTs_sh t _ σ
  | .nil, d, σ => rfl
  | .cons _ _, d, σ => rfl
theorem setTs_sh : ∀ (t : TN) (ds : List D) (σ : Sl), setTs t (D.shs n ds) (shS n σ) = (setTs t ds σ).map (shS n)
  | .nil, [], σ => rfl
  | .nil, _ :: _, σ => rfl
  | .cons t u, [], σ => rfl
  | .cons t u, x :: xs, σ => by
    simp only [D.shs, setTs, setT_sh t x σ]
    cases setT t x σ with
    | none => rfl
    | some σ' => simp only [Option.map_some]; exact setTs_sh u xs σ'
  | .nm _, [], σ => rfl
  | .nm _, _ :: _, σ => rfl
  | .tp _, [], σ => rfl
  | .tp _, _ :: _, σ => rfl
end
end
section
variable (P H : AH)
theorem tru_sh (d : D) : truD (shL P H) (d.sh P.length) = truD H d := by
  unfold truD
  rw [view_sh]
  cases hv : view H d <;> first | rfl | skip
  · rename_i xs; cases xs <;> rfl
  · rename_i xs; cases xs <;> rfl
  · simp only [D.sh]
    rw [shL_get]
    cases H[(_ : Nat)]? with
    | none => rfl
    | some o =>
      cases o <;> first | rfl | skip
      rename_i kvs
      cases kvs <;> rfl
theorem att_sh (f : Nat) (d : D) : attD (shL P H) f (d.sh P.length) = (attD H f d).map (D.sh P.length) := by
  cases d <;> first | rfl | skip
  simp only [D.sh, attD]
  rw [shL_get]
  cases H[(_ : Nat)]? with
  | none => rfl
  | some o =>
    cases o <;> first | rfl | skip
    all_goals simp only [Option.map_some, AO.sh, getA_sh]
theorem xcd_sh (d : D) : xcD (shL P H) (d.sh P.length) = xcD H d := by
  cases d <;> first | rfl | skip
  simp only [D.sh, xcD]
  rw [shL_get]
  cases H[(_ : Nat)]? with
  | none => rfl
  | some o => cases o <;> rfl
theorem byName_sh (n : Nat) (kvs : List (Nat × D)) : ∀ fs : List Nat, byName fs (shF n kvs) = (byName fs kvs).map (shF n)
  | [] => rfl
  | f :: r => by
    rw [byName, byName, getA_sh, byName_sh n kvs r]
    cases getA f kvs with
    | none => rfl
    | some d => cases byName r kvs <;> rfl
theorem cls_sh (d : D) : clsD (shL P H) (d.sh P.length) = clsD H d := by
  cases d <;> first | rfl | skip
  simp only [D.sh, clsD]
  rw [shL_get]
  cases H[(_ : Nat)]? with
  | none => rfl
  | some o => cases o <;> rfl
theorem cat_sh (m : Bool) (x y : D) : OSim (shP P) (catD m H x y) (catD m (shL P H) (x.sh P.length) (y.sh P.length)) := by
  refine .inr ?_
  unfold catD
  rw [view_sh, view_sh]
  cases view H x <;> first | rfl | skip
  cases view H y <;> first | rfl | skip
  simp only [D.sh, shs_map, List.length_map, ← List.map_append]
  split
  · rw [mkL_sh]; rfl
  · rfl
def shI (n : Nat) (p : List D × Option Nat) : List D × Option Nat := (p.1.map (D.sh n), p.2.map (n + ·))
theorem items_sh (k : SK) (ds : List D) : items (shL P H) k (ds.map (D.sh P.length)) = (items H k ds).map (shI P.length) := by
  cases k with
  | val =>
    match ds with
    | [] => rfl
    | [d] =>
      cases d <;> first | rfl | skip
      · simp only [List.map_cons, List.map_nil, D.sh, items, Option.map_some, shI, Option.map_none, List.map_map]; rfl
      · simp [D.sh, items, shI, shs_map]
      · simp [D.sh, items, shI, shs_map]
      · simp only [List.map_cons, List.map_nil, D.sh, items]
        rw [shL_get]
        cases H[(_ : Nat)]? with
        | none => rfl
        | some o => cases o <;> rfl
    | a :: _ :: _ => cases a <;> rfl
  | rng =>
    match ds with
    | [] => rfl
    | [d] =>
      cases d <;> first | rfl | skip
      simp only [List.map_cons, List.map_nil, D.sh, items]
      split
      · simp only [Option.map_some, shI, Option.map_none, List.map_map]; rfl
      · rfl
    | [a, b] =>
      cases a <;> cases b <;> first | rfl | skip
      simp only [List.map_cons, List.map_nil, D.sh, items]
      split
      · simp only [Option.map_some, shI, Option.map_none, List.map_map]; rfl
      · rfl
    | a :: b :: _ :: _ => cases a <;> cases b <;> rfl
theorem still_sh {all : List D} {g : Option Nat} (h : Still all g H) : Still (all.map (D.sh P.length)) (g.map (P.length + ·)) (shL P H) := by
  intro i e
  cases g with
  | none => cases e
  | some j =>
    simp only [Option.map_some, Option.some.injEq] at e
    subst e
    rw [shL_get, h j rfl]; rfl
theorem setI_sh (o i d : D) : setI (shL P H) (o.sh P.length) (i.sh P.length) (d.sh P.length) = (setI H o i d).map (shL P) := by
  cases o <;> first | rfl | skip
  simp only [D.sh, setI]
  rw [shL_get]
  cases H[(_ : Nat)]? with
  | none => rfl
  | some u =>
    cases u <;> first | rfl | skip
    · simp only [Option.map_some, AO.sh]
      cases i <;> first | rfl | skip
      simp only [D.sh, List.length_map]
      split
      · simp only [Option.map_some]
        rw [← shL_set]
        simp [AO.sh, List.map_set]
      · rfl
    · simp only [Option.map_some, AO.sh, key_sh]
      cases keyD i with
      | none => rfl
      | some k =>
        simp only [shK, List.length_map]
        split
        · simp only [Option.map_some]
          rw [← shL_set]
          have := putK_sh P.length k d
          unfold shK at this
          simp [AO.sh, shK, this]
        · rfl
theorem setAt_sh (f : Nat) (o d : D) : setAt (shL P H) f (o.sh P.length) (d.sh P.length) = (setAt H f o d).map (shL P) := by
  cases o <;> first | rfl | skip
  simp only [D.sh, setAt]
  rw [shL_get]
  cases H[(_ : Nat)]? with
  | none => rfl
  | some u =>
    cases u <;> first | rfl | skip
    simp only [Option.map_some, AO.sh]
    have hl : ∀ fs, (shF P.length fs).length = fs.length := fun fs => by simp [shF]
    rw [hl]
    split
    · simp only [Option.map_some]
      rw [← shL_set, putA_sh]; rfl
    · rfl
theorem hi_sh (n : Nat) (fs : List (Nat × D)) : ∀ x, evHI (shF n fs) x = (evHI fs x).map (D.sh n)
  | .fld f => getA_sh n f fs
  | .txt s => rfl
theorem his_sh (n : Nat) (fs : List (Nat × D)) : ∀ xs, evHIs (shF n fs) xs = (evHIs fs xs).map (List.map (D.sh n))
  | [] => rfl
  | x :: xs => by
    simp only [evHIs, hi_sh, his_sh n fs xs]
    cases evHI fs x with
    | none => rfl
    | some d => cases evHIs fs xs <;> rfl
theorem he_sh (n c : Nat) (fs : List (Nat × D)) : ∀ h, evHE c (shF n fs) h = (evHE c fs h).map (D.sh n)
  | .one x => hi_sh n fs x
  | .isx _ _ => rfl
  | .tup xs => by
    simp only [evHE, his_sh, Option.map_map]
    congr 1
    funext ds
    simp [D.sh, shs_map]
theorem AO.low_sh (n m : Nat) (o : AO) : (o.sh n).low (n + m) = o.low m := by
  cases o with
  | lst xs => simp only [AO.sh, AO.low, ← shs_map, lows_sh]
  | dic kvs =>
    simp only [AO.sh, AO.low, shK, List.map_map]
    rw [← lows_sh n m, shs_map, List.map_map]; rfl
  | ins c fs =>
    simp only [AO.sh, AO.low, shF, List.map_map]
    rw [← lows_sh n m, shs_map, List.map_map]; rfl
  | exo c fs =>
    simp only [AO.sh, AO.low, shF, List.map_map]
    rw [← lows_sh n m, shs_map, List.map_map]; rfl
theorem map_sh_inj (n : Nat) : ∀ a b : List D, a.map (D.sh n) = b.map (D.sh n) → a = b := fun a b h => by
  rw [← shs_map, ← shs_map] at h
  exact shs_inj n a b h
theorem AO.sh_inj (n : Nat) (a b : AO) (h : a.sh n = b.sh n) : a = b := by
  have hp : ∀ {α : Type} (x y : List (α × D)), (x.map fun kv => (kv.1, kv.2.sh n)) = (y.map fun kv => (kv.1, kv.2.sh n)) → x = y := by
    intro α x
    induction x with
    | nil => intro y h; cases y <;> simp at h ⊢
    | cons a x ih =>
      intro y h
      cases y with
      | nil => simp at h
      | cons b y =>
        obtain ⟨a1, a2⟩ := a
        obtain ⟨b1, b2⟩ := b
        simp only [List.map_cons, List.cons.injEq, Prod.mk.injEq] at h
        obtain ⟨⟨h1, h2⟩, h3⟩ := h
        rw [h1, Ev.sh_inj n a2 b2 h2, ih y h3]
  cases a <;> cases b <;> simp only [AO.sh, AO.lst.injEq, AO.dic.injEq, AO.ins.injEq, AO.exo.injEq, reduceCtorEq] at h ⊢
  · exact map_sh_inj n _ _ h
  · exact hp _ _ h
  · exact ⟨h.1, hp _ _ h.2⟩
  · exact ⟨h.1, hp _ _ h.2⟩
theorem back_sh (H' : AH) : Back (shL P H) (shL P H') ↔ Back H H' := by
  unfold Back
  rw [shL_len, shL_len]
  constructor
  · intro ⟨h1, h2⟩
    refine ⟨by omega, fun i hi => ?_⟩
    have := h2 (P.length + i) (by omega)
    rw [shL_get, shL_get] at this
    rcases this with h | ⟨o, e, l⟩
    · left
      cases h1 : H'[i]? <;> cases h3 : H[i]? <;> rw [h1, h3] at h <;> simp at h ⊢
      exact AO.sh_inj _ _ _ h
    · right
      cases h1 : H'[i]? with
      | none => rw [h1] at e; cases e
      | some u =>
        rw [h1] at e
        cases e
        exact ⟨u, rfl, by rw [AO.low_sh] at l; exact l⟩
  · intro ⟨h1, h2⟩
    refine ⟨by omega, fun i hi => ?_⟩
    by_cases hp : i < P.length
    · left; rw [shL_lo _ _ _ hp, shL_lo _ _ _ hp]
    · obtain ⟨j, rfl⟩ : ∃ j, i = P.length + j := ⟨i - P.length, by omega⟩
      rw [shL_get, shL_get]
      rcases h2 j (by omega) with h | ⟨o, e, l⟩
      · left; rw [h]
      · right; exact ⟨o.sh P.length, by rw [e]; rfl, by rw [AO.low_sh]; exact l⟩
theorem newL_sh (m : Nat) (H' : AH) (d : D) : newL (P.length + m) (shL P H') (d.sh P.length) = (newL m H' d).map (List.map (D.sh P.length)) := by
  cases d <;> first | rfl | skip
  simp only [D.sh, newL, Nat.add_le_add_iff_left]
  split
  · rw [shL_get]
    cases H'[(_ : Nat)]? with
    | none => rfl
    | some o =>
      cases o <;> first | rfl | skip
      simp only [Option.map_some, AO.sh, ← shs_map, lows_sh]
      split <;> simp [shs_map]
  · rfl
theorem retract_sh (fz : Bool) (H' : AH) (d : D) : Sim P (D.sh P.length) (retract fz H H' d) (retract fz (shL P H) (shL P H') (d.sh P.length)) := by
  unfold retract
  by_cases hb : Back H H'
  · rw [if_pos hb, if_pos ((back_sh P H H').mpr hb), shL_len, newL_sh]
    cases newL H.length H' d with
    | none =>
      simp only [Option.map_none, low_sh, shL_take]
      split <;> exact rfl
    | some xs =>
      simp only [Option.map_some, shL_take]
      cases fz with
      | true =>
        simp only [if_true]
        show Rs.ok _ _ = Rs.ok _ _
        simp [D.sh, shs_map]
      | false =>
        simp only [Bool.false_eq_true, if_false]
        show Rs.ok _ _ = Rs.ok _ _
        rw [← shL_push]; rfl
  · rw [if_neg hb, if_neg (fun h => hb ((back_sh P H H').mp h))]
    exact rfl
end

/-! ### the syntax holds no references -/
def E.pur : E → Bool
  | .var _ => true
  | .con d => d.low 0
  | .glo _ => true
  | .nil => true
  | .cons e es => e.pur && es.pur
  | .tup es => es.pur
  | .lst _ es => es.pur
  | .dnew => true
  | .dlit kvs => (mergeD kvs).all fun kv => kv.2.low 0
  | .bin _ a b => a.pur && b.pur
  | .cat _ a b => a.pur && b.pur
  | .neg a => a.pur
  | .cmp _ a b => a.pur && b.pur
  | .isn _ a => a.pur
  | .chain _ _ a b c => a.pur && b.pur && c.pur
  | .and es => es.pur
  | .or es => es.pur
  | .not a => a.pur
  | .ite c a b => c.pur && a.pur && b.pur
  | .idx a i => a.pur && i.pur
  | .slc _ a lo hi => a.pur && lo.pur && hi.pur
  | .att a _ => a.pur
  | .call _ es => es.pur
  | .mth _ _ o es => o.pur && es.pur
  | .mak _ es => es.pur
  | .mkx _ _ _ es => es.pur
  | .isx _ _ a => a.pur
  | .bi _ es => es.pur
  | .bm _ o es => o.pur && es.pur
  | .comp _ _ _ _ src test elt => src.pur && test.pur && elt.pur
def S.pur : S → Bool
  | .raise _ _ es => es.pur
  | .tryr b _ _ => b.pur
  | .pass => true
  | .seq a b => a.pur && b.pur
  | .ex e => e.pur
  | .asg _ e => e.pur
  | .seti o i e => o.pur && i.pur && e.pur
  | .seta o _ e => o.pur && e.pur
  | .ret e => e.pur
  | .ret0 => true
  | .ite c a b => c.pur && a.pur && b.pur
  | .whl c b => c.pur && b.pur
  | .fr _ _ src b => src.pur && b.pur
  | .brk => true
  | .cnt => true
  | .bad => true
def Pg.pur (P : Pg) : Bool := P.fns.all (fun f => f.body.pur) && P.glob.all (fun d => d.low 0)
section
variable {P : AH} {F F' : CF} {G : List D}
structure SE (P : AH) (F F' : CF) (G : List D) (x : E) : Prop where
  e : ∀ σ H, Sim P (D.sh P.length) (evE F G x σ H) (evE F' G x (shS P.length σ) (shL P H)) := by intro _ _; exact trivial
  es : ∀ σ H, Sim P (List.map (D.sh P.length)) (evEs F G x σ H) (evEs F' G x (shS P.length σ) (shL P H)) := by intro _ _; exact trivial
  p : ∀ σ H, Sim P id (evP F G x σ H) (evP F' G x (shS P.length σ) (shL P H)) := by intro _ _; exact trivial
  t : ∀ σ H, Sim P id (evT F G x σ H) (evT F' G x (shS P.length σ) (shL P H)) := by intro _ _; exact trivial
  an : ∀ σ H, Sim P (D.sh P.length) (evAnd F G x σ H) (evAnd F' G x (shS P.length σ) (shL P H)) := by intro _ _; exact trivial
  o : ∀ σ H, Sim P (D.sh P.length) (evOr F G x σ H) (evOr F' G x (shS P.length σ) (shL P H)) := by intro _ _; exact trivial
  ant : ∀ σ H, Sim P id (evAndT F G x σ H) (evAndT F' G x (shS P.length σ) (shL P H)) := by intro _ _; exact trivial
  ot : ∀ σ H, Sim P id (evOrT F G x σ H) (evOrT F' G x (shS P.length σ) (shL P H)) := by intro _ _; exact trivial
theorem Sim.okk {α : Type} {f : α → α} {d d' : α} {A A' : AH} (h : d' = f d) (g : A' = shL P A) : Sim P f (.ok d A) (.ok d' A') := by subst h g; exact rfl
theorem Sim.no {α : Type} {f : α → α} {r : Rs α} : Sim P f .no r := trivial
theorem osim_some {α : Type} {f : α → α} {o o' : Option α} (h : o' = o.map f) : OSim f o o' := .inr h
theorem osim_id {α : Type} {o o' : Option α} (h : o' = o) : OSim id o o' := .inr (by rw [Option.map_id]; exact h)
theorem osim_bl {P : AH} {o o' : Option Bool} (h : OSim id o o') : OSim (D.sh P.length) (o.map .bl) (o'.map .bl) := by
  rcases h with h | h
  · exact .inl (by rw [h]; rfl)
  · refine .inr ?_
    rw [h]
    cases o <;> rfl
theorem compGo_sh {t : TN} {tst tst' : Sl → AH → Rs Bool} {f f' : Sl → AH → Rs D} (h1 : ∀ σ H, Sim P id (tst σ H) (tst' (shS P.length σ) (shL P H))) (h2 : ∀ σ H, Sim P (D.sh P.length) (f σ H) (f' (shS P.length σ) (shL P H))) (all : List D) (g : Option Nat) (σ : Sl) :
    ∀ (xs acc : List D) (H : AH), Sim P (List.map (D.sh P.length)) (compGo all g t tst f σ xs acc H) (compGo (all.map (D.sh P.length)) (g.map (P.length + ·)) t tst' f' (shS P.length σ) (xs.map (D.sh P.length)) (acc.map (D.sh P.length)) (shL P H))
  | [], acc, H => by
    rw [compGo_nil, List.map_nil, compGo_nil]
    by_cases hs : Still all g H
    · rw [if_pos hs, if_pos (still_sh P H hs)]; exact rfl
    · rw [if_neg hs]; exact trivial
  | x :: xs, acc, H => by
    rw [compGo_cons, List.map_cons, compGo_cons]
    by_cases hs : Still all g H
    · rw [if_pos hs, if_pos (still_sh P H hs), setT_sh]
      cases setT t x σ with
      | none => exact trivial
      | some σ1 =>
        simp only [Option.map_some]
        have q1 := h1 σ1 H
        cases e1 : tst σ1 H with
        | no => exact trivial
        | ex c fs A => exact trivial
        | ok z A =>
          rw [e1] at q1
          have q1 : tst' (shS P.length σ1) (shL P H) = .ok (id z) (shL P A) := q1
          rw [q1]
          cases z with
          | false =>
            simp only [id]
            exact compGo_sh h1 h2 all g σ xs acc A
          | true =>
            simp only [id]
            have q2 := h2 σ1 A
            cases e2 : f σ1 A with
            | no => exact trivial
            | ex c fs A => exact trivial
            | ok y A2 =>
              rw [e2] at q2
              have q2 : f' (shS P.length σ1) (shL P A) = .ok (y.sh P.length) (shL P A2) := q2
              rw [q2]
              simp only [List.length_map]
              split
              · have := compGo_sh (t := t) h1 h2 all g σ xs (acc ++ [y]) A2
                rw [List.map_append] at this
                exact this
              · exact trivial
    · rw [if_neg hs]; exact trivial
theorem shS_var (σ : Sl) (i : Nat) {β : Type} (f : D → Rs β) (f' : D → Rs β) (g : β → β) (h : ∀ d, Sim P g (f d) (f' (d.sh P.length))) : Sim P g (match σ[i]? with
    | some (some d) => f d
    | _ => .no) (match (shS P.length σ)[i]? with
    | some (some d) => f' d
    | _ => .no) := by
  rw [shS_get]
  cases σ[i]? with
  | none => exact trivial
  | some o =>
    cases o with
    | none => exact trivial
    | some d => exact h d
theorem and_t {a b : Bool} (h : (a && b) = true) : a = true ∧ b = true := by rw [Bool.and_eq_true] at h; exact h
theorem zip_sh (n : Nat) : ∀ (fs : List Nat) (ds : List D), fs.zip (ds.map (D.sh n)) = shF n (fs.zip ds)
  | [], _ => rfl
  | _ :: _, [] => rfl
  | f :: fs, d :: ds => by
    show (f, d.sh n) :: fs.zip (ds.map (D.sh n)) = (f, d.sh n) :: shF n (fs.zip ds)
    rw [zip_sh n fs ds]
theorem evE_sh (hF : ∀ f ds A, Sim P (D.sh P.length) (F f ds A) (F' f (ds.map (D.sh P.length)) (shL P A))) (hG : G.all (fun d => d.low 0) = true) : ∀ x : E, x.pur = true → SE P F F' G x := by
  intro x
  induction x with
  | var i => exact fun _ => { e := fun σ H => shS_var σ i (fun d => .ok d H) (fun d => .ok d (shL P H)) _ fun d => rfl
                              t := fun σ H => shS_var σ i (fun d => liftR (truD H d) H) (fun d => liftR (truD (shL P H) d) (shL P H)) _ fun d => Sim.lift (osim_id (tru_sh P H d)) }
  | con d => exact fun h => { e := fun σ H => Sim.okk (sh_low _ d h).symm rfl }
  | glo i =>
    refine fun _ => { e := fun σ H => ?_ }
    show Sim P _ (liftR (G[i]?) H) (liftR (G[i]?) _)
    refine Sim.lift (osim_some ?_)
    cases hg : G[i]? with
    | none => rfl
    | some d =>
      have := List.all_eq_true.mp hG d (List.mem_of_getElem? hg)
      simp only [Option.map_some]
      rw [sh_low _ d this]
  | nil => exact fun _ => { es := fun σ H => rfl, p := fun σ H => rfl }
  | cons a b iha ihb =>
    intro h
    have ⟨h1, h2⟩ := and_t h
    have A := iha h1
    have B := ihb h2
    exact { es := fun σ H => Sim.bind (A.e σ H) fun d H1 _ => Sim.bind (B.es σ H1) fun ds H2 _ => rfl
            p := fun σ H => Sim.bind (A.e σ H) fun d H1 _ => Sim.lift (osim_id (by cases d <;> rfl))
            an := fun σ H => by
              show Sim P _ (if isNil b then _ else _) (if isNil b then _ else _)
              split
              · exact A.e σ H
              · exact Sim.bind (A.e σ H) fun d H1 _ => Sim.bind (f := id) (Sim.lift (osim_id (by cases d <;> rfl))) fun z H2 _ => by
                  cases z with
                  | true => exact B.an σ H2
                  | false => exact rfl
            o := fun σ H => by
              show Sim P _ (if isNil b then _ else _) (if isNil b then _ else _)
              split
              · exact A.e σ H
              · exact Sim.bind (A.e σ H) fun d H1 _ => Sim.bind (f := id) (Sim.lift (osim_id (by cases d <;> rfl))) fun z H2 _ => by
                  cases z with
                  | false => exact B.o σ H2
                  | true => exact rfl
            ant := fun σ H => by
              show Sim P _ (if isNil b then _ else _) (if isNil b then _ else _)
              split
              · exact A.t σ H
              · exact Sim.bind (A.t σ H) fun z H2 _ => by
                  cases z with
                  | true => exact B.ant σ H2
                  | false => exact rfl
            ot := fun σ H => by
              show Sim P _ (if isNil b then _ else _) (if isNil b then _ else _)
              split
              · exact A.t σ H
              · exact Sim.bind (A.t σ H) fun z H2 _ => by
                  cases z with
                  | false => exact B.ot σ H2
                  | true => exact rfl }
  | tup es ih => exact fun h => { e := fun σ H => Sim.bind ((ih h).es σ H) fun ds H1 _ => Sim.okk (by simp [D.sh, shs_map]) rfl }
  | lst m es ih => exact fun h => { e := fun σ H => Sim.bind ((ih h).es σ H) fun ds H1 _ => Sim.liftH (osim_some (by rw [mkL_sh]; rfl)) }
  | dnew => exact fun _ => { e := fun σ H => Sim.okk (by rw [shL_len]; rfl) (by rw [← shL_push]; rfl) }
  | dlit kvs =>
    refine fun h => { e := fun σ H => Sim.okk (by rw [shL_len]; rfl) ?_ }
    rw [← shL_push]
    have e : shK P.length (mergeD kvs) = mergeD kvs := by
      have h : ((mergeD kvs).all fun kv => kv.2.low 0) = true := h
      unfold shK
      have : ∀ l : List (DK × D), (l.all fun kv => kv.2.low 0) = true → l.map (fun kv => (kv.1, kv.2.sh P.length)) = l := by
        intro l
        induction l with
        | nil => intro _; rfl
        | cons a l ih =>
          intro h
          rw [List.all_cons] at h
          have ⟨h1, h2⟩ := and_t h
          rw [List.map_cons, ih h2, sh_low _ _ h1]
      exact this _ h
    show _ = shL P H ++ [AO.dic (shK P.length (mergeD kvs))]
    rw [e]
  | bin o a b iha ihb =>
    intro h
    have ⟨h1, h2⟩ := and_t h
    exact { e := fun σ H => Sim.bind ((iha h1).e σ H) fun x H1 _ => Sim.bind ((ihb h2).e σ H1) fun y H2 _ => Sim.lift (op_sh _ o x y) }
  | cat m a b iha ihb =>
    intro h
    have ⟨h1, h2⟩ := and_t h
    exact { e := fun σ H => Sim.bind ((iha h1).e σ H) fun x H1 _ => Sim.bind ((ihb h2).e σ H1) fun y H2 _ => Sim.liftH (cat_sh P H2 m x y) }
  | neg a ih => exact fun h => { e := fun σ H => Sim.bind ((ih h).e σ H) fun x H1 _ => Sim.lift (osim_some (by cases x <;> rfl)) }
  | cmp o a b iha ihb =>
    intro h
    have ⟨h1, h2⟩ := and_t h
    exact { e := fun σ H => Sim.bind ((iha h1).e σ H) fun x H1 _ => Sim.bind ((ihb h2).e σ H1) fun y H2 _ => Sim.lift (osim_bl (cmp_sh P H2 o x y))
            t := fun σ H => Sim.bind ((iha h1).e σ H) fun x H1 _ => Sim.bind ((ihb h2).e σ H1) fun y H2 _ => Sim.lift (cmp_sh P H2 o x y) }
  | isn n a ih => exact fun h => { e := fun σ H => Sim.bind ((ih h).e σ H) fun x H1 _ => Sim.okk (by rw [non_sh]; rfl) rfl
                                   t := fun σ H => Sim.bind ((ih h).e σ H) fun x H1 _ => Sim.okk (by rw [non_sh]; rfl) rfl }
  | chain o p a b c iha ihb ihc =>
    intro h
    have ⟨h12, h3⟩ := and_t h
    have ⟨h1, h2⟩ := and_t h12
    exact { e := fun σ H => Sim.bind ((iha h1).e σ H) fun x H1 _ => Sim.bind ((ihb h2).e σ H1) fun y H2 _ => Sim.bind (Sim.lift (cmp_sh P H2 o x y)) fun z H3 _ => by
              cases z with
              | false => exact rfl
              | true => exact Sim.bind ((ihc h3).e σ H3) fun w H4 _ => Sim.lift (osim_bl (cmp_sh P H4 p y w))
            t := fun σ H => Sim.bind ((iha h1).e σ H) fun x H1 _ => Sim.bind ((ihb h2).e σ H1) fun y H2 _ => Sim.bind (Sim.lift (cmp_sh P H2 o x y)) fun z H3 _ => by
              cases z with
              | false => exact rfl
              | true => exact Sim.bind ((ihc h3).e σ H3) fun w H4 _ => Sim.lift (cmp_sh P H4 p y w) }
  | and es ih => exact fun h => { e := fun σ H => (ih h).an σ H, t := fun σ H => (ih h).ant σ H }
  | or es ih => exact fun h => { e := fun σ H => (ih h).o σ H, t := fun σ H => (ih h).ot σ H }
  | not a ih => exact fun h => { e := fun σ H => Sim.bind ((ih h).e σ H) fun x H1 _ => Sim.lift (osim_some (by cases x <;> rfl))
                                 t := fun σ H => Sim.bind ((ih h).t σ H) fun z H1 _ => rfl }
  | ite c a b ihc iha ihb =>
    intro h
    have ⟨h12, h3⟩ := and_t h
    have ⟨h1, h2⟩ := and_t h12
    exact { e := fun σ H => Sim.bind ((ihc h1).t σ H) fun z H1 _ => by
              cases z with
              | true => exact (iha h2).e σ H1
              | false => exact (ihb h3).e σ H1 }
  | idx a i iha ihi =>
    intro h
    have ⟨h1, h2⟩ := and_t h
    exact { e := fun σ H => Sim.bind ((iha h1).e σ H) fun x H1 _ => Sim.bind ((ihi h2).e σ H1) fun y H2 _ => Sim.lift (idx_sh P H2 x y)
            t := fun σ H => Sim.bind ((iha h1).e σ H) fun x H1 _ => Sim.bind ((ihi h2).e σ H1) fun y H2 _ => Sim.bind (Sim.lift (idx_sh P H2 x y)) fun d H3 _ => Sim.lift (osim_id (tru_sh P H3 d)) }
  | slc m a lo hi iha ihl ihh =>
    intro h
    have ⟨h12, h3⟩ := and_t h
    have ⟨h1, h2⟩ := and_t h12
    exact { e := fun σ H => Sim.bind ((iha h1).e σ H) fun x H1 _ => Sim.bind ((ihl h2).p σ H1) fun l H2 _ => Sim.bind ((ihh h3).p σ H2) fun u H3 _ => Sim.liftH (slc_sh P H3 m x l u) }
  | att a f ih => exact fun h => { e := fun σ H => Sim.bind ((ih h).e σ H) fun x H1 _ => Sim.lift (osim_some (att_sh P H1 f x)) }
  | call f es ih => exact fun h => { e := fun σ H => Sim.bind ((ih h).es σ H) fun ds H1 _ => hF (.fn f) ds H1
                                     t := fun σ H => Sim.bind ((ih h).es σ H) fun ds H1 _ => Sim.bind (hF (.fn f) ds H1) fun d H2 _ => Sim.lift (osim_id (tru_sh P H2 d)) }
  | mth c f o es iho ihs =>
    intro h
    have ⟨h1, h2⟩ := and_t h
    exact { e := fun σ H => Sim.bind ((iho h1).e σ H) fun x H1 _ => by
              rw [cls_sh]
              split
              · exact Sim.bind ((ihs h2).es σ H1) fun ds H2 _ => hF (.fn f) (x :: ds) H2
              · exact trivial
            t := fun σ H => Sim.bind ((iho h1).e σ H) fun x H1 _ => by
              rw [cls_sh]
              split
              · exact Sim.bind ((ihs h2).es σ H1) fun ds H2 _ => Sim.bind (hF (.fn f) (x :: ds) H2) fun d H3 _ => Sim.lift (osim_id (tru_sh P H3 d))
              · exact trivial }
  | mkx c fs ks es ih =>
    refine fun h => { e := fun σ H => ?_ }
    refine Sim.bind (hF (.xc 1) [] H) fun _ H0 _ => ?_
    refine Sim.bind ((ih h).es σ H) fun ds H1 _ => ?_
    rw [List.length_map]
    split
    · refine Sim.liftH (osim_some ?_)
      have e : ks.zip (ds.map (D.sh P.length)) = shF P.length (ks.zip ds) := by rw [zip_sh]
      rw [e, byName_sh, shL_len]
      cases byName fs (ks.zip ds) with
      | none => rfl
      | some r =>
        simp only [Option.map_some, D.sh]
        rw [← shL_push]
        simp [AO.sh, shF]
    · exact trivial
  | isx i ts a ih =>
    exact fun h => { e := fun σ H => Sim.bind ((ih h).e σ H) fun x H1 _ => Sim.lift (osim_some (by rw [xcd_sh]; cases xcD H1 x <;> rfl))
                     t := fun σ H => Sim.bind ((ih h).e σ H) fun x H1 _ => Sim.lift (osim_id (by rw [xcd_sh])) }
  | mak c es ih => exact fun h => { e := fun σ H => Sim.bind ((ih h).es σ H) fun ds H1 _ => hF (.mk c) ds H1 }
  | bi b es ih => exact fun h => { e := fun σ H => Sim.bind ((ih h).es σ H) fun ds H1 _ => Sim.liftH (bi_sh P H1 b ds)
                                   t := fun σ H => Sim.bind ((ih h).es σ H) fun ds H1 _ => Sim.bind (Sim.liftH (bi_sh P H1 b ds)) fun d H2 _ => Sim.lift (osim_id (tru_sh P H2 d)) }
  | bm b o es iho ihs =>
    intro h
    have ⟨h1, h2⟩ := and_t h
    exact { e := fun σ H => Sim.bind ((iho h1).e σ H) fun x H1 _ => by
              rw [bmOk_sh]
              split
              · exact Sim.bind ((ihs h2).es σ H1) fun ds H2 _ => Sim.liftH (bm_sh P H2 b x ds)
              · exact trivial }
  | comp m own t k src test elt ih1 ih2 ih3 =>
    intro h
    have ⟨h12, h3⟩ := and_t h
    have ⟨h1, h2⟩ := and_t h12
    refine { e := fun σ H => ?_ }
    rw [e_comp, e_comp]
    refine Sim.bind ((ih1 h1).es σ H) fun ds H1 _ => ?_
    refine Sim.bind (f := shI P.length) (Sim.lift (osim_some (items_sh P H1 k ds))) fun p H2 _ => ?_
    refine Sim.bind (f := List.map (D.sh P.length)) ?_ fun ys H3 _ => Sim.liftH (osim_some (by rw [mkL_sh]; rfl))
    rw [wipe_sh]
    refine compGo_sh (fun σ H => ?_) (fun σ H => (ih3 h3).e σ H) p.1 p.2 _ p.1 [] H2
    split
    · exact rfl
    · exact (ih2 h2).t σ H
/-! ### statements -/
def shFl (n : Nat) : Fl → Fl
  | .rt d => .rt (d.sh n)
  | g => g
theorem SimS.ok' {f : Fl} {σ : Sl} {A : AH} {r : SR} (h : SimS P (.ok f σ A) r) : r = .ok (shFl P.length f) (shS P.length σ) (shL P A) := by
  have h : r = .ok _ _ _ := h
  rw [h]
  cases f <;> rfl
theorem SimS.mk {f f' : Fl} {σ : Sl} {A : AH} (h : f' = shFl P.length f) : SimS P (.ok f σ A) (.ok f' (shS P.length σ) (shL P A)) := by
  subst h
  show SR.ok _ _ _ = SR.ok _ _ _
  cases f <;> rfl
theorem whl_sh {c c' : Sl → AH → Rs Bool} {b b' : Sl → AH → SR} (h1 : ∀ σ H, Sim P id (c σ H) (c' (shS P.length σ) (shL P H))) (h2 : ∀ σ H, SimS P (b σ H) (b' (shS P.length σ) (shL P H))) :
    ∀ (n : Nat) (σ : Sl) (H : AH), SimS P (whlGo c b n σ H) (whlGo c' b' n (shS P.length σ) (shL P H))
  | 0, _, _ => trivial
  | n + 1, σ, H => by
    show SimS P (bindS σ (c σ H) _) (bindS (shS P.length σ) (c' (shS P.length σ) (shL P H)) _)
    refine SimS.bind (h1 σ H) fun z H1 _ => ?_
    cases z with
    | false => exact SimS.mk rfl
    | true =>
      simp only [id, if_true]
      have q := h2 σ H1
      cases e : b σ H1 with
      | no => exact trivial
      | ex cc fs σ2 H2 =>
        rw [e] at q
        have q : b' (shS P.length σ) (shL P H1) = .ex cc (shF P.length fs) (shS P.length σ2) (shL P H2) := q
        rw [q]; exact rfl
      | ok f σ2 H2 =>
        rw [e] at q
        rw [q.ok']
        cases f with
        | nx => exact whl_sh h1 h2 n σ2 H2
        | ct => exact whl_sh h1 h2 n σ2 H2
        | bk => exact SimS.mk rfl
        | rt d => exact SimS.mk rfl
theorem for_sh {t : TN} {b b' : Sl → AH → SR} (h2 : ∀ σ H, SimS P (b σ H) (b' (shS P.length σ) (shL P H))) (all : List D) (g : Option Nat) :
    ∀ (xs : List D) (σ : Sl) (H : AH), SimS P (forGo all g t b xs σ H) (forGo (all.map (D.sh P.length)) (g.map (P.length + ·)) t b' (xs.map (D.sh P.length)) (shS P.length σ) (shL P H))
  | [], σ, H => by
    rw [forGo_nil, List.map_nil, forGo_nil]
    by_cases hs : Still all g H
    · rw [if_pos hs, if_pos (still_sh P H hs)]; exact SimS.mk rfl
    · rw [if_neg hs]; exact trivial
  | x :: xs, σ, H => by
    rw [forGo_cons, List.map_cons, forGo_cons]
    by_cases hs : Still all g H
    · rw [if_pos hs, if_pos (still_sh P H hs), setT_sh]
      cases setT t x σ with
      | none => exact trivial
      | some σ1 =>
        simp only [Option.map_some]
        have q := h2 σ1 H
        cases e : b σ1 H with
        | no => exact trivial
        | ex cc fs σ2 H2 =>
          rw [e] at q
          have q : b' (shS P.length σ1) (shL P H) = .ex cc (shF P.length fs) (shS P.length σ2) (shL P H2) := q
          rw [q]; exact rfl
        | ok f σ2 H2 =>
          rw [e] at q
          rw [q.ok']
          cases f with
          | nx => exact for_sh h2 all g xs σ2 H2
          | ct => exact for_sh h2 all g xs σ2 H2
          | bk => exact SimS.mk rfl
          | rt d => exact SimS.mk rfl
    · rw [if_neg hs]; exact trivial
theorem evS_sh (hF : ∀ f ds A, Sim P (D.sh P.length) (F f ds A) (F' f (ds.map (D.sh P.length)) (shL P A))) (hG : G.all (fun d => d.low 0) = true) : ∀ x : S, x.pur = true → ∀ σ H, SimS P (evS F G x σ H) (evS F' G x (shS P.length σ) (shL P H)) := by
  have X := fun x h => evE_sh (P := P) hF hG x h
  intro x
  induction x with
  | raise c fs es =>
    intro h σ H
    refine SimS.bind (σ := σ) (hF (.xc 1) [] H) fun _ H0 _ => ?_
    refine SimS.bind ((X es h).es σ H) fun ds H1 _ => ?_
    rw [List.length_map]
    split
    · show SR.ex _ _ _ _ = SR.ex _ _ _ _
      rw [zip_sh]
      simp [shF]
    · exact trivial
  | tryr b n hs ih =>
    intro h σ H
    have q := ih h σ H
    show SimS P (match evS F G b σ H with
      | .ex c fs σ1 H1 => match clause n c hs with
        | some (some (i, h)) => match evHE c fs h with
          | some d => if i < σ1.length then .ok (.rt d) σ1 H1 else .no
          | none => .no
        | some none => .ex c fs σ1 H1
        | none => .no
      | r => r) (match evS F' G b (shS P.length σ) (shL P H) with
      | .ex c fs σ1 H1 => match clause n c hs with
        | some (some (i, h)) => match evHE c fs h with
          | some d => if i < σ1.length then .ok (.rt d) σ1 H1 else .no
          | none => .no
        | some none => .ex c fs σ1 H1
        | none => .no
      | r => r)
    cases e : evS F G b σ H with
    | no => exact trivial
    | ok f σ2 H2 =>
      rw [e] at q
      rw [q.ok']
      exact SimS.mk rfl
    | ex cc fs σ2 H2 =>
      rw [e] at q
      have q : evS F' G b (shS P.length σ) (shL P H) = .ex cc (shF P.length fs) (shS P.length σ2) (shL P H2) := q
      rw [q]
      simp only []
      cases clause n cc hs with
      | none => exact trivial
      | some o =>
        cases o with
        | none => exact rfl
        | some ih =>
          obtain ⟨i, hh⟩ := ih
          simp only [he_sh]
          cases evHE cc fs hh with
          | none => exact trivial
          | some d =>
            simp only [Option.map_some]
            have el : (shS P.length σ2).length = σ2.length := by simp [shS]
            rw [el]
            split
            · exact SimS.mk rfl
            · exact trivial
  | pass => exact fun _ σ H => SimS.mk rfl
  | seq a b iha ihb =>
    intro h σ H
    have ⟨h1, h2⟩ := and_t h
    have q := iha h1 σ H
    rw [x_seq, x_seq]
    cases e : evS F G a σ H with
    | no => exact trivial
    | ex cc fs σ2 H2 =>
      rw [e] at q
      have q : evS F' G a (shS P.length σ) (shL P H) = .ex cc (shF P.length fs) (shS P.length σ2) (shL P H2) := q
      rw [q]; exact rfl
    | ok f σ2 H2 =>
      rw [e] at q
      rw [q.ok']
      cases f with
      | nx => exact ihb h2 σ2 H2
      | _ => exact SimS.mk rfl
  | ex e => exact fun h σ H => SimS.bind ((X e h).e σ H) fun _ H1 _ => SimS.mk rfl
  | asg t e =>
    intro h σ H
    refine SimS.bind ((X e h).e σ H) fun d H1 _ => ?_
    have es : seeT (shL P H1) t (d.sh P.length) = (seeT H1 t d).sh P.length := by
      cases t <;> first | rfl | exact view_sh P H1 d
    rw [es, setT_sh]
    cases setT t (seeT H1 t d) σ with
    | none => exact trivial
    | some σ1 => exact SimS.mk rfl
  | seti o i e =>
    intro h σ H
    have ⟨h12, h3⟩ := and_t h
    have ⟨h1, h2⟩ := and_t h12
    refine SimS.bind ((X e h3).e σ H) fun d H1 _ => SimS.bind ((X o h1).e σ H1) fun x H2 _ => SimS.bind ((X i h2).e σ H2) fun y H3 _ => ?_
    rw [setI_sh]
    cases setI H3 x y d with
    | none => exact trivial
    | some A => exact SimS.mk rfl
  | seta o f e =>
    intro h σ H
    have ⟨h1, h2⟩ := and_t h
    refine SimS.bind ((X e h2).e σ H) fun d H1 _ => SimS.bind ((X o h1).e σ H1) fun x H2 _ => ?_
    rw [setAt_sh]
    cases setAt H2 f x d with
    | none => exact trivial
    | some A => exact SimS.mk rfl
  | ret e => exact fun h σ H => SimS.bind ((X e h).e σ H) fun _ H1 _ => SimS.mk rfl
  | ret0 => exact fun _ σ H => SimS.mk rfl
  | ite c a b iha ihb =>
    intro h σ H
    have ⟨h12, h3⟩ := and_t h
    have ⟨h1, h2⟩ := and_t h12
    refine SimS.bind ((X c h1).t σ H) fun z H1 _ => ?_
    cases z with
    | true => exact iha h2 σ H1
    | false => exact ihb h3 σ H1
  | whl c b ih =>
    intro h σ H
    have ⟨h1, h2⟩ := and_t h
    exact whl_sh (fun σ H => (X c h1).t σ H) (fun σ H => ih h2 σ H) lap σ H
  | fr t k src b ih =>
    intro h σ H
    have ⟨h1, h2⟩ := and_t h
    rw [x_fr, x_fr]
    refine SimS.bind ((X src h1).es σ H) fun ds H1 _ => ?_
    rw [items_sh]
    cases items H1 k ds with
    | none => exact trivial
    | some p => exact for_sh (fun σ H => ih h2 σ H) p.1 p.2 p.1 σ H1
  | brk => exact fun _ σ H => SimS.mk rfl
  | cnt => exact fun _ σ H => SimS.mk rfl
  | bad => exact fun _ σ H => trivial
end
theorem call_sh {Q : Pg} (hQ : Q.pur = true) (P : AH) : ∀ (k j : Nat) (f : Fid) (ds : List D) (A : AH), Sim P (D.sh P.length) (callF Q k f ds A) (callF Q (k + j) f (ds.map (D.sh P.length)) (shL P A))
  | 0, _, _, _, _ => trivial
  | k + 1, j, .fn i, ds, A => by
    have ⟨q1, q2⟩ := and_t hQ
    rw [show k + 1 + j = k + j + 1 by omega]
    cases hi : Q.fns[i]? with
    | none =>
      have : callF Q (k + 1) (.fn i) ds A = .no := by
        show (match Q.fns[i]? with
          | some fi => _
          | none => _) = _
        rw [hi]
      rw [this]; exact trivial
    | some fi =>
      by_cases hl : ds.length = fi.np
      · rw [call_fn hi hl, call_fn hi (by rw [List.length_map]; exact hl)]
        have hp : fi.body.pur = true := List.all_eq_true.mp q1 fi (List.mem_of_getElem? hi)
        have := evS_sh (P := P) (F := callF Q k) (F' := callF Q (k + j)) (G := Q.glob) (fun f ds A => call_sh hQ P k j f ds A) q2 fi.body hp (Ev.start fi ds) A
        have es : shS P.length (Ev.start fi ds) = Ev.start fi (ds.map (D.sh P.length)) := by
          unfold Ev.start shS
          simp [List.map_append, List.map_replicate]
        rw [es] at this
        cases e : evS (callF Q k) Q.glob fi.body (Ev.start fi ds) A with
        | no => exact trivial
        | ex c fs σ2 H2 =>
          rw [e] at this
          have this : evS (callF Q (k + j)) Q.glob fi.body (Ev.start fi (ds.map (D.sh P.length))) (shL P A) = .ex c (shF P.length fs) (shS P.length σ2) (shL P H2) := this
          rw [this]; exact rfl
        | ok f σ2 H2 =>
          rw [e] at this
          rw [this.ok']
          cases f with
          | nx => exact retract_sh P A fi.fz H2 .non
          | rt d => exact retract_sh P A fi.fz H2 d
          | bk => exact trivial
          | ct => exact trivial
      · have : callF Q (k + 1) (.fn i) ds A = .no := by
          show (match Q.fns[i]? with
            | some fi => if ds.length = fi.np then _ else _
            | none => _) = _
          rw [hi]
          simp only
          rw [if_neg hl]
        rw [this]; exact trivial
  | k + 1, j, .mk c, ds, A => by
    rw [show k + 1 + j = k + j + 1 by omega]
    show Sim P _ (match Q.mks[c]? with
      | some f => match callF Q k (.fn f) (.ref A.length :: ds) (A ++ [.ins c []]) with
        | .ok .non H' => .ok (D.ref A.length) H'
        | .ex c fs H' => .ex c fs H'
        | _ => .no
      | none => .no) (match Q.mks[c]? with
      | some f => match callF Q (k + j) (.fn f) (.ref (shL P A).length :: ds.map (D.sh P.length)) (shL P A ++ [.ins c []]) with
        | .ok .non H' => .ok (D.ref (shL P A).length) H'
        | .ex c fs H' => .ex c fs H'
        | _ => .no
      | none => .no)
    cases Q.mks[c]? with
    | none => exact trivial
    | some f =>
      simp only
      have q := call_sh hQ P k j (.fn f) (.ref A.length :: ds) (A ++ [.ins c []])
      rw [← shL_push] at q
      rw [shL_len]
      have q : Sim P (D.sh P.length) (callF Q k (.fn f) (.ref A.length :: ds) (A ++ [.ins c []])) (callF Q (k + j) (.fn f) (.ref (P.length + A.length) :: ds.map (D.sh P.length)) (shL P A ++ [.ins c []])) := q
      cases e : callF Q k (.fn f) (.ref A.length :: ds) (A ++ [.ins c []]) with
      | no => exact trivial
      | ex c fs H2 =>
        rw [e] at q
        have q : callF Q (k + j) (.fn f) (.ref (P.length + A.length) :: ds.map (D.sh P.length)) (shL P A ++ [.ins _ []]) = .ex c (shF P.length fs) (shL P H2) := q
        rw [q]; exact rfl
      | ok d H2 =>
        rw [e] at q
        have q : callF Q (k + j) (.fn f) (.ref (P.length + A.length) :: ds.map (D.sh P.length)) (shL P A ++ [.ins _ []]) = .ok (d.sh P.length) (shL P H2) := q
        rw [q]
        cases d <;> first | exact trivial | exact rfl
  | k + 1, j, .xc 0, ds, A => by
    rw [show k + 1 + j = k + j + 1 by omega]
    exact rfl
  | k + 1, j, .xc (i + 1), ds, A => by
    rw [show k + 1 + j = k + j + 1 by omega]
    exact call_sh hQ P k j (.xc i) ds A
theorem shL_nil (P : AH) : shL P [] = P := by simp [shL]
theorem maps_low (n : Nat) (ds : List D) (h : D.lows 0 ds = true) : ds.map (D.sh n) = ds := by rw [← shs_map, shs_low n ds h]
/-- a closed run, at any heap, with any more fuel -/
theorem frame {Q : Pg} (hQ : Q.pur = true) {k : Nat} {f : Fid} {ds : List D} {d : D} (h : callF Q k f ds [] = .ok d []) (h1 : D.lows 0 ds = true) (h2 : d.low 0 = true) {m : Nat} (hm : k ≤ m) (H : AH) : callF Q m f ds H = .ok d H := by
  have := call_sh hQ H k (m - k) f ds []
  rw [h, maps_low _ _ h1, shL_nil, show k + (m - k) = m by omega] at this
  have this : callF Q m f ds H = .ok (d.sh H.length) (shL H []) := this
  rw [this, sh_low _ d h2, shL_nil]
theorem sh_zero_map : (∀ d : D, d.sh 0 = d) ∧ ∀ ds : List D, D.shs 0 ds = ds := by
  constructor
  · intro d
    exact D.rec (motive_1 := fun d => d.sh 0 = d) (motive_2 := fun ds => D.shs 0 ds = ds) rfl (fun _ => rfl) (fun _ => rfl) (fun _ => rfl) (fun xs h => by rw [D.sh, h]) (fun xs h => by rw [D.sh, h]) (fun i => by rw [D.sh, Nat.zero_add]) (fun _ => rfl) rfl (fun x xs h1 h2 => by rw [D.shs, h1, h2]) d
  · intro ds
    exact D.rec_1 (motive_1 := fun d => d.sh 0 = d) (motive_2 := fun ds => D.shs 0 ds = ds) rfl (fun _ => rfl) (fun _ => rfl) (fun _ => rfl) (fun xs h => by rw [D.sh, h]) (fun xs h => by rw [D.sh, h]) (fun i => by rw [D.sh, Nat.zero_add]) (fun _ => rfl) rfl (fun x xs h1 h2 => by rw [D.shs, h1, h2]) ds
theorem shL_zero (A : AH) : shL [] A = A := by
  have h0 := sh_zero_map.1
  have hm : D.sh 0 = id := funext h0
  have : AO.sh 0 = id := by
    funext o
    cases o with
    | lst xs => simp [AO.sh, hm]
    | dic kvs => simp [AO.sh, shK, h0]
    | ins c fs => simp [AO.sh, shF, h0]
    | exo c fs => simp [AO.sh, shF, h0]
  show [] ++ A.map (AO.sh 0) = A
  rw [this]; simp
/-- more fuel -/
theorem more {Q : Pg} (hQ : Q.pur = true) {k : Nat} {f : Fid} {ds : List D} {d : D} {A B : AH} (h : callF Q k f ds A = .ok d B) {m : Nat} (hm : k ≤ m) : callF Q m f ds A = .ok d B := by
  have := call_sh hQ [] k (m - k) f ds A
  rw [h, show k + (m - k) = m by omega, shL_zero] at this
  have this : callF Q m f (ds.map (D.sh 0)) A = .ok (d.sh 0) (shL [] B) := this
  rw [sh_zero_map.1, shL_zero] at this
  have e : ds.map (D.sh 0) = ds := by rw [← shs_map, sh_zero_map.2]
  rw [e] at this
  exact this
theorem moreX {Q : Pg} (hQ : Q.pur = true) {k : Nat} {f : Fid} {ds : List D} {c : Nat} {fs : List (Nat × D)} {A B : AH} (h : callF Q k f ds A = .ex c fs B) {m : Nat} (hm : k ≤ m) : callF Q m f ds A = .ex c fs B := by
  have := call_sh hQ [] k (m - k) f ds A
  rw [h, show k + (m - k) = m by omega, shL_zero] at this
  have this : callF Q m f (ds.map (D.sh 0)) A = .ex c (shF 0 fs) (shL [] B) := this
  have e : ds.map (D.sh 0) = ds := by rw [← shs_map, sh_zero_map.2]
  have e2 : shF 0 fs = fs := by simp [shF, sh_zero_map.1]
  rw [e, e2, shL_zero] at this
  exact this
end Ev
end

section
set_option Elab.async false
set_option linter.all false
set_option maxRecDepth 100000
/-! Walking a text by the evaluator's equations. -/
namespace Ev
open PySem Lean
theorem x_asgT (F : CF) (G : List D) (σ : Sl) (H : AH) (t : TN) (e : E) : evS F G (.asg (.tp t) e) σ H = bindS σ (evE F G e σ H) fun d H1 => match setT (.tp t) (view H1 d) σ with
    | some σ1 => .ok .nx σ1 H1
    | none => .no := rfl
theorem sT_nm (i : Nat) (d : D) (σ : Sl) : setT (.nm i) d σ = some (σ.set i (some d)) := rfl
theorem sT_tup (t : TN) (xs : List D) (σ : Sl) : setT (.tp t) (.tup xs) σ = setTs t xs σ := rfl
theorem sT_lst (t : TN) (xs : List D) (σ : Sl) : setT (.tp t) (.lst xs) σ = setTs t xs σ := rfl
theorem sTs_nil (σ : Sl) : setTs .nil [] σ = some σ := rfl
theorem sTs_nm (i : Nat) (u : TN) (x : D) (xs : List D) (σ : Sl) : setTs (.cons (.nm i) u) (x :: xs) σ = setTs u xs (σ.set i (some x)) := rfl
theorem sTs_cons (t u : TN) (x : D) (xs : List D) (σ : Sl) : setTs (.cons t u) (x :: xs) σ = match setT t x σ with
    | some σ' => setTs u xs σ'
    | none => none := rfl
theorem y_int_non (H : AH)  : isTy H .int .non = false := rfl
theorem y_int_bl (H : AH) (b : Bool) : isTy H .int (.bl b) = true := rfl
theorem y_int_int (H : AH) (b : Int) : isTy H .int (.int b) = true := rfl
theorem y_int_str (H : AH) (b : Tx) : isTy H .int (.str b) = false := rfl
theorem y_int_tup (H : AH) (b : List D) : isTy H .int (.tup b) = false := rfl
theorem y_int_lst (H : AH) (b : List D) : isTy H .int (.lst b) = false := rfl
theorem y_int_scr (H : AH) (b : List Int) : isTy H .int (.scr b) = false := rfl
theorem y_str_non (H : AH)  : isTy H .str .non = false := rfl
theorem y_str_bl (H : AH) (b : Bool) : isTy H .str (.bl b) = false := rfl
theorem y_str_int (H : AH) (b : Int) : isTy H .str (.int b) = false := rfl
theorem y_str_str (H : AH) (b : Tx) : isTy H .str (.str b) = true := rfl
theorem y_str_tup (H : AH) (b : List D) : isTy H .str (.tup b) = false := rfl
theorem y_str_lst (H : AH) (b : List D) : isTy H .str (.lst b) = false := rfl
theorem y_str_scr (H : AH) (b : List Int) : isTy H .str (.scr b) = false := rfl
theorem y_bool_non (H : AH)  : isTy H .bool .non = false := rfl
theorem y_bool_bl (H : AH) (b : Bool) : isTy H .bool (.bl b) = true := rfl
theorem y_bool_int (H : AH) (b : Int) : isTy H .bool (.int b) = false := rfl
theorem y_bool_str (H : AH) (b : Tx) : isTy H .bool (.str b) = false := rfl
theorem y_bool_tup (H : AH) (b : List D) : isTy H .bool (.tup b) = false := rfl
theorem y_bool_lst (H : AH) (b : List D) : isTy H .bool (.lst b) = false := rfl
theorem y_bool_scr (H : AH) (b : List Int) : isTy H .bool (.scr b) = false := rfl
theorem y_tuple_non (H : AH)  : isTy H .tuple .non = false := rfl
theorem y_tuple_bl (H : AH) (b : Bool) : isTy H .tuple (.bl b) = false := rfl
theorem y_tuple_int (H : AH) (b : Int) : isTy H .tuple (.int b) = false := rfl
theorem y_tuple_str (H : AH) (b : Tx) : isTy H .tuple (.str b) = false := rfl
theorem y_tuple_tup (H : AH) (b : List D) : isTy H .tuple (.tup b) = true := rfl
theorem y_tuple_lst (H : AH) (b : List D) : isTy H .tuple (.lst b) = false := rfl
theorem y_tuple_scr (H : AH) (b : List Int) : isTy H .tuple (.scr b) = false := rfl
theorem y_list_non (H : AH)  : isTy H .list .non = false := rfl
theorem y_list_bl (H : AH) (b : Bool) : isTy H .list (.bl b) = false := rfl
theorem y_list_int (H : AH) (b : Int) : isTy H .list (.int b) = false := rfl
theorem y_list_str (H : AH) (b : Tx) : isTy H .list (.str b) = false := rfl
theorem y_list_tup (H : AH) (b : List D) : isTy H .list (.tup b) = false := rfl
theorem y_list_lst (H : AH) (b : List D) : isTy H .list (.lst b) = true := rfl
theorem y_list_scr (H : AH) (b : List Int) : isTy H .list (.scr b) = true := rfl
/-! ### the end of a call -/
theorem ret_len {fz : Bool} {H H' : AH} {d : D} (h : H'.length = H.length) : retract fz H H' d = .ok d H' := by
  unfold retract
  split
  · have hn : newL H.length H' d = none := by
      unfold newL
      split
      · split
        · rename_i hj
          rw [List.getElem?_eq_none (by omega)]
        · rfl
      · rfl
    rw [hn, ← h, take_self]
    simp only
    split <;> rfl
  · rfl
theorem fin_len {fz : Bool} {H H' : AH} {d : D} {σ : Sl} (h : H'.length = H.length) : fin fz H (.ok (.rt d) σ H') = .ok d H' := ret_len h
theorem fin_lenN {fz : Bool} {H H' : AH} {σ : Sl} (h : H'.length = H.length) : fin fz H (.ok .nx σ H') = .ok .non H' := ret_len (fz := fz) h
/-- nothing below is changed -/
theorem back_app (H K : AH) : Back H (H ++ K) := ⟨by simp, fun i hi => .inl (by rw [List.getElem?_append_left hi])⟩
theorem ret_app {fz : Bool} {H K : AH} {d : D} (h : d.low H.length = true) : retract fz H (H ++ K) d = .ok d H := by
  unfold retract
  rw [if_pos (back_app H K)]
  have hn : newL H.length (H ++ K) d = none := by
    unfold newL
    split
    · rename_i j
      rw [D.low] at h
      rw [if_neg (by have := of_decide_eq_true h; omega)]
    · rfl
  rw [hn]
  simp only
  rw [if_pos h, List.take_left']
  rfl
theorem ret_new {H K : AH} {j : Nat} {xs : List D} (hj : H.length ≤ j) (h : (H ++ K)[j]? = some (.lst xs)) (hl : D.lows H.length xs = true) : retract true H (H ++ K) (.ref j) = .ok (.lst xs) H := by
  unfold retract
  rw [if_pos (back_app H K)]
  have hn : newL H.length (H ++ K) (.ref j) = some xs := by
    show (if H.length ≤ j then match (H ++ K)[j]? with
        | some (AO.lst xs) => if D.lows (List.length H) xs = true then some xs else none
        | x => none
      else none) = some xs
    rw [if_pos hj, h]
    simp only
    rw [if_pos hl]
  rw [hn]
  simp only [if_true]
  rw [List.take_left']
  rfl
mutual
theorem low_mono {n m : Nat} (hm : n ≤ m) : ∀ d : D, d.low n = true → d.low m = true
  | .non, _ => rfl
  | .bl _, _ => rfl
  | .int _, _ => rfl
  | .str _, _ => rfl
  | .scr _, _ => rfl
  | .ref i, h => by rw [D.low] at h ⊢; exact decide_eq_true (Nat.lt_of_lt_of_le (of_decide_eq_true h) hm)
  | .tup xs, h => by rw [D.low] at h ⊢; exact lows_mono hm xs h
  | .lst xs, h => by rw [D.low] at h ⊢; exact lows_mono hm xs h
theorem lows_mono {n m : Nat} (hm : n ≤ m) : ∀ ds : List D, D.lows n ds = true → D.lows m ds = true
  | [], _ => rfl
  | x :: xs, h => by
    rw [D.lows] at h ⊢
    have ⟨h1, h2⟩ := and_t h
    rw [low_mono hm x h1, lows_mono hm xs h2]; rfl
end
theorem lows_ints (n : Nat) (l : List Int) : D.lows n (l.map D.int) = true := by
  induction l with
  | nil => rfl
  | cons a l ih => rw [List.map_cons, D.lows, ih]; rfl
end Ev
end

section
set_option Elab.async false
set_option linter.all false
set_option maxRecDepth 100000
/-! Loops with what stands in them; small facts. -/
namespace Ev
open PySem
theorem mulOk_of {i j : Int} (hi : i.natAbs < 2 ^ 40000000) (hj : j.natAbs < 2 ^ 40000000) : mulOk i j := by
  unfold mulOk
  have h : ∀ n : Nat, n < 2 ^ 40000000 → n.log2 < 40000001 := by
    intro n hn
    by_cases h0 : n = 0
    · subst h0; decide
    · have := (Nat.log2_lt h0 (k := 40000000)).mpr hn
      omega
  have h1 := h _ hi
  have h2 := h _ hj
  omega
theorem big_of {i : Int} {n : Nat} (h : i.natAbs < 2 ^ n) (hn : n ≤ 40000000) : i.natAbs < 2 ^ 40000000 := Nat.lt_of_lt_of_le h (Nat.pow_le_pow_right (by omega) hn)
theorem mulOk_s {i j : Int} (hi : i.natAbs < 2 ^ 64) (hj : j.natAbs < 2 ^ 64) : mulOk i j := mulOk_of (big_of hi (by omega)) (big_of hj (by omega))
theorem mulOk_b {i j : Int} (hi : Builtin.Int.intBits i ≤ 1048576) (hj : j.natAbs < 2 ^ 64) : mulOk i j := by
  refine mulOk_of (big_of (n := 1048577) ?_ (by omega)) (big_of hj (by omega))
  unfold Builtin.Int.intBits at hi
  by_cases h0 : i = 0
  · subst h0; exact Nat.two_pow_pos _
  · rw [if_neg (by simpa using h0)] at hi
    exact (Nat.log2_lt (by omega)).mp (by omega)
theorem for_inv {α : Type} {all : List D} {t : TN} {b : Sl → AH → SR} (inj : α → D) (Inv : List α → Sl → AH → Prop) (Q : Sl → AH → Prop) (hq : ∀ σ H, Inv [] σ H → Q σ H)
    (step : ∀ x r σ H, Inv (x :: r) σ H → ∃ σ1, setT t (inj x) σ = some σ1 ∧ ∃ σ2 H2, ((b σ1 H = .ok .nx σ2 H2 ∨ b σ1 H = .ok .ct σ2 H2) ∧ Inv r σ2 H2) ∨ (b σ1 H = .ok .bk σ2 H2 ∧ Q σ2 H2)) :
    ∀ (l : List α) (σ : Sl) (H : AH), Inv l σ H → ∃ σ' H', forGo all none t b (l.map inj) σ H = .ok .nx σ' H' ∧ Q σ' H'
  | [], σ, H, h => ⟨σ, H, for_nil, hq σ H h⟩
  | x :: l, σ, H, h => by
    obtain ⟨σ1, h1, σ2, H2, h2⟩ := step x l σ H h
    rw [List.map_cons, for_one h1]
    rcases h2 with ⟨h2 | h2, h3⟩ | ⟨h2, h3⟩
    · rw [h2]; exact for_inv inj Inv Q hq step l σ2 H2 h3
    · rw [h2]; exact for_inv inj Inv Q hq step l σ2 H2 h3
    · rw [h2]; exact ⟨σ2, H2, rfl, h3⟩
theorem cutL_mem {α : Type} {xs : List α} {lo hi : Option Int} {x : α} (h : x ∈ cutL xs lo hi) : x ∈ xs := List.mem_of_mem_drop (List.mem_of_mem_take h)
theorem cutL_len {α : Type} {xs : List α} {lo hi : Option Int} : (cutL xs lo hi).length ≤ xs.length := by
  unfold cutL
  rw [List.length_take, List.length_drop]; omega
theorem bm_append {H : AH} {i : Nat} {xs : List D} {d : D} (h : H[i]? = some (.lst xs)) (hl : xs.length < sizeLine) : evBm H .append (.ref i) [d] = some (.non, H.set i (.lst (xs ++ [d]))) := by
  show (match H[i]? with
    | some (.lst xs) => if xs.length < sizeLine then some (D.non, H.set i (.lst (xs ++ [d]))) else none
    | _ => none) = _
  rw [h]
  simp only
  rw [if_pos hl]
theorem bmOk_append {H : AH} {i : Nat} {xs : List D} (h : H[i]? = some (.lst xs)) : bmOk H .append (.ref i) = true := by
  show (match H[i]? with
    | some (.lst _) => true
    | _ => false) = true
  rw [h]
theorem get_last {α : Type} (H : List α) (o : α) : (H ++ [o])[H.length]? = some o := by simp
theorem set_last {α : Type} (H : List α) (o u : α) : (H ++ [o]).set H.length u = H ++ [u] := by simp
theorem view_at {H : AH} {i : Nat} {xs : List D} (h : H[i]? = some (.lst xs)) : view H (.ref i) = .lst xs := by rw [v_ref, h]
theorem view_dic {H : AH} {i : Nat} {xs : List (DK × D)} (h : H[i]? = some (.dic xs)) : view H (.ref i) = .ref i := by rw [v_ref, h]
theorem len_at {H : AH} {i : Nat} {xs : List D} (h : H[i]? = some (.lst xs)) : evBi H .len [.ref i] = some (.int xs.length, H) := by
  rw [n_len, view_at h]
theorem idx_at {H : AH} {i : Nat} {xs : List D} {j : Int} (h : H[i]? = some (.lst xs)) : idxD H (.ref i) (.int j) = place xs j := by
  unfold idxD
  rw [view_at h]
theorem setI_at {H : AH} {i : Nat} {xs : List D} {d : D} {j : Int} (h : H[i]? = some (.lst xs)) (h0 : 0 ≤ j) (h1 : j < xs.length) : setI H (.ref i) (.int j) d = some (H.set i (.lst (xs.set j.toNat d))) := by
  simp only [setI, h]
  rw [if_pos ⟨h0, h1⟩]
theorem place_nat {α : Type} {xs : List α} {n : Nat} {x : α} (h : xs[n]? = some x) : place xs (n : Int) = some x := by
  unfold place
  rw [if_pos (by omega), Int.toNat_natCast]; exact h
theorem place_of {α : Type} {xs : List α} {j : Int} {x : α} (h0 : 0 ≤ j) (h : xs[j.toNat]? = some x) : place xs j = some x := by
  unfold place
  rw [if_pos h0]; exact h
/-- within one list of one number -/
theorem bind_of {α β : Type} {r : Rs α} {a : α} {A : AH} {f : α → AH → Rs β} (h : r = .ok a A) : bindR r f = f a A := by rw [h]; rfl
theorem bindS_of {α : Type} {r : Rs α} {a : α} {A : AH} {σ : Sl} {f : α → AH → SR} (h : r = .ok a A) : bindS σ r f = f a A := by rw [h]; rfl
theorem seq_of {F : CF} {G : List D} {a b : S} {σ σ1 : Sl} {H H1 : AH} (h : evS F G a σ H = .ok .nx σ1 H1) : evS F G (.seq a b) σ H = evS F G b σ1 H1 := by rw [x_seq, h]
theorem add_S {x y : Tx} (h : x.length + y.length ≤ 16777216) : opD .add (.str x) (.str y) = some (.str (x ++ y)) := by rw [o_addS, if_pos (by rw [sizeLine_eq]; exact h)]
theorem slc_S {m : Bool} {H : AH} {s : Tx} {lo hi : Option Int} (h : s.length ≤ 16777216) : slcD m H (.str s) lo hi = some (.str (cutL s lo hi), H) := by rw [l_str, if_pos (by rw [sizeLine_eq]; exact h)]
theorem len_S {H : AH} {s : Tx} (h : s.length ≤ 16777216) : evBi H .len [.str s] = some (.int s.length, H) := by rw [n_lenS, if_pos (by rw [sizeLine_eq]; exact h)]
theorem idx_S {H : AH} {s : Tx} {j : Int} (h : s.length ≤ 16777216) : idxD H (.str s) (.int j) = (place s j).map fun c => .str [c] := by rw [x_str, if_pos (by rw [sizeLine_eq]; exact h)]
theorem dbl_S {c : Nat} {H : AH} {s : Tx} (h : s.length ≤ 5000000) : evBm H (.dbl c) (.str s) [] = some (.str (dblT c s), H) := by rw [m_dbl, if_pos (by omega)]
section
variable (F : CF) (G : List D) (σ : Sl) (H : AH)
theorem x_raise (c : Nat) (fs : List Nat) (es : E) : evS F G (.raise c fs es) σ H = bindS σ (F (.xc 1) [] H) fun _ _ => bindS σ (evEs F G es σ H) fun ds H1 => if ds.length = fs.length then .ex c (fs.zip ds).reverse σ H1 else .no := rfl
theorem x_tryr (b : S) (n : Nat) (hs : List (Nat × Nat × HE)) : evS F G (.tryr b n hs) σ H = match evS F G b σ H with
    | .ex c fs σ1 H1 => match clause n c hs with
      | some (some (i, h)) => match evHE c fs h with
        | some d => if i < σ1.length then .ok (.rt d) σ1 H1 else .no
        | none => .no
      | some none => .ex c fs σ1 H1
      | none => .no
    | r => r := rfl
theorem b_ex {α β : Type} (c : Nat) (fs : List (Nat × D)) (f : α → AH → Rs β) : bindR (.ex c fs H) f = .ex c fs H := rfl
theorem bs_ex {α : Type} (c : Nat) (fs : List (Nat × D)) (f : α → AH → SR) : bindS σ (.ex c fs H) f = .ex c fs σ H := rfl
theorem fin_ex (fz : Bool) (c : Nat) (fs : List (Nat × D)) (A : AH) : fin fz H (.ex c fs σ A) = .ex c fs A := rfl
theorem xc_ok {P : Pg} {k : Nat} (h : 2 ≤ k) : callF P k (.xc 1) [] H = .ok .non H := by
  obtain ⟨j, rfl⟩ : ∃ j, k = j + 2 := ⟨k - 2, by omega⟩
  rfl
end
end Ev
end

section
set_option Elab.async false
set_option linter.all false
set_option maxRecDepth 100000
/-! The law's text in the evaluator's syntax (printed by gen.py). -/
namespace K00
open Ev PySem PySem.Spec PyProof.Rows L2
def b_law_so_l1 : S := (.seq (.ite (.not (.call 0 (.cons (.idx (.var 0) (.var 2)) (.cons (.idx (.var 1) (.var 2)) .nil)))) (.seq (.ret (.con (.bl false))) .pass) .pass) .pass)
/-- 0: _law_so, found meant k -/
def b_law_so : S := (.seq (.ite (.isn false (.var 1)) (.seq (.ret (.isn false (.var 0))) .pass) .pass) (.seq (.ite (.bi (.isi [.tuple]) (.cons (.var 1) .nil)) (.seq (.ite (.or (.cons (.not (.bi (.isi [.tuple]) (.cons (.var 0) .nil))) (.cons (.cmp .ne (.bi .len (.cons (.var 0) .nil)) (.bi .len (.cons (.var 1) .nil))) .nil))) (.seq (.ret (.con (.bl false))) .pass) .pass) (.seq (.fr (.nm 2) .rng (.cons (.bi .len (.cons (.var 1) .nil)) .nil) b_law_so_l1) (.seq (.ret (.con (.bl true))) .pass))) .pass) (.seq (.ite (.or (.cons (.bi (.isi [.bool]) (.cons (.var 1) .nil)) (.cons (.bi (.isi [.bool]) (.cons (.var 0) .nil)) .nil))) (.seq (.ret (.and (.cons (.bi (.isi [.bool]) (.cons (.var 1) .nil)) (.cons (.bi (.isi [.bool]) (.cons (.var 0) .nil)) (.cons (.cmp .eq (.var 0) (.var 1)) .nil))))) .pass) .pass) (.seq (.ite (.bi (.isi [.int]) (.cons (.var 1) .nil)) (.seq (.ret (.and (.cons (.bi (.isi [.int]) (.cons (.var 0) .nil)) (.cons (.cmp .eq (.var 0) (.var 1)) .nil)))) .pass) .pass) (.seq (.ret (.and (.cons (.bi (.isi [.str]) (.cons (.var 1) .nil)) (.cons (.bi (.isi [.str]) (.cons (.var 0) .nil)) (.cons (.cmp .eq (.var 0) (.var 1)) .nil))))) .pass)))))
def b_law_numbers_l1 : S := (.seq (.ite (.cmp .eq (.var 3) (.con (.int 0))) (.seq .brk .pass) .pass) (.seq (.ex (.bm .append (.var 1) (.cons (.bin .mod (.bi .toInt (.cons (.var 3) .nil)) (.con (.int 997))) .nil))) (.seq (.asg (.nm 3) (.bin .fdiv (.var 3) (.con (.int 997)))) .pass)))
def b_law_numbers_l2 : S := (.seq (.asg (.nm 5) (.bin .mod (.bi .toInt (.cons (.bin .add (.bin .add (.bin .mul (.var 2) (.con (.int 48271))) (.bin .mul (.var 4) (.con (.int 69621)))) (.con (.int 11))) .nil)) (.con (.int 2147483647)))) (.seq (.ex (.bm .append (.var 1) (.cons (.bin .mod (.bi .toInt (.cons (.bin .add (.bin .mul (.var 5) (.con (.int 16807))) (.var 4)) .nil)) (.con (.int 2147483629))) .nil))) .pass))
def b_law_numbers_l3 : S := (.seq (.ite (.cmp .ge (.var 2) (.bin .pow (.con (.int 10)) (.con (.int 18)))) (.seq (.asg (.nm 3) (.var 2)) (.seq (.fr (.nm 4) .rng (.cons (.con (.int 60)) .nil) b_law_numbers_l1) .pass)) (.seq (.fr (.nm 4) .rng (.cons (.con (.int 4)) .nil) b_law_numbers_l2) .pass)) .pass)
/-- 1: _law_numbers, script row cell left k mixed -/
def b_law_numbers : S := (.seq (.asg (.nm 1) (.lst true .nil)) (.seq (.fr (.nm 2) .val (.cons (.slc false (.var 0) .nil (.cons (.con (.int 63)) .nil)) .nil) b_law_numbers_l3) (.seq (.ite (.cmp .eq (.bi .len (.cons (.var 1) .nil)) (.con (.int 0))) (.seq (.ex (.bm .append (.var 1) (.cons (.con (.int 0)) .nil))) .pass) .pass) (.seq (.ret (.var 1)) .pass))))
/-- 2: _law_draw, row at limit mixed -/
def b_law_draw : S := (.seq (.ite (.cmp .lt (.var 1) (.bi .len (.cons (.var 0) .nil))) (.seq (.ret (.bin .mod (.bi .toInt (.cons (.idx (.var 0) (.var 1)) .nil)) (.var 2))) .pass) .pass) (.seq (.asg (.nm 3) (.bin .mod (.bi .toInt (.cons (.bin .add (.bin .add (.bin .mul (.idx (.var 0) (.bin .mod (.bi .toInt (.cons (.var 1) .nil)) (.bi .len (.cons (.var 0) .nil)))) (.con (.int 40692))) (.bin .mul (.var 1) (.con (.int 7919)))) (.con (.int 3))) .nil)) (.con (.int 2147483399)))) (.seq (.ret (.bin .mod (.bi .toInt (.cons (.bin .mod (.bi .toInt (.cons (.bin .add (.bin .mul (.var 3) (.con (.int 48271))) (.var 1)) .nil)) (.con (.int 2147483647))) .nil)) (.var 2))) .pass)))
/-- 3: _law_take, row spot limit -/
def b_law_take : S := (.seq (.seti (.var 1) (.con (.int 0)) (.bin .add (.idx (.var 1) (.con (.int 0))) (.con (.int 1)))) (.seq (.ret (.call 2 (.cons (.var 0) (.cons (.bin .sub (.idx (.var 1) (.con (.int 0))) (.con (.int 1))) (.cons (.var 2) .nil))))) .pass))
/-- 4: _law_of, value made -/
def b_law_of : S := (.seq (.asg (.nm 1) (.lst false (.cons (.isx 3 [0] (.var 0)) (.cons (.isx 2 [1] (.var 0)) (.cons (.isx 1 [2] (.var 0)) (.cons (.isx 0 [3] (.var 0)) .nil)))))) (.seq (.ret (.cat false (.var 1) (.lst false (.cons (.isx 6 [4] (.var 0)) (.cons (.isx 5 [5] (.var 0)) (.cons (.isx 4 [6] (.var 0)) .nil)))))) .pass))
/-- 5: _law_foreign, value -/
def b_law_foreign : S := (.seq (.ite (.or (.cons (.isx 8 [] (.var 0)) (.cons (.isx 7 [] (.var 0)) .nil))) (.seq (.ret (.con (.bl true))) .pass) .pass) (.seq (.ret (.or (.cons (.isx 10 [] (.var 0)) (.cons (.not (.isx 9 [0, 1, 2, 3, 4, 5, 6] (.var 0))) .nil)))) .pass))
/-- 6: _law_caught, name wrong -/
def b_law_caught : S := (.seq (.tryr (.seq (.ite (.cmp .eq (.var 0) (.con (.str []))) (.seq (.raise 4 [2] (.cons (.con (.str [120])) .nil)) .pass) .pass) (.seq (.raise 3 [1] (.cons (.var 0) .nil)) .pass)) 7 [(7, 1, (.isx 0 [3]))]) .pass)
def b_law_s1 : S := (.asg (.nm 1) (.call 1 (.cons (.var 0) .nil)))
def b_law_s2 : S := (.asg (.nm 2) (.lst true (.cons (.con (.int 0)) .nil)))
def b_law_s3 : S := (.asg (.nm 3) (.bin .sub (.call 3 (.cons (.var 1) (.cons (.var 2) (.cons (.con (.int 997)) .nil)))) (.con (.int 9))))
def b_law_s4 : S := (.asg (.nm 4) (.idx (.lst false (.cons (.con (.str [120])) (.cons (.con (.str [97, 32, 98])) (.cons (.con (.str [])) (.cons (.con (.str [48])) .nil))))) (.call 3 (.cons (.var 1) (.cons (.var 2) (.cons (.con (.int 4)) .nil))))))
def b_law_s5 : S := (.asg (.nm 5) (.idx (.lst false (.cons (.con .non) (.cons (.neg (.var 3)) (.cons (.var 4) (.cons (.tup (.cons (.var 3) .nil)) (.cons (.con (.bl true)) .nil)))))) (.call 3 (.cons (.var 1) (.cons (.var 2) (.cons (.con (.int 5)) .nil))))))
def b_law_l1 : S := (.seq (.ite (.not (.call 0 (.cons (.att (.var 6) 0) (.cons (.var 3) .nil)))) (.seq (.ret (.con (.bl false))) .pass) .pass) .pass)
def b_law_s6 : S := (.fr (.nm 6) .val (.cons (.lst false (.cons (.mkx 0 [0] [0] (.cons (.var 3) .nil)) (.cons (.mkx 1 [0] [0] (.cons (.var 3) .nil)) (.cons (.mkx 0 [0] [0] (.cons (.var 3) .nil)) (.cons (.mkx 1 [0] [0] (.cons (.var 3) .nil)) .nil))))) .nil) b_law_l1)
def b_law_l2 : S := (.seq (.ite (.not (.call 0 (.cons (.att (.var 6) 1) (.cons (.var 5) .nil)))) (.seq (.ret (.con (.bl false))) .pass) .pass) .pass)
def b_law_s7 : S := (.fr (.nm 6) .val (.cons (.lst false (.cons (.mkx 2 [1] [1] (.cons (.var 5) .nil)) (.cons (.mkx 3 [1] [1] (.cons (.var 5) .nil)) (.cons (.mkx 2 [1] [1] (.cons (.var 5) .nil)) (.cons (.mkx 3 [1] [1] (.cons (.var 5) .nil)) .nil))))) .nil) b_law_l2)
def b_law_l3 : S := (.seq (.ite (.not (.call 0 (.cons (.att (.var 6) 2) (.cons (.var 4) .nil)))) (.seq (.ret (.con (.bl false))) .pass) .pass) .pass)
def b_law_s8 : S := (.fr (.nm 6) .val (.cons (.lst false (.cons (.mkx 4 [2] [2] (.cons (.var 4) .nil)) (.cons (.mkx 4 [2] [2] (.cons (.var 4) .nil)) .nil))) .nil) b_law_l3)
def b_law_l4 : S := (.seq (.ite (.not (.call 0 (.cons (.tup (.cons (.att (.var 6) 3) (.cons (.att (.var 6) 4) .nil))) (.cons (.tup (.cons (.tup (.cons (.var 3) .nil)) (.cons (.tup (.cons (.var 4) .nil)) .nil))) .nil)))) (.seq (.ret (.con (.bl false))) .pass) .pass) .pass)
def b_law_s9 : S := (.fr (.nm 6) .val (.cons (.lst false (.cons (.mkx 5 [3, 4] [3, 4] (.cons (.tup (.cons (.var 3) .nil)) (.cons (.tup (.cons (.var 4) .nil)) .nil))) (.cons (.mkx 5 [3, 4] [4, 3] (.cons (.tup (.cons (.var 4) .nil)) (.cons (.tup (.cons (.var 3) .nil)) .nil))) .nil))) .nil) b_law_l4)
def b_law_l5 : S := (.seq (.ite (.not (.call 0 (.cons (.tup (.cons (.att (.var 6) 1) (.cons (.att (.var 6) 2) .nil))) (.cons (.tup (.cons (.var 4) (.cons (.con (.str [116])) .nil))) .nil)))) (.seq (.ret (.con (.bl false))) .pass) .pass) .pass)
def b_law_s10 : S := (.fr (.nm 6) .val (.cons (.lst false (.cons (.mkx 6 [1, 2] [1, 2] (.cons (.var 4) (.cons (.con (.str [116])) .nil))) (.cons (.mkx 6 [1, 2] [2, 1] (.cons (.con (.str [116])) (.cons (.var 4) .nil))) .nil))) .nil) b_law_l5)
def b_law_s11 : S := (.asg (.nm 7) (.lst false (.cons (.mkx 0 [0] [0] (.cons (.var 3) .nil)) (.cons (.mkx 1 [0] [0] (.cons (.var 3) .nil)) (.cons (.mkx 2 [1] [1] (.cons (.var 5) .nil)) (.cons (.mkx 3 [1] [1] (.cons (.var 5) .nil)) (.cons (.mkx 4 [2] [2] (.cons (.var 4) .nil)) (.cons (.mkx 5 [3, 4] [3, 4] (.cons (.tup (.cons (.var 3) .nil)) (.cons (.tup (.cons (.var 4) .nil)) .nil))) (.cons (.mkx 6 [1, 2] [1, 2] (.cons (.var 4) (.cons (.con (.str [116])) .nil))) .nil)))))))))
def b_law_c1 : E := (.cmp .eq (.var 9) (.var 8))
def b_law_l6 : S := (.seq (.ite (.or (.cons (.cmp .ne (.call 4 (.cons (.idx (.var 7) (.var 8)) .nil)) (.comp false [9] (.nm 9) .rng (.cons (.con (.int 7)) .nil) .nil b_law_c1)) (.cons (.call 5 (.cons (.idx (.var 7) (.var 8)) .nil)) (.cons (.not (.isx 11 [0, 1, 2, 3, 4, 5, 6] (.idx (.var 7) (.var 8)))) .nil)))) (.seq (.ret (.con (.bl false))) .pass) .pass) .pass)
def b_law_s12 : S := (.fr (.nm 8) .rng (.cons (.con (.int 7)) .nil) b_law_l6)
def b_law_s13 : S := (.ret (.and (.cons (.not (.call 6 (.cons (.con (.str [])) .nil))) (.cons (.call 6 (.cons (.con (.str [101, 110])) .nil)) .nil))))
/-- 7: law, script row spot at word other made every k one -/
def b_law : S := (.seq b_law_s1 (.seq b_law_s2 (.seq b_law_s3 (.seq b_law_s4 (.seq b_law_s5 (.seq b_law_s6 (.seq b_law_s7 (.seq b_law_s8 (.seq b_law_s9 (.seq b_law_s10 (.seq b_law_s11 (.seq b_law_s12 (.seq b_law_s13 .pass)))))))))))))
def PP : Pg := ⟨[⟨2, 3, true, b_law_so⟩,
  ⟨1, 6, true, b_law_numbers⟩,
  ⟨3, 4, true, b_law_draw⟩,
  ⟨3, 3, true, b_law_take⟩,
  ⟨1, 2, true, b_law_of⟩,
  ⟨1, 1, true, b_law_foreign⟩,
  ⟨1, 2, true, b_law_caught⟩,
  ⟨1, 10, true, b_law⟩], [], ([] : List Int).map D.int⟩
def nm : Nm where
  fns := [((none, "_law_so") : Option Nat × Str), ((none, "_law_numbers") : Option Nat × Str), ((none, "_law_draw") : Option Nat × Str), ((none, "_law_take") : Option Nat × Str), ((none, "_law_of") : Option Nat × Str), ((none, "_law_foreign") : Option Nat × Str), ((none, "_law_caught") : Option Nat × Str), ((none, "law") : Option Nat × Str)]
  par := [(["found", "meant"] : List Str), (["script"] : List Str), (["row", "at", "limit"] : List Str), (["row", "spot", "limit"] : List Str), (["value"] : List Str), (["value"] : List Str), (["name"] : List Str), (["script"] : List Str)]
  cls := ([] : List Str)
  glob := ([] : List Str)
  fld := (["at", "name", "text", "first", "second"] : List Str)
  exc := ([("BadValue", [0]), ("BadPattern", [0]), ("NoMessage", [1]), ("NoTongue", [1]), ("NotSaid", [2]), ("Twofold", [3, 4]), ("Shared", [1, 2])] : List (Str × List Nat))
  isx := ([("NoTongue", [3]), ("NoMessage", [2]), ("BadPattern", [1]), ("BadValue", [0]), ("Shared", [6]), ("Twofold", [5]), ("NotSaid", [4]), ("LookupError", []), ("ValueError", []), ("Exception", [0, 1, 2, 3, 4, 5, 6]), ("ArithmeticError", []), ("BookError", [0, 1, 2, 3, 4, 5, 6])] : List (Str × List Nat))
  base := (["BookError"] : List Str)
def slots : List (List Str) := [(["found", "meant", "k"] : List Str), (["script", "row", "cell", "left", "k", "mixed"] : List Str), (["row", "at", "limit", "mixed"] : List Str), (["row", "spot", "limit"] : List Str), (["value", "made"] : List Str), (["value"] : List Str), (["name", "wrong"] : List Str), (["script", "row", "spot", "at", "word", "other", "made", "every", "k", "one"] : List Str)]
def gi : List Int := []
/-! ### the head -/
def cls : List Str := nm.cls
def defOfS : Stmt → Option He.DefD
  | .FunctionDef n a b _ _ _ sc _ _ _ => some ⟨(n, none), n, n, a, b, sc, [], []⟩
  | _ => none
def methOfS (C : Str) : Stmt → Option He.DefD
  | .FunctionDef n a b _ _ _ sc _ _ _ => some ⟨(C, some n), n, C ++ "." ++ n, a, b, sc, [], []⟩
  | _ => none
def defsOf : List Stmt → List He.DefD
  | [] => []
  | .ClassDef n _ _ b _ _ _ _ _ _ _ :: r => if decide (n ∈ cls) then b.filterMap (methOfS n) ++ defsOf r else defsOf r
  | s :: r => match defOfS s with
    | some d => d :: defsOf r
    | none => defsOf r
def xdefsOf : List Stmt → List He.DefD
  | [] => []
  | .ClassDef n _ _ b _ _ _ _ _ _ _ :: r => if decide (n ∈ nm.exc.map (·.1)) then b.filterMap (methOfS n) ++ xdefsOf r else xdefsOf r
  | _ :: r => xdefsOf r
abbrev R : PySem.W.OpenRow := PySem.W.OpenLaw.row PySem.Challenge.rw_readhome_k00_errors
def fn : List He.DefD := defsOf PySem.Challenge.pw_readhome_k00_errors.main.body
def fx : List He.DefD := xdefsOf PySem.Challenge.pw_readhome_k00_errors.main.body
def fa : List He.Fa := faOf nm gi
def loose : List PySem.Str := (["BookError", "BadValue", "BadPattern", "NoMessage", "NoTongue", "NotSaid", "Twofold", "Shared", "_law_so", "_law_numbers", "_law_draw", "_law_take", "_law_of", "_law_foreign", "_law_caught"] : List PySem.Str)
theorem all_ok : allB nm fn PP.fns slots nm.fns nm.par = true := by kernel_rfl
theorem allx_ok : allX nm nm.exc fx = true := by kernel_rfl
theorem rest_ok : restB nm PP = true := by kernel_rfl
end K00
end

section
set_option Elab.async false
set_option linter.all false
set_option maxRecDepth 100000
namespace K00
open Ev PySem
theorem pur : PP.pur = true := by kernel_rfl
/-! ### the numbers drawn -/
structure Row (row : List Int) : Prop where
  ne : row ≠ []
  ok : ∀ x ∈ row, 0 ≤ x ∧ x < 2147483648
theorem c_draw {row : List Int} (hr : Row row) (k : Nat) (at_ lim : Int) (h0 : 0 ≤ at_) (h1 : at_ ≤ 1000000) (l0 : 0 < lim) (H : AH) : ∃ v : Int, callF PP (k + 1) (.fn 2) [.lst (row.map .int), .int at_, .int lim] H = .ok (.int v) H ∧ 0 ≤ v ∧ v < lim := by
  by_cases hl : at_ < row.length
  · obtain ⟨x, hx⟩ : ∃ x, row[at_.toNat]? = some x := ⟨row[at_.toNat]'(by omega), List.getElem?_eq_getElem _⟩
    refine ⟨x % lim, ?_, Int.emod_nonneg _ (by omega), Int.emod_lt_of_pos _ l0⟩
    rw [call_fn (fi := ⟨3, 4, true, b_law_draw⟩) rfl rfl]
    unfold b_law_draw
    simp -implicitDefEqProofs only [start_eq, List.map_cons, List.map_nil, List.replicate_zero, List.replicate_succ, Nat.sub_self, List.append_nil, List.nil_append, List.cons_append, if_true, if_false, Bool.false_eq_true, Bool.true_eq_false, reduceIte, ite_true, ite_false, and_self, and_true, true_and, Bool.not_true, Bool.not_false, Bool.and_true, Bool.true_and, Bool.and_false, Bool.false_and, Bool.or_true, Bool.true_or, Bool.or_false, Bool.false_or, o_addI, o_addS, o_sub, o_mul, o_fdiv, o_mod, o_pow, v_non, v_bl, v_int, v_str, v_tup, v_lst, v_scr, q_str, q_int, q_bl, q_non, c_eq, c_ne, c_ltI, c_leI, c_gtI, c_geI, c_ltS, c_leS, c_inn, c_nin, i_lst, i_tup, i_str, x_lst, x_tup, x_str, l_lst, l_str, l_scr, mk_f, mk_t, n_lenL, n_lenT, n_lenS, n_isi, n_intI, n_intS, n_str, n_ord, n_all, n_any, n_tup, n_list, n_set, sq_lst, sq_tup, m_join, m_dbl, k_join, k_dbl, d_bl, d_not, d_int, u_bl, p_non, p_bl, p_int, p_str, p_tup, p_lst, it_lst, it_tup, it_str, it_rng, e_var, e_con, e_glo, e_tup, e_lst, e_dnew, e_dlit, e_bin, e_cat, e_neg, e_cmp, e_isn, e_chain, e_and, e_or, e_not, e_ite, e_idx, e_slc, e_att, e_call, e_mth, e_mak, e_bi, e_bm, es_nil, es_cons, ep_nil, ep_cons, t_and, t_or, t_not, t_cmp, t_isn, t_chain, t_var, t_call, t_mth, t_bi, t_idx, eAnd_1, eAnd_2, eOr_1, eOr_2, tAnd_1, tAnd_2, tOr_1, tOr_2, x_pass, x_seq, x_ex, x_asgN, x_asgT, sT_nm, sT_tup, sT_lst, sTs_nil, sTs_nm, x_ret, x_ret0, x_ite, x_brk, x_cnt, b_ok, b_some, b_someH, bs_ok, List.getElem?_cons_zero, List.getElem?_cons_succ, List.set_cons_zero, List.set_cons_succ, Option.map_some, List.any_cons, List.any_nil, decide_true, decide_false, bne_self_eq_false, y_int_non, y_int_bl, y_int_int, y_int_str, y_int_tup, y_int_lst, y_int_scr, y_str_non, y_str_bl, y_str_int, y_str_str, y_str_tup, y_str_lst, y_str_scr, y_bool_non, y_bool_bl, y_bool_int, y_bool_str, y_bool_tup, y_bool_lst, y_bool_scr, y_tuple_non, y_tuple_bl, y_tuple_int, y_tuple_str, y_tuple_tup, y_tuple_lst, y_tuple_scr, y_list_non, y_list_bl, y_list_int, y_list_str, y_list_tup, y_list_lst, y_list_scr, List.length_map, hl, decide_true, place_map, place_of h0 hx, l0, fin_rt]
  · have hn : 0 < row.length := List.length_pos_iff.mpr hr.ne
    have hm0 := Int.emod_nonneg at_ (b := (row.length : Int)) (by omega)
    have hm1 := Int.emod_lt_of_pos at_ (b := (row.length : Int)) (by omega)
    obtain ⟨x, hx⟩ : ∃ x, row[(at_ % (row.length : Int)).toNat]? = some x := ⟨row[(at_ % (row.length : Int)).toNat]'(by omega), List.getElem?_eq_getElem _⟩
    have ⟨x0, x1⟩ := hr.ok x (List.mem_of_getElem? hx)
    have k1 : mulOk x 40692 := mulOk_s (by omega) (by decide)
    have k2 : mulOk at_ 7919 := mulOk_s (by omega) (by decide)
    have y0 := Int.emod_nonneg (x * 40692 + at_ * 7919 + 3) (b := 2147483399) (by decide)
    have y1 := Int.emod_lt_of_pos (x * 40692 + at_ * 7919 + 3) (b := 2147483399) (by decide)
    have k3 : mulOk ((x * 40692 + at_ * 7919 + 3) % 2147483399) 48271 := mulOk_s (by omega) (by decide)
    have ex : ∀ (r : Rs D) (m : Int), r = .ok (.int (m % lim)) H → ∃ v : Int, r = .ok (.int v) H ∧ 0 ≤ v ∧ v < lim := fun r m h => ⟨_, h, Int.emod_nonneg _ (by omega), Int.emod_lt_of_pos _ l0⟩
    refine ex _ (((x * 40692 + at_ * 7919 + 3) % 2147483399 * 48271 + at_) % 2147483647) ?_
    rw [call_fn (fi := ⟨3, 4, true, b_law_draw⟩) rfl rfl]
    unfold b_law_draw
    simp -implicitDefEqProofs only [start_eq, List.map_cons, List.map_nil, List.replicate_zero, List.replicate_succ, Nat.sub_self, List.append_nil, List.nil_append, List.cons_append, if_true, if_false, Bool.false_eq_true, Bool.true_eq_false, reduceIte, ite_true, ite_false, and_self, and_true, true_and, Bool.not_true, Bool.not_false, Bool.and_true, Bool.true_and, Bool.and_false, Bool.false_and, Bool.or_true, Bool.true_or, Bool.or_false, Bool.false_or, o_addI, o_addS, o_sub, o_mul, o_fdiv, o_mod, o_pow, v_non, v_bl, v_int, v_str, v_tup, v_lst, v_scr, q_str, q_int, q_bl, q_non, c_eq, c_ne, c_ltI, c_leI, c_gtI, c_geI, c_ltS, c_leS, c_inn, c_nin, i_lst, i_tup, i_str, x_lst, x_tup, x_str, l_lst, l_str, l_scr, mk_f, mk_t, n_lenL, n_lenT, n_lenS, n_isi, n_intI, n_intS, n_str, n_ord, n_all, n_any, n_tup, n_list, n_set, sq_lst, sq_tup, m_join, m_dbl, k_join, k_dbl, d_bl, d_not, d_int, u_bl, p_non, p_bl, p_int, p_str, p_tup, p_lst, it_lst, it_tup, it_str, it_rng, e_var, e_con, e_glo, e_tup, e_lst, e_dnew, e_dlit, e_bin, e_cat, e_neg, e_cmp, e_isn, e_chain, e_and, e_or, e_not, e_ite, e_idx, e_slc, e_att, e_call, e_mth, e_mak, e_bi, e_bm, es_nil, es_cons, ep_nil, ep_cons, t_and, t_or, t_not, t_cmp, t_isn, t_chain, t_var, t_call, t_mth, t_bi, t_idx, eAnd_1, eAnd_2, eOr_1, eOr_2, tAnd_1, tAnd_2, tOr_1, tOr_2, x_pass, x_seq, x_ex, x_asgN, x_asgT, sT_nm, sT_tup, sT_lst, sTs_nil, sTs_nm, x_ret, x_ret0, x_ite, x_brk, x_cnt, b_ok, b_some, b_someH, bs_ok, List.getElem?_cons_zero, List.getElem?_cons_succ, List.set_cons_zero, List.set_cons_succ, Option.map_some, List.any_cons, List.any_nil, decide_true, decide_false, bne_self_eq_false, y_int_non, y_int_bl, y_int_int, y_int_str, y_int_tup, y_int_lst, y_int_scr, y_str_non, y_str_bl, y_str_int, y_str_str, y_str_tup, y_str_lst, y_str_scr, y_bool_non, y_bool_bl, y_bool_int, y_bool_str, y_bool_tup, y_bool_lst, y_bool_scr, y_tuple_non, y_tuple_bl, y_tuple_int, y_tuple_str, y_tuple_tup, y_tuple_lst, y_tuple_scr, y_list_non, y_list_bl, y_list_int, y_list_str, y_list_tup, y_list_lst, y_list_scr, List.length_map, hl, decide_false, place_map, show (0 : Int) < (row.length : Int) by omega, place_of hm0 hx, k1, k2, k3, show (0 : Int) < 2147483399 by decide, show (0 : Int) < 2147483647 by decide, l0, fin_rt]
theorem c_take {row : List Int} (hr : Row row) (k : Nat) (s : Nat) (c lim : Int) (h0 : 0 ≤ c) (h1 : c ≤ 1000000) (l0 : 0 < lim) (H : AH) (hs : H[s]? = some (.lst [.int c])) : ∃ v : Int, callF PP (k + 2) (.fn 3) [.lst (row.map .int), .ref s, .int lim] H = .ok (.int v) (H.set s (.lst [.int (c + 1)])) ∧ 0 ≤ v ∧ v < lim := by
  have hlt : s < H.length := (List.getElem?_eq_some_iff.mp hs).1
  have hs2 : (H.set s (.lst [.int (c + 1)]))[s]? = some (.lst [.int (c + 1)]) := by rw [List.getElem?_set_self hlt]
  obtain ⟨v, e, v0, v1⟩ := c_draw hr k c lim h0 h1 l0 (H.set s (.lst [.int (c + 1)]))
  refine ⟨v, ?_, v0, v1⟩
  rw [call_fn (fi := ⟨3, 3, true, b_law_take⟩) rfl rfl]
  unfold b_law_take
  simp -implicitDefEqProofs only [start_eq, List.map_cons, List.map_nil, List.replicate_zero, List.replicate_succ, Nat.sub_self, List.append_nil, List.nil_append, List.cons_append, if_true, if_false, Bool.false_eq_true, Bool.true_eq_false, reduceIte, ite_true, ite_false, and_self, and_true, true_and, Bool.not_true, Bool.not_false, Bool.and_true, Bool.true_and, Bool.and_false, Bool.false_and, Bool.or_true, Bool.true_or, Bool.or_false, Bool.false_or, o_addI, o_addS, o_sub, o_mul, o_fdiv, o_mod, o_pow, v_non, v_bl, v_int, v_str, v_tup, v_lst, v_scr, q_str, q_int, q_bl, q_non, c_eq, c_ne, c_ltI, c_leI, c_gtI, c_geI, c_ltS, c_leS, c_inn, c_nin, i_lst, i_tup, i_str, x_lst, x_tup, x_str, l_lst, l_str, l_scr, mk_f, mk_t, n_lenL, n_lenT, n_lenS, n_isi, n_intI, n_intS, n_str, n_ord, n_all, n_any, n_tup, n_list, n_set, sq_lst, sq_tup, m_join, m_dbl, k_join, k_dbl, d_bl, d_not, d_int, u_bl, p_non, p_bl, p_int, p_str, p_tup, p_lst, it_lst, it_tup, it_str, it_rng, e_var, e_con, e_glo, e_tup, e_lst, e_dnew, e_dlit, e_bin, e_cat, e_neg, e_cmp, e_isn, e_chain, e_and, e_or, e_not, e_ite, e_idx, e_slc, e_att, e_call, e_mth, e_mak, e_bi, e_bm, es_nil, es_cons, ep_nil, ep_cons, t_and, t_or, t_not, t_cmp, t_isn, t_chain, t_var, t_call, t_mth, t_bi, t_idx, eAnd_1, eAnd_2, eOr_1, eOr_2, tAnd_1, tAnd_2, tOr_1, tOr_2, x_pass, x_seq, x_ex, x_asgN, x_asgT, sT_nm, sT_tup, sT_lst, sTs_nil, sTs_nm, x_ret, x_ret0, x_ite, x_brk, x_cnt, b_ok, b_some, b_someH, bs_ok, List.getElem?_cons_zero, List.getElem?_cons_succ, List.set_cons_zero, List.set_cons_succ, Option.map_some, List.any_cons, List.any_nil, decide_true, decide_false, bne_self_eq_false, y_int_non, y_int_bl, y_int_int, y_int_str, y_int_tup, y_int_lst, y_int_scr, y_str_non, y_str_bl, y_str_int, y_str_str, y_str_tup, y_str_lst, y_str_scr, y_bool_non, y_bool_bl, y_bool_int, y_bool_str, y_bool_tup, y_bool_lst, y_bool_scr, y_tuple_non, y_tuple_bl, y_tuple_int, y_tuple_str, y_tuple_tup, y_tuple_lst, y_tuple_scr, y_list_non, y_list_bl, y_list_int, y_list_str, y_list_tup, y_list_lst, y_list_scr, idx_at hs, idx_at hs2, x_seti, setI_at hs (j := 0) (Int.le_refl 0) (Int.zero_lt_one), place_of (xs := [D.int c]) (j := 0) (x := .int c) (by decide) rfl, place_of (xs := [D.int (c + 1)]) (j := 0) (x := .int (c + 1)) (by decide) rfl, Int.add_sub_cancel, show List.set [D.int c] (Int.toNat 0) (D.int (c + 1)) = [D.int (c + 1)] from rfl, e]
  exact fin_len (by rw [List.length_set])
theorem cellOk {H : AH} {row : List Int} (hr : ∀ x ∈ row, 0 ≤ x ∧ x < 2147483648) (hl : row.length < 10000) {m b : Int} {e : Int} (he : e = m % b) (hb : 0 < b) (hb2 : b ≤ 2147483647) : ((∀ x ∈ row ++ [e], 0 ≤ x ∧ x < 2147483648) ∧ evBm (H ++ [.lst (row.map .int)]) .append (.ref H.length) [.int e] = some (.non, H ++ [.lst ((row ++ [e]).map .int)])) := by
  constructor
  · intro x hx
    rw [List.mem_append] at hx
    rcases hx with hx | hx
    · exact hr x hx
    · rw [List.mem_singleton] at hx
      subst hx
      have := Int.emod_nonneg m (b := b) (by omega)
      have := Int.emod_lt_of_pos m hb
      omega
  · rw [bm_append (get_last H _) (by rw [List.length_map, sizeLine_eq]; omega), set_last]
    simp
/-- the state of that loop -/
def NumI (H : AH) (ns : List Int) (m : Nat) (σ : Sl) (A : AH) : Prop := ∃ (row : List Int) (x2 x3 x4 x5 : Option D), σ = [some (.scr ns), some (.ref H.length), x2, x3, x4, x5] ∧ A = H ++ [.lst (row.map .int)] ∧ (∀ x ∈ row, 0 ≤ x ∧ x < 2147483648) ∧ row.length ≤ m
theorem c_num1 (k : Nat) {H : AH} {ns : List Int} {m : Nat} (hm : m + 1 < 10000) {row : List Int} {x2 x4 x5 : Option D} {left : Int} (hr : ∀ x ∈ row, 0 ≤ x ∧ x < 2147483648) (hl : row.length ≤ m) :
    (∃ σ2 H2, evS (callF PP k) PP.glob b_law_numbers_l1 [some (.scr ns), some (.ref H.length), x2, some (.int left), x4, x5] (H ++ [.lst (row.map .int)]) = .ok .bk σ2 H2 ∧ NumI H ns m σ2 H2) ∨
    ∃ (left' : Int) (row' : List Int), evS (callF PP k) PP.glob b_law_numbers_l1 [some (.scr ns), some (.ref H.length), x2, some (.int left), x4, x5] (H ++ [.lst (row.map .int)]) = .ok .nx [some (.scr ns), some (.ref H.length), x2, some (.int left'), x4, x5] (H ++ [.lst (row'.map .int)]) ∧ (∀ x ∈ row', 0 ≤ x ∧ x < 2147483648) ∧ row'.length ≤ m + 1 := by
  unfold b_law_numbers_l1
  by_cases h : left = 0
  · left
    refine ⟨_, _, ?_, row, x2, some (.int left), x4, x5, rfl, rfl, hr, hl⟩
    simp -implicitDefEqProofs only [start_eq, List.map_cons, List.map_nil, List.replicate_zero, List.replicate_succ, Nat.sub_self, List.append_nil, List.nil_append, List.cons_append, if_true, if_false, Bool.false_eq_true, Bool.true_eq_false, reduceIte, ite_true, ite_false, and_self, and_true, true_and, Bool.not_true, Bool.not_false, Bool.and_true, Bool.true_and, Bool.and_false, Bool.false_and, Bool.or_true, Bool.true_or, Bool.or_false, Bool.false_or, o_addI, o_addS, o_sub, o_mul, o_fdiv, o_mod, o_pow, v_non, v_bl, v_int, v_str, v_tup, v_lst, v_scr, q_str, q_int, q_bl, q_non, c_eq, c_ne, c_ltI, c_leI, c_gtI, c_geI, c_ltS, c_leS, c_inn, c_nin, i_lst, i_tup, i_str, x_lst, x_tup, x_str, l_lst, l_str, l_scr, mk_f, mk_t, n_lenL, n_lenT, n_lenS, n_isi, n_intI, n_intS, n_str, n_ord, n_all, n_any, n_tup, n_list, n_set, sq_lst, sq_tup, m_join, m_dbl, k_join, k_dbl, d_bl, d_not, d_int, u_bl, p_non, p_bl, p_int, p_str, p_tup, p_lst, it_lst, it_tup, it_str, it_rng, e_var, e_con, e_glo, e_tup, e_lst, e_dnew, e_dlit, e_bin, e_cat, e_neg, e_cmp, e_isn, e_chain, e_and, e_or, e_not, e_ite, e_idx, e_slc, e_att, e_call, e_mth, e_mak, e_bi, e_bm, es_nil, es_cons, ep_nil, ep_cons, t_and, t_or, t_not, t_cmp, t_isn, t_chain, t_var, t_call, t_mth, t_bi, t_idx, eAnd_1, eAnd_2, eOr_1, eOr_2, tAnd_1, tAnd_2, tOr_1, tOr_2, x_pass, x_seq, x_ex, x_asgN, x_asgT, sT_nm, sT_tup, sT_lst, sTs_nil, sTs_nm, x_ret, x_ret0, x_ite, x_brk, x_cnt, b_ok, b_some, b_someH, bs_ok, List.getElem?_cons_zero, List.getElem?_cons_succ, List.set_cons_zero, List.set_cons_succ, Option.map_some, List.any_cons, List.any_nil, decide_true, decide_false, bne_self_eq_false, y_int_non, y_int_bl, y_int_int, y_int_str, y_int_tup, y_int_lst, y_int_scr, y_str_non, y_str_bl, y_str_int, y_str_str, y_str_tup, y_str_lst, y_str_scr, y_bool_non, y_bool_bl, y_bool_int, y_bool_str, y_bool_tup, y_bool_lst, y_bool_scr, y_tuple_non, y_tuple_bl, y_tuple_int, y_tuple_str, y_tuple_tup, y_tuple_lst, y_tuple_scr, y_list_non, y_list_bl, y_list_int, y_list_str, y_list_tup, y_list_lst, y_list_scr, h, decide_true]
  · right
    have ⟨c1, c2⟩ := cellOk (H := H) hr (by omega) (m := left) (b := 997) rfl (by decide) (by decide)
    refine ⟨left / 997, _, ?_, c1, by simp; omega⟩
    simp -implicitDefEqProofs only [start_eq, List.map_cons, List.map_nil, List.replicate_zero, List.replicate_succ, Nat.sub_self, List.append_nil, List.nil_append, List.cons_append, if_true, if_false, Bool.false_eq_true, Bool.true_eq_false, reduceIte, ite_true, ite_false, and_self, and_true, true_and, Bool.not_true, Bool.not_false, Bool.and_true, Bool.true_and, Bool.and_false, Bool.false_and, Bool.or_true, Bool.true_or, Bool.or_false, Bool.false_or, o_addI, o_addS, o_sub, o_mul, o_fdiv, o_mod, o_pow, v_non, v_bl, v_int, v_str, v_tup, v_lst, v_scr, q_str, q_int, q_bl, q_non, c_eq, c_ne, c_ltI, c_leI, c_gtI, c_geI, c_ltS, c_leS, c_inn, c_nin, i_lst, i_tup, i_str, x_lst, x_tup, x_str, l_lst, l_str, l_scr, mk_f, mk_t, n_lenL, n_lenT, n_lenS, n_isi, n_intI, n_intS, n_str, n_ord, n_all, n_any, n_tup, n_list, n_set, sq_lst, sq_tup, m_join, m_dbl, k_join, k_dbl, d_bl, d_not, d_int, u_bl, p_non, p_bl, p_int, p_str, p_tup, p_lst, it_lst, it_tup, it_str, it_rng, e_var, e_con, e_glo, e_tup, e_lst, e_dnew, e_dlit, e_bin, e_cat, e_neg, e_cmp, e_isn, e_chain, e_and, e_or, e_not, e_ite, e_idx, e_slc, e_att, e_call, e_mth, e_mak, e_bi, e_bm, es_nil, es_cons, ep_nil, ep_cons, t_and, t_or, t_not, t_cmp, t_isn, t_chain, t_var, t_call, t_mth, t_bi, t_idx, eAnd_1, eAnd_2, eOr_1, eOr_2, tAnd_1, tAnd_2, tOr_1, tOr_2, x_pass, x_seq, x_ex, x_asgN, x_asgT, sT_nm, sT_tup, sT_lst, sTs_nil, sTs_nm, x_ret, x_ret0, x_ite, x_brk, x_cnt, b_ok, b_some, b_someH, bs_ok, List.getElem?_cons_zero, List.getElem?_cons_succ, List.set_cons_zero, List.set_cons_succ, Option.map_some, List.any_cons, List.any_nil, decide_true, decide_false, bne_self_eq_false, y_int_non, y_int_bl, y_int_int, y_int_str, y_int_tup, y_int_lst, y_int_scr, y_str_non, y_str_bl, y_str_int, y_str_str, y_str_tup, y_str_lst, y_str_scr, y_bool_non, y_bool_bl, y_bool_int, y_bool_str, y_bool_tup, y_bool_lst, y_bool_scr, y_tuple_non, y_tuple_bl, y_tuple_int, y_tuple_str, y_tuple_tup, y_tuple_lst, y_tuple_scr, y_list_non, y_list_bl, y_list_int, y_list_str, y_list_tup, y_list_lst, y_list_scr, h, decide_false, bmOk_append (get_last H _), show (0 : Int) < 997 by decide, show (0 : Int) < 997 ∧ (997 : Int) < 1073741824 by decide, c2]
theorem c_num2 (k : Nat) {H : AH} {ns : List Int} {m : Nat} (hm : m + 1 < 10000) {row : List Int} {x3 x5 : Option D} {cell kk : Int} (hc : Builtin.Int.intBits cell ≤ 1048576) (hk : 0 ≤ kk ∧ kk < 100) (hr : ∀ x ∈ row, 0 ≤ x ∧ x < 2147483648) (hl : row.length ≤ m) :
    ∃ (x5' : Option D) (row' : List Int), evS (callF PP k) PP.glob b_law_numbers_l2 [some (.scr ns), some (.ref H.length), some (.int cell), x3, some (.int kk), x5] (H ++ [.lst (row.map .int)]) = .ok .nx [some (.scr ns), some (.ref H.length), some (.int cell), x3, some (.int kk), x5'] (H ++ [.lst (row'.map .int)]) ∧ (∀ x ∈ row', 0 ≤ x ∧ x < 2147483648) ∧ row'.length ≤ m + 1 := by
  unfold b_law_numbers_l2
  have y0 := Int.emod_nonneg (cell * 48271 + kk * 69621 + 11) (b := 2147483647) (by decide)
  have y1 := Int.emod_lt_of_pos (cell * 48271 + kk * 69621 + 11) (b := 2147483647) (by decide)
  have k1 : mulOk cell 48271 := mulOk_b hc (by decide)
  have k2 : mulOk kk 69621 := mulOk_s (by omega) (by decide)
  have k3 : mulOk ((cell * 48271 + kk * 69621 + 11) % 2147483647) 16807 := mulOk_s (by omega) (by decide)
  have ⟨c1, c2⟩ := cellOk (H := H) hr (by omega) (m := (cell * 48271 + kk * 69621 + 11) % 2147483647 * 16807 + kk) (b := 2147483629) rfl (by decide) (by decide)
  refine ⟨some (.int ((cell * 48271 + kk * 69621 + 11) % 2147483647)), _, ?_, c1, by simp; omega⟩
  simp -implicitDefEqProofs only [start_eq, List.map_cons, List.map_nil, List.replicate_zero, List.replicate_succ, Nat.sub_self, List.append_nil, List.nil_append, List.cons_append, if_true, if_false, Bool.false_eq_true, Bool.true_eq_false, reduceIte, ite_true, ite_false, and_self, and_true, true_and, Bool.not_true, Bool.not_false, Bool.and_true, Bool.true_and, Bool.and_false, Bool.false_and, Bool.or_true, Bool.true_or, Bool.or_false, Bool.false_or, o_addI, o_addS, o_sub, o_mul, o_fdiv, o_mod, o_pow, v_non, v_bl, v_int, v_str, v_tup, v_lst, v_scr, q_str, q_int, q_bl, q_non, c_eq, c_ne, c_ltI, c_leI, c_gtI, c_geI, c_ltS, c_leS, c_inn, c_nin, i_lst, i_tup, i_str, x_lst, x_tup, x_str, l_lst, l_str, l_scr, mk_f, mk_t, n_lenL, n_lenT, n_lenS, n_isi, n_intI, n_intS, n_str, n_ord, n_all, n_any, n_tup, n_list, n_set, sq_lst, sq_tup, m_join, m_dbl, k_join, k_dbl, d_bl, d_not, d_int, u_bl, p_non, p_bl, p_int, p_str, p_tup, p_lst, it_lst, it_tup, it_str, it_rng, e_var, e_con, e_glo, e_tup, e_lst, e_dnew, e_dlit, e_bin, e_cat, e_neg, e_cmp, e_isn, e_chain, e_and, e_or, e_not, e_ite, e_idx, e_slc, e_att, e_call, e_mth, e_mak, e_bi, e_bm, es_nil, es_cons, ep_nil, ep_cons, t_and, t_or, t_not, t_cmp, t_isn, t_chain, t_var, t_call, t_mth, t_bi, t_idx, eAnd_1, eAnd_2, eOr_1, eOr_2, tAnd_1, tAnd_2, tOr_1, tOr_2, x_pass, x_seq, x_ex, x_asgN, x_asgT, sT_nm, sT_tup, sT_lst, sTs_nil, sTs_nm, x_ret, x_ret0, x_ite, x_brk, x_cnt, b_ok, b_some, b_someH, bs_ok, List.getElem?_cons_zero, List.getElem?_cons_succ, List.set_cons_zero, List.set_cons_succ, Option.map_some, List.any_cons, List.any_nil, decide_true, decide_false, bne_self_eq_false, y_int_non, y_int_bl, y_int_int, y_int_str, y_int_tup, y_int_lst, y_int_scr, y_str_non, y_str_bl, y_str_int, y_str_str, y_str_tup, y_str_lst, y_str_scr, y_bool_non, y_bool_bl, y_bool_int, y_bool_str, y_bool_tup, y_bool_lst, y_bool_scr, y_tuple_non, y_tuple_bl, y_tuple_int, y_tuple_str, y_tuple_tup, y_tuple_lst, y_tuple_scr, y_list_non, y_list_bl, y_list_int, y_list_str, y_list_tup, y_list_lst, y_list_scr, k1, k2, k3, bmOk_append (get_last H _), show (0 : Int) < 2147483629 by decide, show (0 : Int) < 2147483647 by decide, c2]
theorem c_num3 (k : Nat) {H : AH} {ns : List Int} {m : Nat} (hm : m + 61 < 10000) {row : List Int} {x3 x4 x5 : Option D} {cell : Int} (hc : Builtin.Int.intBits cell ≤ 1048576) (hr : ∀ x ∈ row, 0 ≤ x ∧ x < 2147483648) (hl : row.length ≤ m) :
    ∃ (σ2 : Sl) (H2 : AH), evS (callF PP k) PP.glob b_law_numbers_l3 [some (.scr ns), some (.ref H.length), some (.int cell), x3, x4, x5] (H ++ [.lst (row.map .int)]) = .ok .nx σ2 H2 ∧ NumI H ns (m + 60) σ2 H2 := by
  unfold b_law_numbers_l3
  simp -implicitDefEqProofs only [start_eq, List.map_cons, List.map_nil, List.replicate_zero, List.replicate_succ, Nat.sub_self, List.append_nil, List.nil_append, List.cons_append, if_true, if_false, Bool.false_eq_true, Bool.true_eq_false, reduceIte, ite_true, ite_false, and_self, and_true, true_and, Bool.not_true, Bool.not_false, Bool.and_true, Bool.true_and, Bool.and_false, Bool.false_and, Bool.or_true, Bool.true_or, Bool.or_false, Bool.false_or, o_addI, o_addS, o_sub, o_mul, o_fdiv, o_mod, o_pow, v_non, v_bl, v_int, v_str, v_tup, v_lst, v_scr, q_str, q_int, q_bl, q_non, c_eq, c_ne, c_ltI, c_leI, c_gtI, c_geI, c_ltS, c_leS, c_inn, c_nin, i_lst, i_tup, i_str, x_lst, x_tup, x_str, l_lst, l_str, l_scr, mk_f, mk_t, n_lenL, n_lenT, n_lenS, n_isi, n_intI, n_intS, n_str, n_ord, n_all, n_any, n_tup, n_list, n_set, sq_lst, sq_tup, m_join, m_dbl, k_join, k_dbl, d_bl, d_not, d_int, u_bl, p_non, p_bl, p_int, p_str, p_tup, p_lst, it_lst, it_tup, it_str, it_rng, e_var, e_con, e_glo, e_tup, e_lst, e_dnew, e_dlit, e_bin, e_cat, e_neg, e_cmp, e_isn, e_chain, e_and, e_or, e_not, e_ite, e_idx, e_slc, e_att, e_call, e_mth, e_mak, e_bi, e_bm, es_nil, es_cons, ep_nil, ep_cons, t_and, t_or, t_not, t_cmp, t_isn, t_chain, t_var, t_call, t_mth, t_bi, t_idx, eAnd_1, eAnd_2, eOr_1, eOr_2, tAnd_1, tAnd_2, tOr_1, tOr_2, x_pass, x_seq, x_ex, x_asgN, x_asgT, sT_nm, sT_tup, sT_lst, sTs_nil, sTs_nm, x_ret, x_ret0, x_ite, x_brk, x_cnt, b_ok, b_some, b_someH, bs_ok, List.getElem?_cons_zero, List.getElem?_cons_succ, List.set_cons_zero, List.set_cons_succ, Option.map_some, List.any_cons, List.any_nil, decide_true, decide_false, bne_self_eq_false, y_int_non, y_int_bl, y_int_int, y_int_str, y_int_tup, y_int_lst, y_int_scr, y_str_non, y_str_bl, y_str_int, y_str_str, y_str_tup, y_str_lst, y_str_scr, y_bool_non, y_bool_bl, y_bool_int, y_bool_str, y_bool_tup, y_bool_lst, y_bool_scr, y_tuple_non, y_tuple_bl, y_tuple_int, y_tuple_str, y_tuple_tup, y_tuple_lst, y_tuple_scr, y_list_non, y_list_bl, y_list_int, y_list_str, y_list_tup, y_list_lst, y_list_scr, show (0 : Int) ≤ 18 ∧ (18 : Int) ≤ 1000000 ∧ Int.natAbs 10 < 2 ^ 64 from ⟨by decide, by decide, by decide⟩]
  by_cases hb : (10 : Int) ^ Int.toNat 18 ≤ cell
  · simp -implicitDefEqProofs only [start_eq, List.map_cons, List.map_nil, List.replicate_zero, List.replicate_succ, Nat.sub_self, List.append_nil, List.nil_append, List.cons_append, if_true, if_false, Bool.false_eq_true, Bool.true_eq_false, reduceIte, ite_true, ite_false, and_self, and_true, true_and, Bool.not_true, Bool.not_false, Bool.and_true, Bool.true_and, Bool.and_false, Bool.false_and, Bool.or_true, Bool.true_or, Bool.or_false, Bool.false_or, o_addI, o_addS, o_sub, o_mul, o_fdiv, o_mod, o_pow, v_non, v_bl, v_int, v_str, v_tup, v_lst, v_scr, q_str, q_int, q_bl, q_non, c_eq, c_ne, c_ltI, c_leI, c_gtI, c_geI, c_ltS, c_leS, c_inn, c_nin, i_lst, i_tup, i_str, x_lst, x_tup, x_str, l_lst, l_str, l_scr, mk_f, mk_t, n_lenL, n_lenT, n_lenS, n_isi, n_intI, n_intS, n_str, n_ord, n_all, n_any, n_tup, n_list, n_set, sq_lst, sq_tup, m_join, m_dbl, k_join, k_dbl, d_bl, d_not, d_int, u_bl, p_non, p_bl, p_int, p_str, p_tup, p_lst, it_lst, it_tup, it_str, it_rng, e_var, e_con, e_glo, e_tup, e_lst, e_dnew, e_dlit, e_bin, e_cat, e_neg, e_cmp, e_isn, e_chain, e_and, e_or, e_not, e_ite, e_idx, e_slc, e_att, e_call, e_mth, e_mak, e_bi, e_bm, es_nil, es_cons, ep_nil, ep_cons, t_and, t_or, t_not, t_cmp, t_isn, t_chain, t_var, t_call, t_mth, t_bi, t_idx, eAnd_1, eAnd_2, eOr_1, eOr_2, tAnd_1, tAnd_2, tOr_1, tOr_2, x_pass, x_seq, x_ex, x_asgN, x_asgT, sT_nm, sT_tup, sT_lst, sTs_nil, sTs_nm, x_ret, x_ret0, x_ite, x_brk, x_cnt, b_ok, b_some, b_someH, bs_ok, List.getElem?_cons_zero, List.getElem?_cons_succ, List.set_cons_zero, List.set_cons_succ, Option.map_some, List.any_cons, List.any_nil, decide_true, decide_false, bne_self_eq_false, y_int_non, y_int_bl, y_int_int, y_int_str, y_int_tup, y_int_lst, y_int_scr, y_str_non, y_str_bl, y_str_int, y_str_str, y_str_tup, y_str_lst, y_str_scr, y_bool_non, y_bool_bl, y_bool_int, y_bool_str, y_bool_tup, y_bool_lst, y_bool_scr, y_tuple_non, y_tuple_bl, y_tuple_int, y_tuple_str, y_tuple_tup, y_tuple_lst, y_tuple_scr, y_list_non, y_list_bl, y_list_int, y_list_str, y_list_tup, y_list_lst, y_list_scr, hb, decide_true, x_fr, show -(2 ^ 62) ≤ (60 : Int) ∧ (60 : Int) < 2 ^ 62 by decide]
    obtain ⟨σ', H', h1, h2⟩ := for_inv (all := (List.range (Int.toNat 60)).map fun i => D.int (i : Nat)) (t := .nm 4) (b := fun σ H => evS (callF PP k) PP.glob b_law_numbers_l1 σ H) (fun i : Nat => D.int (i : Nat))
      (fun r σ A => r.length ≤ 60 ∧ ∃ (row : List Int) (left : Int) (x4 x5 : Option D), σ = [some (.scr ns), some (.ref H.length), some (.int cell), some (.int left), x4, x5] ∧ A = H ++ [.lst (row.map .int)] ∧ (∀ x ∈ row, 0 ≤ x ∧ x < 2147483648) ∧ row.length ≤ m + (60 - r.length))
      (NumI H ns (m + 60)) (fun σ A ⟨_, row, left, x4, x5, h1, h2, h3, h4⟩ => ⟨row, _, _, _, _, h1, h2, h3, by simpa using h4⟩) (by
        rintro i r σ A ⟨hn, row, left, x4, x5, rfl, rfl, hr, hl⟩
        rw [List.length_cons] at hn hl
        refine ⟨_, rfl, ?_⟩
        rcases c_num1 k (H := H) (ns := ns) (m := m + (60 - (r.length + 1))) (by omega) (x2 := some (.int cell)) (x4 := some (.int (i : Nat))) (x5 := x5) (left := left) hr hl with ⟨σ2, H2, e, q⟩ | ⟨left', row', e, q1, q2⟩
        · obtain ⟨row, y2, y3, y4, y5, h1, h2, h3, h4⟩ := q
          exact ⟨σ2, H2, .inr ⟨e, row, y2, y3, y4, y5, h1, h2, h3, by omega⟩⟩
        · exact ⟨_, _, .inl ⟨.inl e, by omega, row', left', _, _, rfl, rfl, q1, by omega⟩⟩)
      (List.range (Int.toNat 60)) _ _ ⟨by rw [List.length_range]; decide, row, cell, x4, x5, rfl, rfl, hr, by omega⟩
    rw [h1]
    simp -implicitDefEqProofs only [start_eq, List.map_cons, List.map_nil, List.replicate_zero, List.replicate_succ, Nat.sub_self, List.append_nil, List.nil_append, List.cons_append, if_true, if_false, Bool.false_eq_true, Bool.true_eq_false, reduceIte, ite_true, ite_false, and_self, and_true, true_and, Bool.not_true, Bool.not_false, Bool.and_true, Bool.true_and, Bool.and_false, Bool.false_and, Bool.or_true, Bool.true_or, Bool.or_false, Bool.false_or, o_addI, o_addS, o_sub, o_mul, o_fdiv, o_mod, o_pow, v_non, v_bl, v_int, v_str, v_tup, v_lst, v_scr, q_str, q_int, q_bl, q_non, c_eq, c_ne, c_ltI, c_leI, c_gtI, c_geI, c_ltS, c_leS, c_inn, c_nin, i_lst, i_tup, i_str, x_lst, x_tup, x_str, l_lst, l_str, l_scr, mk_f, mk_t, n_lenL, n_lenT, n_lenS, n_isi, n_intI, n_intS, n_str, n_ord, n_all, n_any, n_tup, n_list, n_set, sq_lst, sq_tup, m_join, m_dbl, k_join, k_dbl, d_bl, d_not, d_int, u_bl, p_non, p_bl, p_int, p_str, p_tup, p_lst, it_lst, it_tup, it_str, it_rng, e_var, e_con, e_glo, e_tup, e_lst, e_dnew, e_dlit, e_bin, e_cat, e_neg, e_cmp, e_isn, e_chain, e_and, e_or, e_not, e_ite, e_idx, e_slc, e_att, e_call, e_mth, e_mak, e_bi, e_bm, es_nil, es_cons, ep_nil, ep_cons, t_and, t_or, t_not, t_cmp, t_isn, t_chain, t_var, t_call, t_mth, t_bi, t_idx, eAnd_1, eAnd_2, eOr_1, eOr_2, tAnd_1, tAnd_2, tOr_1, tOr_2, x_pass, x_seq, x_ex, x_asgN, x_asgT, sT_nm, sT_tup, sT_lst, sTs_nil, sTs_nm, x_ret, x_ret0, x_ite, x_brk, x_cnt, b_ok, b_some, b_someH, bs_ok, List.getElem?_cons_zero, List.getElem?_cons_succ, List.set_cons_zero, List.set_cons_succ, Option.map_some, List.any_cons, List.any_nil, decide_true, decide_false, bne_self_eq_false, y_int_non, y_int_bl, y_int_int, y_int_str, y_int_tup, y_int_lst, y_int_scr, y_str_non, y_str_bl, y_str_int, y_str_str, y_str_tup, y_str_lst, y_str_scr, y_bool_non, y_bool_bl, y_bool_int, y_bool_str, y_bool_tup, y_bool_lst, y_bool_scr, y_tuple_non, y_tuple_bl, y_tuple_int, y_tuple_str, y_tuple_tup, y_tuple_lst, y_tuple_scr, y_list_non, y_list_bl, y_list_int, y_list_str, y_list_tup, y_list_lst, y_list_scr]
    exact ⟨_, _, rfl, h2⟩
  · simp -implicitDefEqProofs only [start_eq, List.map_cons, List.map_nil, List.replicate_zero, List.replicate_succ, Nat.sub_self, List.append_nil, List.nil_append, List.cons_append, if_true, if_false, Bool.false_eq_true, Bool.true_eq_false, reduceIte, ite_true, ite_false, and_self, and_true, true_and, Bool.not_true, Bool.not_false, Bool.and_true, Bool.true_and, Bool.and_false, Bool.false_and, Bool.or_true, Bool.true_or, Bool.or_false, Bool.false_or, o_addI, o_addS, o_sub, o_mul, o_fdiv, o_mod, o_pow, v_non, v_bl, v_int, v_str, v_tup, v_lst, v_scr, q_str, q_int, q_bl, q_non, c_eq, c_ne, c_ltI, c_leI, c_gtI, c_geI, c_ltS, c_leS, c_inn, c_nin, i_lst, i_tup, i_str, x_lst, x_tup, x_str, l_lst, l_str, l_scr, mk_f, mk_t, n_lenL, n_lenT, n_lenS, n_isi, n_intI, n_intS, n_str, n_ord, n_all, n_any, n_tup, n_list, n_set, sq_lst, sq_tup, m_join, m_dbl, k_join, k_dbl, d_bl, d_not, d_int, u_bl, p_non, p_bl, p_int, p_str, p_tup, p_lst, it_lst, it_tup, it_str, it_rng, e_var, e_con, e_glo, e_tup, e_lst, e_dnew, e_dlit, e_bin, e_cat, e_neg, e_cmp, e_isn, e_chain, e_and, e_or, e_not, e_ite, e_idx, e_slc, e_att, e_call, e_mth, e_mak, e_bi, e_bm, es_nil, es_cons, ep_nil, ep_cons, t_and, t_or, t_not, t_cmp, t_isn, t_chain, t_var, t_call, t_mth, t_bi, t_idx, eAnd_1, eAnd_2, eOr_1, eOr_2, tAnd_1, tAnd_2, tOr_1, tOr_2, x_pass, x_seq, x_ex, x_asgN, x_asgT, sT_nm, sT_tup, sT_lst, sTs_nil, sTs_nm, x_ret, x_ret0, x_ite, x_brk, x_cnt, b_ok, b_some, b_someH, bs_ok, List.getElem?_cons_zero, List.getElem?_cons_succ, List.set_cons_zero, List.set_cons_succ, Option.map_some, List.any_cons, List.any_nil, decide_true, decide_false, bne_self_eq_false, y_int_non, y_int_bl, y_int_int, y_int_str, y_int_tup, y_int_lst, y_int_scr, y_str_non, y_str_bl, y_str_int, y_str_str, y_str_tup, y_str_lst, y_str_scr, y_bool_non, y_bool_bl, y_bool_int, y_bool_str, y_bool_tup, y_bool_lst, y_bool_scr, y_tuple_non, y_tuple_bl, y_tuple_int, y_tuple_str, y_tuple_tup, y_tuple_lst, y_tuple_scr, y_list_non, y_list_bl, y_list_int, y_list_str, y_list_tup, y_list_lst, y_list_scr, hb, decide_false, x_fr, show -(2 ^ 62) ≤ (4 : Int) ∧ (4 : Int) < 2 ^ 62 by decide]
    obtain ⟨σ', H', h1, h2⟩ := for_inv (all := (List.range (Int.toNat 4)).map fun i => D.int (i : Nat)) (t := .nm 4) (b := fun σ H => evS (callF PP k) PP.glob b_law_numbers_l2 σ H) (fun i : Nat => D.int (i : Nat))
      (fun r σ A => r.length ≤ 4 ∧ (∀ i ∈ r, i < 4) ∧ ∃ (row : List Int) (x3 x4 x5 : Option D), σ = [some (.scr ns), some (.ref H.length), some (.int cell), x3, x4, x5] ∧ A = H ++ [.lst (row.map .int)] ∧ (∀ x ∈ row, 0 ≤ x ∧ x < 2147483648) ∧ row.length ≤ m + (4 - r.length))
      (NumI H ns (m + 60)) (fun σ A ⟨_, _, row, x3, x4, x5, h1, h2, h3, h4⟩ => ⟨row, _, _, _, _, h1, h2, h3, by simp at h4; omega⟩) (by
        rintro i r σ A ⟨hn, hi, row, x3, x4, x5, rfl, rfl, hr, hl⟩
        rw [List.length_cons] at hn hl
        have hi0 := hi i List.mem_cons_self
        refine ⟨_, rfl, ?_⟩
        obtain ⟨x5', row', e, q1, q2⟩ := c_num2 k (H := H) (ns := ns) (m := m + (4 - (r.length + 1))) (by omega) (x3 := x3) (x5 := x5) (kk := (i : Nat)) hc (by omega) hr hl
        exact ⟨_, _, .inl ⟨.inl e, by omega, fun j hj => hi j (List.mem_cons_of_mem _ hj), row', _, _, _, rfl, rfl, q1, by omega⟩⟩)
      (List.range (Int.toNat 4)) _ _ ⟨by rw [List.length_range]; decide, fun i hi => by rw [List.mem_range] at hi; exact hi, row, x3, x4, x5, rfl, rfl, hr, by omega⟩
    rw [h1]
    simp -implicitDefEqProofs only [start_eq, List.map_cons, List.map_nil, List.replicate_zero, List.replicate_succ, Nat.sub_self, List.append_nil, List.nil_append, List.cons_append, if_true, if_false, Bool.false_eq_true, Bool.true_eq_false, reduceIte, ite_true, ite_false, and_self, and_true, true_and, Bool.not_true, Bool.not_false, Bool.and_true, Bool.true_and, Bool.and_false, Bool.false_and, Bool.or_true, Bool.true_or, Bool.or_false, Bool.false_or, o_addI, o_addS, o_sub, o_mul, o_fdiv, o_mod, o_pow, v_non, v_bl, v_int, v_str, v_tup, v_lst, v_scr, q_str, q_int, q_bl, q_non, c_eq, c_ne, c_ltI, c_leI, c_gtI, c_geI, c_ltS, c_leS, c_inn, c_nin, i_lst, i_tup, i_str, x_lst, x_tup, x_str, l_lst, l_str, l_scr, mk_f, mk_t, n_lenL, n_lenT, n_lenS, n_isi, n_intI, n_intS, n_str, n_ord, n_all, n_any, n_tup, n_list, n_set, sq_lst, sq_tup, m_join, m_dbl, k_join, k_dbl, d_bl, d_not, d_int, u_bl, p_non, p_bl, p_int, p_str, p_tup, p_lst, it_lst, it_tup, it_str, it_rng, e_var, e_con, e_glo, e_tup, e_lst, e_dnew, e_dlit, e_bin, e_cat, e_neg, e_cmp, e_isn, e_chain, e_and, e_or, e_not, e_ite, e_idx, e_slc, e_att, e_call, e_mth, e_mak, e_bi, e_bm, es_nil, es_cons, ep_nil, ep_cons, t_and, t_or, t_not, t_cmp, t_isn, t_chain, t_var, t_call, t_mth, t_bi, t_idx, eAnd_1, eAnd_2, eOr_1, eOr_2, tAnd_1, tAnd_2, tOr_1, tOr_2, x_pass, x_seq, x_ex, x_asgN, x_asgT, sT_nm, sT_tup, sT_lst, sTs_nil, sTs_nm, x_ret, x_ret0, x_ite, x_brk, x_cnt, b_ok, b_some, b_someH, bs_ok, List.getElem?_cons_zero, List.getElem?_cons_succ, List.set_cons_zero, List.set_cons_succ, Option.map_some, List.any_cons, List.any_nil, decide_true, decide_false, bne_self_eq_false, y_int_non, y_int_bl, y_int_int, y_int_str, y_int_tup, y_int_lst, y_int_scr, y_str_non, y_str_bl, y_str_int, y_str_str, y_str_tup, y_str_lst, y_str_scr, y_bool_non, y_bool_bl, y_bool_int, y_bool_str, y_bool_tup, y_bool_lst, y_bool_scr, y_tuple_non, y_tuple_bl, y_tuple_int, y_tuple_str, y_tuple_tup, y_tuple_lst, y_tuple_scr, y_list_non, y_list_bl, y_list_int, y_list_str, y_list_tup, y_list_lst, y_list_scr]
    exact ⟨_, _, rfl, h2⟩
theorem c_numbers (k : Nat) (ns : List Int) (hb : ∀ z ∈ ns, Builtin.Int.intBits z ≤ 1048576) (hl : ns.length ≤ 63) (H : AH) : ∃ row, Row row ∧ callF PP (k + 1) (.fn 1) [.scr ns] H = .ok (.lst (row.map .int)) H := by
  rw [call_fn (fi := ⟨1, 6, true, b_law_numbers⟩) rfl rfl]
  unfold b_law_numbers
  simp -implicitDefEqProofs only [start_eq, List.map_cons, List.map_nil, List.replicate_zero, List.replicate_succ, Nat.sub_self, List.append_nil, List.nil_append, List.cons_append, if_true, if_false, Bool.false_eq_true, Bool.true_eq_false, reduceIte, ite_true, ite_false, and_self, and_true, true_and, Bool.not_true, Bool.not_false, Bool.and_true, Bool.true_and, Bool.and_false, Bool.false_and, Bool.or_true, Bool.true_or, Bool.or_false, Bool.false_or, o_addI, o_addS, o_sub, o_mul, o_fdiv, o_mod, o_pow, v_non, v_bl, v_int, v_str, v_tup, v_lst, v_scr, q_str, q_int, q_bl, q_non, c_eq, c_ne, c_ltI, c_leI, c_gtI, c_geI, c_ltS, c_leS, c_inn, c_nin, i_lst, i_tup, i_str, x_lst, x_tup, x_str, l_lst, l_str, l_scr, mk_f, mk_t, n_lenL, n_lenT, n_lenS, n_isi, n_intI, n_intS, n_str, n_ord, n_all, n_any, n_tup, n_list, n_set, sq_lst, sq_tup, m_join, m_dbl, k_join, k_dbl, d_bl, d_not, d_int, u_bl, p_non, p_bl, p_int, p_str, p_tup, p_lst, it_lst, it_tup, it_str, it_rng, e_var, e_con, e_glo, e_tup, e_lst, e_dnew, e_dlit, e_bin, e_cat, e_neg, e_cmp, e_isn, e_chain, e_and, e_or, e_not, e_ite, e_idx, e_slc, e_att, e_call, e_mth, e_mak, e_bi, e_bm, es_nil, es_cons, ep_nil, ep_cons, t_and, t_or, t_not, t_cmp, t_isn, t_chain, t_var, t_call, t_mth, t_bi, t_idx, eAnd_1, eAnd_2, eOr_1, eOr_2, tAnd_1, tAnd_2, tOr_1, tOr_2, x_pass, x_seq, x_ex, x_asgN, x_asgT, sT_nm, sT_tup, sT_lst, sTs_nil, sTs_nm, x_ret, x_ret0, x_ite, x_brk, x_cnt, b_ok, b_some, b_someH, bs_ok, List.getElem?_cons_zero, List.getElem?_cons_succ, List.set_cons_zero, List.set_cons_succ, Option.map_some, List.any_cons, List.any_nil, decide_true, decide_false, bne_self_eq_false, y_int_non, y_int_bl, y_int_int, y_int_str, y_int_tup, y_int_lst, y_int_scr, y_str_non, y_str_bl, y_str_int, y_str_str, y_str_tup, y_str_lst, y_str_scr, y_bool_non, y_bool_bl, y_bool_int, y_bool_str, y_bool_tup, y_bool_lst, y_bool_scr, y_tuple_non, y_tuple_bl, y_tuple_int, y_tuple_str, y_tuple_tup, y_tuple_lst, y_tuple_scr, y_list_non, y_list_bl, y_list_int, y_list_str, y_list_tup, y_list_lst, y_list_scr, x_fr]
  obtain ⟨σ', H', h1, row, x2, x3, x4, x5, rfl, rfl, hr, _⟩ := for_inv (all := (cutL ns none (some 63)).map .int) (t := .nm 2) (b := fun σ H => evS (callF PP k) PP.glob b_law_numbers_l3 σ H) D.int
    (fun r σ A => r.length ≤ 63 ∧ (∀ z ∈ r, Builtin.Int.intBits z ≤ 1048576) ∧ NumI H ns (60 * (63 - r.length)) σ A)
    (NumI H ns (60 * 63)) (fun σ A ⟨_, _, row, x2, x3, x4, x5, h1, h2, h3, h4⟩ => ⟨row, x2, x3, x4, x5, h1, h2, h3, by simpa using h4⟩) (by
      rintro x r σ A ⟨hn, hz, row, x2, x3, x4, x5, rfl, rfl, hr, hl⟩
      rw [List.length_cons] at hn hl
      refine ⟨_, rfl, ?_⟩
      obtain ⟨σ2, H2, e, row', y2, y3, y4, y5, h1, h2, h3, h4⟩ := c_num3 k (H := H) (ns := ns) (m := 60 * (63 - (r.length + 1))) (by omega) (x3 := x3) (x4 := x4) (x5 := x5) (hz x List.mem_cons_self) hr hl
      exact ⟨σ2, H2, .inl ⟨.inl e, by omega, fun z h => hz z (List.mem_cons_of_mem _ h), row', y2, y3, y4, y5, h1, h2, h3, by omega⟩⟩)
    (cutL ns none (some 63)) [some (.scr ns), some (.ref H.length), none, none, none, none] (H ++ [.lst []])
    ⟨Nat.le_trans cutL_len hl, fun z hz => hb z (cutL_mem hz), [], none, none, none, none, rfl, rfl, by simp, by simp⟩
  rw [h1]
  have hlast : ∀ row : List Int, retract true H (H ++ [.lst (row.map .int)]) (.ref H.length) = .ok (.lst (row.map .int)) H := fun row => ret_new (Nat.le_refl _) (get_last H _) (lows_ints _ row)
  simp -implicitDefEqProofs only [start_eq, List.map_cons, List.map_nil, List.replicate_zero, List.replicate_succ, Nat.sub_self, List.append_nil, List.nil_append, List.cons_append, if_true, if_false, Bool.false_eq_true, Bool.true_eq_false, reduceIte, ite_true, ite_false, and_self, and_true, true_and, Bool.not_true, Bool.not_false, Bool.and_true, Bool.true_and, Bool.and_false, Bool.false_and, Bool.or_true, Bool.true_or, Bool.or_false, Bool.false_or, o_addI, o_addS, o_sub, o_mul, o_fdiv, o_mod, o_pow, v_non, v_bl, v_int, v_str, v_tup, v_lst, v_scr, q_str, q_int, q_bl, q_non, c_eq, c_ne, c_ltI, c_leI, c_gtI, c_geI, c_ltS, c_leS, c_inn, c_nin, i_lst, i_tup, i_str, x_lst, x_tup, x_str, l_lst, l_str, l_scr, mk_f, mk_t, n_lenL, n_lenT, n_lenS, n_isi, n_intI, n_intS, n_str, n_ord, n_all, n_any, n_tup, n_list, n_set, sq_lst, sq_tup, m_join, m_dbl, k_join, k_dbl, d_bl, d_not, d_int, u_bl, p_non, p_bl, p_int, p_str, p_tup, p_lst, it_lst, it_tup, it_str, it_rng, e_var, e_con, e_glo, e_tup, e_lst, e_dnew, e_dlit, e_bin, e_cat, e_neg, e_cmp, e_isn, e_chain, e_and, e_or, e_not, e_ite, e_idx, e_slc, e_att, e_call, e_mth, e_mak, e_bi, e_bm, es_nil, es_cons, ep_nil, ep_cons, t_and, t_or, t_not, t_cmp, t_isn, t_chain, t_var, t_call, t_mth, t_bi, t_idx, eAnd_1, eAnd_2, eOr_1, eOr_2, tAnd_1, tAnd_2, tOr_1, tOr_2, x_pass, x_seq, x_ex, x_asgN, x_asgT, sT_nm, sT_tup, sT_lst, sTs_nil, sTs_nm, x_ret, x_ret0, x_ite, x_brk, x_cnt, b_ok, b_some, b_someH, bs_ok, List.getElem?_cons_zero, List.getElem?_cons_succ, List.set_cons_zero, List.set_cons_succ, Option.map_some, List.any_cons, List.any_nil, decide_true, decide_false, bne_self_eq_false, y_int_non, y_int_bl, y_int_int, y_int_str, y_int_tup, y_int_lst, y_int_scr, y_str_non, y_str_bl, y_str_int, y_str_str, y_str_tup, y_str_lst, y_str_scr, y_bool_non, y_bool_bl, y_bool_int, y_bool_str, y_bool_tup, y_bool_lst, y_bool_scr, y_tuple_non, y_tuple_bl, y_tuple_int, y_tuple_str, y_tuple_tup, y_tuple_lst, y_tuple_scr, y_list_non, y_list_bl, y_list_int, y_list_str, y_list_tup, y_list_lst, y_list_scr, len_at (get_last H _), List.length_map]
  by_cases h0 : (row.length : Int) = 0
  · have hrow : row = [] := List.eq_nil_of_length_eq_zero (by omega)
    subst hrow
    refine ⟨[0], ⟨by simp, by simp⟩, ?_⟩
    simp -implicitDefEqProofs only [start_eq, List.map_cons, List.map_nil, List.replicate_zero, List.replicate_succ, Nat.sub_self, List.append_nil, List.nil_append, List.cons_append, if_true, if_false, Bool.false_eq_true, Bool.true_eq_false, reduceIte, ite_true, ite_false, and_self, and_true, true_and, Bool.not_true, Bool.not_false, Bool.and_true, Bool.true_and, Bool.and_false, Bool.false_and, Bool.or_true, Bool.true_or, Bool.or_false, Bool.false_or, o_addI, o_addS, o_sub, o_mul, o_fdiv, o_mod, o_pow, v_non, v_bl, v_int, v_str, v_tup, v_lst, v_scr, q_str, q_int, q_bl, q_non, c_eq, c_ne, c_ltI, c_leI, c_gtI, c_geI, c_ltS, c_leS, c_inn, c_nin, i_lst, i_tup, i_str, x_lst, x_tup, x_str, l_lst, l_str, l_scr, mk_f, mk_t, n_lenL, n_lenT, n_lenS, n_isi, n_intI, n_intS, n_str, n_ord, n_all, n_any, n_tup, n_list, n_set, sq_lst, sq_tup, m_join, m_dbl, k_join, k_dbl, d_bl, d_not, d_int, u_bl, p_non, p_bl, p_int, p_str, p_tup, p_lst, it_lst, it_tup, it_str, it_rng, e_var, e_con, e_glo, e_tup, e_lst, e_dnew, e_dlit, e_bin, e_cat, e_neg, e_cmp, e_isn, e_chain, e_and, e_or, e_not, e_ite, e_idx, e_slc, e_att, e_call, e_mth, e_mak, e_bi, e_bm, es_nil, es_cons, ep_nil, ep_cons, t_and, t_or, t_not, t_cmp, t_isn, t_chain, t_var, t_call, t_mth, t_bi, t_idx, eAnd_1, eAnd_2, eOr_1, eOr_2, tAnd_1, tAnd_2, tOr_1, tOr_2, x_pass, x_seq, x_ex, x_asgN, x_asgT, sT_nm, sT_tup, sT_lst, sTs_nil, sTs_nm, x_ret, x_ret0, x_ite, x_brk, x_cnt, b_ok, b_some, b_someH, bs_ok, List.getElem?_cons_zero, List.getElem?_cons_succ, List.set_cons_zero, List.set_cons_succ, Option.map_some, List.any_cons, List.any_nil, decide_true, decide_false, bne_self_eq_false, y_int_non, y_int_bl, y_int_int, y_int_str, y_int_tup, y_int_lst, y_int_scr, y_str_non, y_str_bl, y_str_int, y_str_str, y_str_tup, y_str_lst, y_str_scr, y_bool_non, y_bool_bl, y_bool_int, y_bool_str, y_bool_tup, y_bool_lst, y_bool_scr, y_tuple_non, y_tuple_bl, y_tuple_int, y_tuple_str, y_tuple_tup, y_tuple_lst, y_tuple_scr, y_list_non, y_list_bl, y_list_int, y_list_str, y_list_tup, y_list_lst, y_list_scr, h0, decide_true, bmOk_append (get_last H _), bm_append (get_last H (AO.lst [])) (by rw [sizeLine_eq]; decide), set_last]
    exact hlast [0]
  · refine ⟨row, ⟨fun h => h0 (by rw [h]; rfl), hr⟩, ?_⟩
    simp -implicitDefEqProofs only [start_eq, List.map_cons, List.map_nil, List.replicate_zero, List.replicate_succ, Nat.sub_self, List.append_nil, List.nil_append, List.cons_append, if_true, if_false, Bool.false_eq_true, Bool.true_eq_false, reduceIte, ite_true, ite_false, and_self, and_true, true_and, Bool.not_true, Bool.not_false, Bool.and_true, Bool.true_and, Bool.and_false, Bool.false_and, Bool.or_true, Bool.true_or, Bool.or_false, Bool.false_or, o_addI, o_addS, o_sub, o_mul, o_fdiv, o_mod, o_pow, v_non, v_bl, v_int, v_str, v_tup, v_lst, v_scr, q_str, q_int, q_bl, q_non, c_eq, c_ne, c_ltI, c_leI, c_gtI, c_geI, c_ltS, c_leS, c_inn, c_nin, i_lst, i_tup, i_str, x_lst, x_tup, x_str, l_lst, l_str, l_scr, mk_f, mk_t, n_lenL, n_lenT, n_lenS, n_isi, n_intI, n_intS, n_str, n_ord, n_all, n_any, n_tup, n_list, n_set, sq_lst, sq_tup, m_join, m_dbl, k_join, k_dbl, d_bl, d_not, d_int, u_bl, p_non, p_bl, p_int, p_str, p_tup, p_lst, it_lst, it_tup, it_str, it_rng, e_var, e_con, e_glo, e_tup, e_lst, e_dnew, e_dlit, e_bin, e_cat, e_neg, e_cmp, e_isn, e_chain, e_and, e_or, e_not, e_ite, e_idx, e_slc, e_att, e_call, e_mth, e_mak, e_bi, e_bm, es_nil, es_cons, ep_nil, ep_cons, t_and, t_or, t_not, t_cmp, t_isn, t_chain, t_var, t_call, t_mth, t_bi, t_idx, eAnd_1, eAnd_2, eOr_1, eOr_2, tAnd_1, tAnd_2, tOr_1, tOr_2, x_pass, x_seq, x_ex, x_asgN, x_asgT, sT_nm, sT_tup, sT_lst, sTs_nil, sTs_nm, x_ret, x_ret0, x_ite, x_brk, x_cnt, b_ok, b_some, b_someH, bs_ok, List.getElem?_cons_zero, List.getElem?_cons_succ, List.set_cons_zero, List.set_cons_succ, Option.map_some, List.any_cons, List.any_nil, decide_true, decide_false, bne_self_eq_false, y_int_non, y_int_bl, y_int_int, y_int_str, y_int_tup, y_int_lst, y_int_scr, y_str_non, y_str_bl, y_str_int, y_str_str, y_str_tup, y_str_lst, y_str_scr, y_bool_non, y_bool_bl, y_bool_int, y_bool_str, y_bool_tup, y_bool_lst, y_bool_scr, y_tuple_non, y_tuple_bl, y_tuple_int, y_tuple_str, y_tuple_tup, y_tuple_lst, y_tuple_scr, y_list_non, y_list_bl, y_list_int, y_list_str, y_list_tup, y_list_lst, y_list_scr, h0, decide_false]
    exact hlast row
end K00
end

section
set_option Elab.async false
set_option linter.all false
set_option maxRecDepth 100000
namespace K00
open Ev PySem
/-! ### the same value -/
mutual
def sok : D → Bool
  | .non => true
  | .bl _ => true
  | .int _ => true
  | .str _ => true
  | .tup xs => decide (xs.length ≤ sizeLine) && soks xs
  | _ => false
def soks : List D → Bool
  | [] => true
  | x :: xs => sok x && soks xs
end
mutual
def dep : D → Nat
  | .tup xs => deps xs + 1
  | _ => 0
def deps : List D → Nat
  | [] => 0
  | x :: xs => max (dep x) (deps xs)
end
theorem dep_mem : ∀ {xs : List D} {x : D}, x ∈ xs → dep x ≤ deps xs
  | y :: ys, x, h => by
    rw [deps]
    rcases List.mem_cons.mp h with h | h
    · subst h; omega
    · have := dep_mem h; omega
theorem sok_mem : ∀ {xs : List D} {x : D}, soks xs = true → x ∈ xs → sok x = true
  | y :: ys, x, h, hm => by
    rw [soks] at h
    have ⟨h1, h2⟩ := and_t h
    rcases List.mem_cons.mp hm with hm | hm
    · subst hm; exact h1
    · exact sok_mem h2 hm
theorem isNon_of {d : D} (h : d ≠ .non) : isNon d = false := by cases d <;> first | rfl | exact absurd rfl h
theorem n_non : isNon .non = true := rfl
theorem n_int (i : Int) : isNon (.int i) = false := rfl
theorem n_bl (i : Bool) : isNon (.bl i) = false := rfl
theorem n_strN (i : Tx) : isNon (.str i) = false := rfl
theorem n_tupN (i : List D) : isNon (.tup i) = false := rfl
theorem c_so (k : Nat) : ∀ (n : Nat) (d : D), dep d ≤ n → sok d = true → ∀ H : AH, callF PP (k + n + 1) (.fn 0) [d, d] H = .ok (.bl true) H := by
  intro n
  induction n with
  | zero =>
    intro d hd hs H
    cases d with
    | tup xs => rw [dep] at hd; omega
    | lst xs => cases (show false = true from hs)
    | ref xs => cases (show false = true from hs)
    | scr xs => cases (show false = true from hs)
    | _ =>
      rw [call_fn (fi := ⟨2, 3, true, b_law_so⟩) rfl rfl]
      unfold b_law_so
      simp -implicitDefEqProofs only [start_eq, List.map_cons, List.map_nil, List.replicate_zero, List.replicate_succ, Nat.sub_self, List.append_nil, List.nil_append, List.cons_append, if_true, if_false, Bool.false_eq_true, Bool.true_eq_false, reduceIte, ite_true, ite_false, and_self, and_true, true_and, Bool.not_true, Bool.not_false, Bool.and_true, Bool.true_and, Bool.and_false, Bool.false_and, Bool.or_true, Bool.true_or, Bool.or_false, Bool.false_or, o_addI, o_addS, o_sub, o_mul, o_fdiv, o_mod, o_pow, v_non, v_bl, v_int, v_str, v_tup, v_lst, v_scr, q_str, q_int, q_bl, q_non, c_eq, c_ne, c_ltI, c_leI, c_gtI, c_geI, c_ltS, c_leS, c_inn, c_nin, i_lst, i_tup, i_str, x_lst, x_tup, x_str, l_lst, l_str, l_scr, mk_f, mk_t, n_lenL, n_lenT, n_lenS, n_isi, n_intI, n_intS, n_str, n_ord, n_all, n_any, n_tup, n_list, n_set, sq_lst, sq_tup, m_join, m_dbl, k_join, k_dbl, d_bl, d_not, d_int, u_bl, p_non, p_bl, p_int, p_str, p_tup, p_lst, it_lst, it_tup, it_str, it_rng, e_var, e_con, e_glo, e_tup, e_lst, e_dnew, e_dlit, e_bin, e_cat, e_neg, e_cmp, e_isn, e_chain, e_and, e_or, e_not, e_ite, e_idx, e_slc, e_att, e_call, e_mth, e_mak, e_bi, e_bm, es_nil, es_cons, ep_nil, ep_cons, t_and, t_or, t_not, t_cmp, t_isn, t_chain, t_var, t_call, t_mth, t_bi, t_idx, eAnd_1, eAnd_2, eOr_1, eOr_2, tAnd_1, tAnd_2, tOr_1, tOr_2, x_pass, x_seq, x_ex, x_asgN, x_asgT, sT_nm, sT_tup, sT_lst, sTs_nil, sTs_nm, x_ret, x_ret0, x_ite, x_brk, x_cnt, b_ok, b_some, b_someH, bs_ok, List.getElem?_cons_zero, List.getElem?_cons_succ, List.set_cons_zero, List.set_cons_succ, Option.map_some, List.any_cons, List.any_nil, decide_true, decide_false, bne_self_eq_false, y_int_non, y_int_bl, y_int_int, y_int_str, y_int_tup, y_int_lst, y_int_scr, y_str_non, y_str_bl, y_str_int, y_str_str, y_str_tup, y_str_lst, y_str_scr, y_bool_non, y_bool_bl, y_bool_int, y_bool_str, y_bool_tup, y_bool_lst, y_bool_scr, y_tuple_non, y_tuple_bl, y_tuple_int, y_tuple_str, y_tuple_tup, y_tuple_lst, y_tuple_scr, y_list_non, y_list_bl, y_list_int, y_list_str, y_list_tup, y_list_lst, y_list_scr, n_non, n_int, n_bl, n_strN, show (false != true) = true from rfl, show (false != false) = false from rfl, fin_rt]
  | succ n ih =>
    intro d hd hs H
    cases d with
    | lst xs => cases (show false = true from hs)
    | ref xs => cases (show false = true from hs)
    | scr xs => cases (show false = true from hs)
    | tup xs =>
      rw [dep] at hd
      rw [sok] at hs
      have ⟨h1, h2⟩ := and_t hs
      have h1 := of_decide_eq_true h1
      rw [sizeLine_eq] at h1
      rw [show k + (n + 1) + 1 = k + n + 1 + 1 by omega, call_fn (fi := ⟨2, 3, true, b_law_so⟩) rfl rfl]
      unfold b_law_so
      have hr : -(2 ^ 62) ≤ (xs.length : Int) ∧ (xs.length : Int) < 2 ^ 62 := ⟨by omega, by omega⟩
      simp -implicitDefEqProofs only [start_eq, List.map_cons, List.map_nil, List.replicate_zero, List.replicate_succ, Nat.sub_self, List.append_nil, List.nil_append, List.cons_append, if_true, if_false, Bool.false_eq_true, Bool.true_eq_false, reduceIte, ite_true, ite_false, and_self, and_true, true_and, Bool.not_true, Bool.not_false, Bool.and_true, Bool.true_and, Bool.and_false, Bool.false_and, Bool.or_true, Bool.true_or, Bool.or_false, Bool.false_or, o_addI, o_addS, o_sub, o_mul, o_fdiv, o_mod, o_pow, v_non, v_bl, v_int, v_str, v_tup, v_lst, v_scr, q_str, q_int, q_bl, q_non, c_eq, c_ne, c_ltI, c_leI, c_gtI, c_geI, c_ltS, c_leS, c_inn, c_nin, i_lst, i_tup, i_str, x_lst, x_tup, x_str, l_lst, l_str, l_scr, mk_f, mk_t, n_lenL, n_lenT, n_lenS, n_isi, n_intI, n_intS, n_str, n_ord, n_all, n_any, n_tup, n_list, n_set, sq_lst, sq_tup, m_join, m_dbl, k_join, k_dbl, d_bl, d_not, d_int, u_bl, p_non, p_bl, p_int, p_str, p_tup, p_lst, it_lst, it_tup, it_str, it_rng, e_var, e_con, e_glo, e_tup, e_lst, e_dnew, e_dlit, e_bin, e_cat, e_neg, e_cmp, e_isn, e_chain, e_and, e_or, e_not, e_ite, e_idx, e_slc, e_att, e_call, e_mth, e_mak, e_bi, e_bm, es_nil, es_cons, ep_nil, ep_cons, t_and, t_or, t_not, t_cmp, t_isn, t_chain, t_var, t_call, t_mth, t_bi, t_idx, eAnd_1, eAnd_2, eOr_1, eOr_2, tAnd_1, tAnd_2, tOr_1, tOr_2, x_pass, x_seq, x_ex, x_asgN, x_asgT, sT_nm, sT_tup, sT_lst, sTs_nil, sTs_nm, x_ret, x_ret0, x_ite, x_brk, x_cnt, b_ok, b_some, b_someH, bs_ok, List.getElem?_cons_zero, List.getElem?_cons_succ, List.set_cons_zero, List.set_cons_succ, Option.map_some, List.any_cons, List.any_nil, decide_true, decide_false, bne_self_eq_false, y_int_non, y_int_bl, y_int_int, y_int_str, y_int_tup, y_int_lst, y_int_scr, y_str_non, y_str_bl, y_str_int, y_str_str, y_str_tup, y_str_lst, y_str_scr, y_bool_non, y_bool_bl, y_bool_int, y_bool_str, y_bool_tup, y_bool_lst, y_bool_scr, y_tuple_non, y_tuple_bl, y_tuple_int, y_tuple_str, y_tuple_tup, y_tuple_lst, y_tuple_scr, y_list_non, y_list_bl, y_list_int, y_list_str, y_list_tup, y_list_lst, y_list_scr, n_tupN, show (false != false) = false from rfl, show (!true) = false from rfl, x_fr, hr]
      obtain ⟨σ', H', e1, x2, e2, e3⟩ := for_inv (all := (List.range (Int.toNat xs.length)).map fun i => D.int (i : Nat)) (t := .nm 2) (b := fun σ H => evS (callF PP (k + n + 1)) PP.glob b_law_so_l1 σ H) (fun i : Nat => D.int (i : Nat))
        (fun r σ A => (∀ i ∈ r, i < xs.length) ∧ ∃ x2, σ = [some (.tup xs), some (.tup xs), x2] ∧ A = H) (fun σ A => ∃ x2, σ = [some (.tup xs), some (.tup xs), x2] ∧ A = H) (fun σ A h => h.2) (by
          rintro i r σ A ⟨hi, x2, rfl, rfl⟩
          refine ⟨_, rfl, [some (.tup xs), some (.tup xs), some (.int (i : Nat))], A, .inl ⟨.inl ?_, fun j hj => hi j (List.mem_cons_of_mem _ hj), _, rfl, rfl⟩⟩
          have hx : xs[i]? = some (xs[i]'(hi i List.mem_cons_self)) := List.getElem?_eq_getElem _
          have hm : xs[i]'(hi i List.mem_cons_self) ∈ xs := List.getElem_mem _
          have e := ih _ (Nat.le_trans (dep_mem hm) (by omega)) (sok_mem h2 hm) A
          unfold b_law_so_l1
          simp -implicitDefEqProofs only [start_eq, List.map_cons, List.map_nil, List.replicate_zero, List.replicate_succ, Nat.sub_self, List.append_nil, List.nil_append, List.cons_append, if_true, if_false, Bool.false_eq_true, Bool.true_eq_false, reduceIte, ite_true, ite_false, and_self, and_true, true_and, Bool.not_true, Bool.not_false, Bool.and_true, Bool.true_and, Bool.and_false, Bool.false_and, Bool.or_true, Bool.true_or, Bool.or_false, Bool.false_or, o_addI, o_addS, o_sub, o_mul, o_fdiv, o_mod, o_pow, v_non, v_bl, v_int, v_str, v_tup, v_lst, v_scr, q_str, q_int, q_bl, q_non, c_eq, c_ne, c_ltI, c_leI, c_gtI, c_geI, c_ltS, c_leS, c_inn, c_nin, i_lst, i_tup, i_str, x_lst, x_tup, x_str, l_lst, l_str, l_scr, mk_f, mk_t, n_lenL, n_lenT, n_lenS, n_isi, n_intI, n_intS, n_str, n_ord, n_all, n_any, n_tup, n_list, n_set, sq_lst, sq_tup, m_join, m_dbl, k_join, k_dbl, d_bl, d_not, d_int, u_bl, p_non, p_bl, p_int, p_str, p_tup, p_lst, it_lst, it_tup, it_str, it_rng, e_var, e_con, e_glo, e_tup, e_lst, e_dnew, e_dlit, e_bin, e_cat, e_neg, e_cmp, e_isn, e_chain, e_and, e_or, e_not, e_ite, e_idx, e_slc, e_att, e_call, e_mth, e_mak, e_bi, e_bm, es_nil, es_cons, ep_nil, ep_cons, t_and, t_or, t_not, t_cmp, t_isn, t_chain, t_var, t_call, t_mth, t_bi, t_idx, eAnd_1, eAnd_2, eOr_1, eOr_2, tAnd_1, tAnd_2, tOr_1, tOr_2, x_pass, x_seq, x_ex, x_asgN, x_asgT, sT_nm, sT_tup, sT_lst, sTs_nil, sTs_nm, x_ret, x_ret0, x_ite, x_brk, x_cnt, b_ok, b_some, b_someH, bs_ok, List.getElem?_cons_zero, List.getElem?_cons_succ, List.set_cons_zero, List.set_cons_succ, Option.map_some, List.any_cons, List.any_nil, decide_true, decide_false, bne_self_eq_false, y_int_non, y_int_bl, y_int_int, y_int_str, y_int_tup, y_int_lst, y_int_scr, y_str_non, y_str_bl, y_str_int, y_str_str, y_str_tup, y_str_lst, y_str_scr, y_bool_non, y_bool_bl, y_bool_int, y_bool_str, y_bool_tup, y_bool_lst, y_bool_scr, y_tuple_non, y_tuple_bl, y_tuple_int, y_tuple_str, y_tuple_tup, y_tuple_lst, y_tuple_scr, y_list_non, y_list_bl, y_list_int, y_list_str, y_list_tup, y_list_lst, y_list_scr, place_nat hx, e, show (!true) = false from rfl])
        (List.range (Int.toNat xs.length)) _ _ ⟨fun i hi => by simpa using hi, none, rfl, rfl⟩
      subst e2 e3
      rw [e1]
      simp -implicitDefEqProofs only [start_eq, List.map_cons, List.map_nil, List.replicate_zero, List.replicate_succ, Nat.sub_self, List.append_nil, List.nil_append, List.cons_append, if_true, if_false, Bool.false_eq_true, Bool.true_eq_false, reduceIte, ite_true, ite_false, and_self, and_true, true_and, Bool.not_true, Bool.not_false, Bool.and_true, Bool.true_and, Bool.and_false, Bool.false_and, Bool.or_true, Bool.true_or, Bool.or_false, Bool.false_or, o_addI, o_addS, o_sub, o_mul, o_fdiv, o_mod, o_pow, v_non, v_bl, v_int, v_str, v_tup, v_lst, v_scr, q_str, q_int, q_bl, q_non, c_eq, c_ne, c_ltI, c_leI, c_gtI, c_geI, c_ltS, c_leS, c_inn, c_nin, i_lst, i_tup, i_str, x_lst, x_tup, x_str, l_lst, l_str, l_scr, mk_f, mk_t, n_lenL, n_lenT, n_lenS, n_isi, n_intI, n_intS, n_str, n_ord, n_all, n_any, n_tup, n_list, n_set, sq_lst, sq_tup, m_join, m_dbl, k_join, k_dbl, d_bl, d_not, d_int, u_bl, p_non, p_bl, p_int, p_str, p_tup, p_lst, it_lst, it_tup, it_str, it_rng, e_var, e_con, e_glo, e_tup, e_lst, e_dnew, e_dlit, e_bin, e_cat, e_neg, e_cmp, e_isn, e_chain, e_and, e_or, e_not, e_ite, e_idx, e_slc, e_att, e_call, e_mth, e_mak, e_bi, e_bm, es_nil, es_cons, ep_nil, ep_cons, t_and, t_or, t_not, t_cmp, t_isn, t_chain, t_var, t_call, t_mth, t_bi, t_idx, eAnd_1, eAnd_2, eOr_1, eOr_2, tAnd_1, tAnd_2, tOr_1, tOr_2, x_pass, x_seq, x_ex, x_asgN, x_asgT, sT_nm, sT_tup, sT_lst, sTs_nil, sTs_nm, x_ret, x_ret0, x_ite, x_brk, x_cnt, b_ok, b_some, b_someH, bs_ok, List.getElem?_cons_zero, List.getElem?_cons_succ, List.set_cons_zero, List.set_cons_succ, Option.map_some, List.any_cons, List.any_nil, decide_true, decide_false, bne_self_eq_false, y_int_non, y_int_bl, y_int_int, y_int_str, y_int_tup, y_int_lst, y_int_scr, y_str_non, y_str_bl, y_str_int, y_str_str, y_str_tup, y_str_lst, y_str_scr, y_bool_non, y_bool_bl, y_bool_int, y_bool_str, y_bool_tup, y_bool_lst, y_bool_scr, y_tuple_non, y_tuple_bl, y_tuple_int, y_tuple_str, y_tuple_tup, y_tuple_lst, y_tuple_scr, y_list_non, y_list_bl, y_list_int, y_list_str, y_list_tup, y_list_lst, y_list_scr, fin_rt]
    | _ =>
      rw [call_fn (fi := ⟨2, 3, true, b_law_so⟩) rfl rfl]
      unfold b_law_so
      simp -implicitDefEqProofs only [start_eq, List.map_cons, List.map_nil, List.replicate_zero, List.replicate_succ, Nat.sub_self, List.append_nil, List.nil_append, List.cons_append, if_true, if_false, Bool.false_eq_true, Bool.true_eq_false, reduceIte, ite_true, ite_false, and_self, and_true, true_and, Bool.not_true, Bool.not_false, Bool.and_true, Bool.true_and, Bool.and_false, Bool.false_and, Bool.or_true, Bool.true_or, Bool.or_false, Bool.false_or, o_addI, o_addS, o_sub, o_mul, o_fdiv, o_mod, o_pow, v_non, v_bl, v_int, v_str, v_tup, v_lst, v_scr, q_str, q_int, q_bl, q_non, c_eq, c_ne, c_ltI, c_leI, c_gtI, c_geI, c_ltS, c_leS, c_inn, c_nin, i_lst, i_tup, i_str, x_lst, x_tup, x_str, l_lst, l_str, l_scr, mk_f, mk_t, n_lenL, n_lenT, n_lenS, n_isi, n_intI, n_intS, n_str, n_ord, n_all, n_any, n_tup, n_list, n_set, sq_lst, sq_tup, m_join, m_dbl, k_join, k_dbl, d_bl, d_not, d_int, u_bl, p_non, p_bl, p_int, p_str, p_tup, p_lst, it_lst, it_tup, it_str, it_rng, e_var, e_con, e_glo, e_tup, e_lst, e_dnew, e_dlit, e_bin, e_cat, e_neg, e_cmp, e_isn, e_chain, e_and, e_or, e_not, e_ite, e_idx, e_slc, e_att, e_call, e_mth, e_mak, e_bi, e_bm, es_nil, es_cons, ep_nil, ep_cons, t_and, t_or, t_not, t_cmp, t_isn, t_chain, t_var, t_call, t_mth, t_bi, t_idx, eAnd_1, eAnd_2, eOr_1, eOr_2, tAnd_1, tAnd_2, tOr_1, tOr_2, x_pass, x_seq, x_ex, x_asgN, x_asgT, sT_nm, sT_tup, sT_lst, sTs_nil, sTs_nm, x_ret, x_ret0, x_ite, x_brk, x_cnt, b_ok, b_some, b_someH, bs_ok, List.getElem?_cons_zero, List.getElem?_cons_succ, List.set_cons_zero, List.set_cons_succ, Option.map_some, List.any_cons, List.any_nil, decide_true, decide_false, bne_self_eq_false, y_int_non, y_int_bl, y_int_int, y_int_str, y_int_tup, y_int_lst, y_int_scr, y_str_non, y_str_bl, y_str_int, y_str_str, y_str_tup, y_str_lst, y_str_scr, y_bool_non, y_bool_bl, y_bool_int, y_bool_str, y_bool_tup, y_bool_lst, y_bool_scr, y_tuple_non, y_tuple_bl, y_tuple_int, y_tuple_str, y_tuple_tup, y_tuple_lst, y_tuple_scr, y_list_non, y_list_bl, y_list_int, y_list_str, y_list_tup, y_list_lst, y_list_scr, n_non, n_int, n_bl, n_strN, show (false != true) = true from rfl, show (false != false) = false from rfl, fin_rt]
end K00
end

section
set_option Elab.async false
set_option linter.all false
set_option maxRecDepth 100000
namespace K00
open Ev PySem
section
variable {F : CF} {G : List D} {σ : Sl} {H : AH}
theorem e_mk1 (hx : ∀ H, F (.xc 1) [] H = .ok .non H) (c f : Nat) (a : E) : evE F G (.mkx c [f] [f] (.cons a .nil)) σ H = bindR (evE F G a σ H) fun d H1 => .ok (.ref H1.length) (H1 ++ [.exo c [(f, d)]]) := by
  rw [e_mkx, hx, b_ok, es_cons]
  cases evE F G a σ H with
  | no => rfl
  | ex c fs A => rfl
  | ok d A => simp [es_nil, bindR, byName, getA, liftH]
theorem e_mk2 (hx : ∀ H, F (.xc 1) [] H = .ok .non H) (c f g : Nat) (hn : f ≠ g) (a b : E) : evE F G (.mkx c [f, g] [f, g] (.cons a (.cons b .nil))) σ H = bindR (evE F G a σ H) fun d H1 => bindR (evE F G b σ H1) fun e H2 => .ok (.ref H2.length) (H2 ++ [.exo c [(g, e), (f, d)]]) := by
  rw [e_mkx, hx, b_ok, es_cons]
  cases evE F G a σ H with
  | no => rfl
  | ex c fs A => rfl
  | ok d A =>
    simp only [b_ok, es_cons]
    cases evE F G b σ A with
    | no => rfl
    | ex c fs A => rfl
    | ok e A => simp [es_nil, bindR, byName, getA, liftH, hn, Ne.symm hn]
theorem e_mk3 (hx : ∀ H, F (.xc 1) [] H = .ok .non H) (c f g : Nat) (hn : f ≠ g) (a b : E) : evE F G (.mkx c [f, g] [g, f] (.cons a (.cons b .nil))) σ H = bindR (evE F G a σ H) fun d H1 => bindR (evE F G b σ H1) fun e H2 => .ok (.ref H2.length) (H2 ++ [.exo c [(g, d), (f, e)]]) := by
  rw [e_mkx, hx, b_ok, es_cons]
  cases evE F G a σ H with
  | no => rfl
  | ex c fs A => rfl
  | ok d A =>
    simp only [b_ok, es_cons]
    cases evE F G b σ A with
    | no => rfl
    | ex c fs A => rfl
    | ok e A => simp [es_nil, bindR, byName, getA, liftH, hn, Ne.symm hn]
theorem a_ref {f i : Nat} : attD H f (.ref i) = match H[i]? with
    | some (.ins _ fs) => getA f fs
    | some (.exo _ fs) => getA f fs
    | _ => none := rfl
theorem g_cons {f g : Nat} {d : D} {r : List (Nat × D)} : getA f ((g, d) :: r) = if g = f then some d else getA f r := rfl
theorem for_nm {all : List D} {i : Nat} {b : Sl → AH → SR} {x : D} {xs : List D} : forGo all none (.nm i) b (x :: xs) σ H = match b (σ.set i (some x)) H with
    | .ok .nx σ2 H2 => forGo all none (.nm i) b xs σ2 H2
    | .ok .ct σ2 H2 => forGo all none (.nm i) b xs σ2 H2
    | .ok .bk σ2 H2 => .ok .nx σ2 H2
    | .ok (.rt d) σ2 H2 => .ok (.rt d) σ2 H2
    | .ex c fs σ2 H2 => .ex c fs σ2 H2
    | .no => .no := for_one rfl
end
theorem n43 : ((4 : Nat) = 3) = False := by decide
theorem n21 : ((2 : Nat) = 1) = False := by decide
theorem xc38 (H : AH) : callF PP 39 (.xc 1) [] H = .ok .non H := xc_ok H (by decide)
theorem so {d : D} (h1 : dep d ≤ 5) (h2 : sok d = true) (H : AH) : callF PP 39 (.fn 0) [d, d] H = .ok (.bl true) H := c_so 33 5 d h1 h2 H
section
variable {x0 x1 x2 : D} {at_ : Int} {w : Tx} {o : D}
abbrev sl (x0 x1 x2 : D) (at_ : Int) (w : Tx) (o : D) (m e k j : Option D) : Sl := [some x0, some x1, some x2, some (.int at_), some (.str w), some o, m, e, k, j]
abbrev h6 (at_ : Int) : AH := [.exo 0 [(0, .int at_)], .exo 1 [(0, .int at_)], .exo 0 [(0, .int at_)], .exo 1 [(0, .int at_)]]
theorem s6 {H0 : AO} {m e k j : Option D} : evS (callF PP 39) PP.glob b_law_s6 (sl x0 x1 x2 at_ w o m e k j) [H0] = .ok .nx (sl x0 x1 x2 at_ w o (some (.ref 4)) e k j) (H0 :: h6 at_) := by
  have e := fun H => so (d := .int at_) (Nat.zero_le 5) rfl H
  unfold b_law_s6
  rw [x_fr]
  simp -implicitDefEqProofs (disch := first | omega | (simp only [List.length_append, List.length_cons, List.length_nil]; omega)) only [start_eq, List.map_cons, List.map_nil, List.replicate_zero, List.replicate_succ, Nat.sub_self, List.append_nil, List.nil_append, List.cons_append, if_true, if_false, Bool.false_eq_true, Bool.true_eq_false, reduceIte, ite_true, ite_false, and_self, and_true, true_and, Bool.not_true, Bool.not_false, Bool.and_true, Bool.true_and, Bool.and_false, Bool.false_and, Bool.or_true, Bool.true_or, Bool.or_false, Bool.false_or, o_addI, o_sub, o_mul, o_fdiv, o_mod, o_pow, v_non, v_bl, v_int, v_str, v_tup, v_lst, v_scr, q_str, q_int, q_bl, q_non, c_eq, c_ne, c_ltI, c_leI, c_gtI, c_geI, c_ltS, c_leS, c_inn, c_nin, i_lst, i_tup, i_str, x_lst, x_tup, l_lst, l_scr, mk_f, mk_t, n_lenL, n_lenT, n_isi, n_intI, n_intS, n_str, n_ord, n_all, n_any, n_tup, n_list, n_set, sq_lst, sq_tup, m_join, k_join, k_dbl, d_bl, d_not, d_int, u_bl, p_non, p_bl, p_int, p_str, p_tup, p_lst, it_lst, it_tup, it_str, it_rng, e_var, e_con, e_glo, e_tup, e_lst, e_dnew, e_dlit, e_bin, e_cat, e_neg, e_cmp, e_isn, e_chain, e_and, e_or, e_not, e_ite, e_idx, e_slc, e_att, e_call, e_mth, e_mak, e_bi, e_bm, es_nil, es_cons, ep_nil, ep_cons, t_and, t_or, t_not, t_cmp, t_isn, t_chain, t_var, t_call, t_mth, t_bi, t_idx, eAnd_1, eAnd_2, eOr_1, eOr_2, tAnd_1, tAnd_2, tOr_1, tOr_2, x_pass, x_seq, x_ex, x_asgN, x_asgT, sT_nm, sT_tup, sT_lst, sTs_nil, sTs_nm, x_ret, x_ret0, x_ite, x_brk, x_cnt, b_ok, b_some, b_someH, bs_ok, List.getElem?_cons_zero, List.getElem?_cons_succ, List.set_cons_zero, List.set_cons_succ, Option.map_some, List.any_cons, List.any_nil, decide_true, decide_false, bne_self_eq_false, y_int_non, y_int_bl, y_int_int, y_int_str, y_int_tup, y_int_lst, y_int_scr, y_str_non, y_str_bl, y_str_int, y_str_str, y_str_tup, y_str_lst, y_str_scr, y_bool_non, y_bool_bl, y_bool_int, y_bool_str, y_bool_tup, y_bool_lst, y_bool_scr, y_tuple_non, y_tuple_bl, y_tuple_int, y_tuple_str, y_tuple_tup, y_tuple_lst, y_tuple_scr, y_list_non, y_list_bl, y_list_int, y_list_str, y_list_tup, y_list_lst, y_list_scr, add_S, slc_S, len_S, idx_S, dbl_S, x_raise, x_tryr, e_mkx, e_isx, t_isx, b_ex, bs_ex, fin_ex, xc_ok, e_mk1 xc38, List.length_cons, List.length_nil]
  show forGo [.ref 1, .ref 2, .ref 3, .ref 4] none (.nm 6) _ [.ref 1, .ref 2, .ref 3, .ref 4] _ _ = _
  simp -implicitDefEqProofs (disch := first | omega | (simp only [List.length_append, List.length_cons, List.length_nil]; omega)) only [start_eq, List.map_cons, List.map_nil, List.replicate_zero, List.replicate_succ, Nat.sub_self, List.append_nil, List.nil_append, List.cons_append, if_true, if_false, Bool.false_eq_true, Bool.true_eq_false, reduceIte, ite_true, ite_false, and_self, and_true, true_and, Bool.not_true, Bool.not_false, Bool.and_true, Bool.true_and, Bool.and_false, Bool.false_and, Bool.or_true, Bool.true_or, Bool.or_false, Bool.false_or, o_addI, o_sub, o_mul, o_fdiv, o_mod, o_pow, v_non, v_bl, v_int, v_str, v_tup, v_lst, v_scr, q_str, q_int, q_bl, q_non, c_eq, c_ne, c_ltI, c_leI, c_gtI, c_geI, c_ltS, c_leS, c_inn, c_nin, i_lst, i_tup, i_str, x_lst, x_tup, l_lst, l_scr, mk_f, mk_t, n_lenL, n_lenT, n_isi, n_intI, n_intS, n_str, n_ord, n_all, n_any, n_tup, n_list, n_set, sq_lst, sq_tup, m_join, k_join, k_dbl, d_bl, d_not, d_int, u_bl, p_non, p_bl, p_int, p_str, p_tup, p_lst, it_lst, it_tup, it_str, it_rng, e_var, e_con, e_glo, e_tup, e_lst, e_dnew, e_dlit, e_bin, e_cat, e_neg, e_cmp, e_isn, e_chain, e_and, e_or, e_not, e_ite, e_idx, e_slc, e_att, e_call, e_mth, e_mak, e_bi, e_bm, es_nil, es_cons, ep_nil, ep_cons, t_and, t_or, t_not, t_cmp, t_isn, t_chain, t_var, t_call, t_mth, t_bi, t_idx, eAnd_1, eAnd_2, eOr_1, eOr_2, tAnd_1, tAnd_2, tOr_1, tOr_2, x_pass, x_seq, x_ex, x_asgN, x_asgT, sT_nm, sT_tup, sT_lst, sTs_nil, sTs_nm, x_ret, x_ret0, x_ite, x_brk, x_cnt, b_ok, b_some, b_someH, bs_ok, List.getElem?_cons_zero, List.getElem?_cons_succ, List.set_cons_zero, List.set_cons_succ, Option.map_some, List.any_cons, List.any_nil, decide_true, decide_false, bne_self_eq_false, y_int_non, y_int_bl, y_int_int, y_int_str, y_int_tup, y_int_lst, y_int_scr, y_str_non, y_str_bl, y_str_int, y_str_str, y_str_tup, y_str_lst, y_str_scr, y_bool_non, y_bool_bl, y_bool_int, y_bool_str, y_bool_tup, y_bool_lst, y_bool_scr, y_tuple_non, y_tuple_bl, y_tuple_int, y_tuple_str, y_tuple_tup, y_tuple_lst, y_tuple_scr, y_list_non, y_list_bl, y_list_int, y_list_str, y_list_tup, y_list_lst, y_list_scr, add_S, slc_S, len_S, idx_S, dbl_S, x_raise, x_tryr, e_mkx, e_isx, t_isx, b_ex, bs_ex, fin_ex, xc_ok, for_nm, for_nil, b_law_l1, a_ref, g_cons, e]
abbrev h7 (o : D) : AH := [.exo 2 [(1, o)], .exo 3 [(1, o)], .exo 2 [(1, o)], .exo 3 [(1, o)]]
theorem s7 {H0 : AO} {e k j : Option D} (h1 : dep o ≤ 5) (h2 : sok o = true) : evS (callF PP 39) PP.glob b_law_s7 (sl x0 x1 x2 at_ w o (some (.ref 4)) e k j) (H0 :: h6 at_) = .ok .nx (sl x0 x1 x2 at_ w o (some (.ref 8)) e k j) (H0 :: (h6 at_ ++ h7 o)) := by
  have e := fun H => so (d := o) h1 h2 H
  unfold b_law_s7
  rw [x_fr]
  simp -implicitDefEqProofs (disch := first | omega | (simp only [List.length_append, List.length_cons, List.length_nil]; omega)) only [start_eq, List.map_cons, List.map_nil, List.replicate_zero, List.replicate_succ, Nat.sub_self, List.append_nil, List.nil_append, List.cons_append, if_true, if_false, Bool.false_eq_true, Bool.true_eq_false, reduceIte, ite_true, ite_false, and_self, and_true, true_and, Bool.not_true, Bool.not_false, Bool.and_true, Bool.true_and, Bool.and_false, Bool.false_and, Bool.or_true, Bool.true_or, Bool.or_false, Bool.false_or, o_addI, o_sub, o_mul, o_fdiv, o_mod, o_pow, v_non, v_bl, v_int, v_str, v_tup, v_lst, v_scr, q_str, q_int, q_bl, q_non, c_eq, c_ne, c_ltI, c_leI, c_gtI, c_geI, c_ltS, c_leS, c_inn, c_nin, i_lst, i_tup, i_str, x_lst, x_tup, l_lst, l_scr, mk_f, mk_t, n_lenL, n_lenT, n_isi, n_intI, n_intS, n_str, n_ord, n_all, n_any, n_tup, n_list, n_set, sq_lst, sq_tup, m_join, k_join, k_dbl, d_bl, d_not, d_int, u_bl, p_non, p_bl, p_int, p_str, p_tup, p_lst, it_lst, it_tup, it_str, it_rng, e_var, e_con, e_glo, e_tup, e_lst, e_dnew, e_dlit, e_bin, e_cat, e_neg, e_cmp, e_isn, e_chain, e_and, e_or, e_not, e_ite, e_idx, e_slc, e_att, e_call, e_mth, e_mak, e_bi, e_bm, es_nil, es_cons, ep_nil, ep_cons, t_and, t_or, t_not, t_cmp, t_isn, t_chain, t_var, t_call, t_mth, t_bi, t_idx, eAnd_1, eAnd_2, eOr_1, eOr_2, tAnd_1, tAnd_2, tOr_1, tOr_2, x_pass, x_seq, x_ex, x_asgN, x_asgT, sT_nm, sT_tup, sT_lst, sTs_nil, sTs_nm, x_ret, x_ret0, x_ite, x_brk, x_cnt, b_ok, b_some, b_someH, bs_ok, List.getElem?_cons_zero, List.getElem?_cons_succ, List.set_cons_zero, List.set_cons_succ, Option.map_some, List.any_cons, List.any_nil, decide_true, decide_false, bne_self_eq_false, y_int_non, y_int_bl, y_int_int, y_int_str, y_int_tup, y_int_lst, y_int_scr, y_str_non, y_str_bl, y_str_int, y_str_str, y_str_tup, y_str_lst, y_str_scr, y_bool_non, y_bool_bl, y_bool_int, y_bool_str, y_bool_tup, y_bool_lst, y_bool_scr, y_tuple_non, y_tuple_bl, y_tuple_int, y_tuple_str, y_tuple_tup, y_tuple_lst, y_tuple_scr, y_list_non, y_list_bl, y_list_int, y_list_str, y_list_tup, y_list_lst, y_list_scr, add_S, slc_S, len_S, idx_S, dbl_S, x_raise, x_tryr, e_mkx, e_isx, t_isx, b_ex, bs_ex, fin_ex, xc_ok, e_mk1 xc38, List.length_cons, List.length_nil]
  show forGo [.ref 5, .ref 6, .ref 7, .ref 8] none (.nm 6) _ [.ref 5, .ref 6, .ref 7, .ref 8] _ _ = _
  simp -implicitDefEqProofs (disch := first | omega | (simp only [List.length_append, List.length_cons, List.length_nil]; omega)) only [start_eq, List.map_cons, List.map_nil, List.replicate_zero, List.replicate_succ, Nat.sub_self, List.append_nil, List.nil_append, List.cons_append, if_true, if_false, Bool.false_eq_true, Bool.true_eq_false, reduceIte, ite_true, ite_false, and_self, and_true, true_and, Bool.not_true, Bool.not_false, Bool.and_true, Bool.true_and, Bool.and_false, Bool.false_and, Bool.or_true, Bool.true_or, Bool.or_false, Bool.false_or, o_addI, o_sub, o_mul, o_fdiv, o_mod, o_pow, v_non, v_bl, v_int, v_str, v_tup, v_lst, v_scr, q_str, q_int, q_bl, q_non, c_eq, c_ne, c_ltI, c_leI, c_gtI, c_geI, c_ltS, c_leS, c_inn, c_nin, i_lst, i_tup, i_str, x_lst, x_tup, l_lst, l_scr, mk_f, mk_t, n_lenL, n_lenT, n_isi, n_intI, n_intS, n_str, n_ord, n_all, n_any, n_tup, n_list, n_set, sq_lst, sq_tup, m_join, k_join, k_dbl, d_bl, d_not, d_int, u_bl, p_non, p_bl, p_int, p_str, p_tup, p_lst, it_lst, it_tup, it_str, it_rng, e_var, e_con, e_glo, e_tup, e_lst, e_dnew, e_dlit, e_bin, e_cat, e_neg, e_cmp, e_isn, e_chain, e_and, e_or, e_not, e_ite, e_idx, e_slc, e_att, e_call, e_mth, e_mak, e_bi, e_bm, es_nil, es_cons, ep_nil, ep_cons, t_and, t_or, t_not, t_cmp, t_isn, t_chain, t_var, t_call, t_mth, t_bi, t_idx, eAnd_1, eAnd_2, eOr_1, eOr_2, tAnd_1, tAnd_2, tOr_1, tOr_2, x_pass, x_seq, x_ex, x_asgN, x_asgT, sT_nm, sT_tup, sT_lst, sTs_nil, sTs_nm, x_ret, x_ret0, x_ite, x_brk, x_cnt, b_ok, b_some, b_someH, bs_ok, List.getElem?_cons_zero, List.getElem?_cons_succ, List.set_cons_zero, List.set_cons_succ, Option.map_some, List.any_cons, List.any_nil, decide_true, decide_false, bne_self_eq_false, y_int_non, y_int_bl, y_int_int, y_int_str, y_int_tup, y_int_lst, y_int_scr, y_str_non, y_str_bl, y_str_int, y_str_str, y_str_tup, y_str_lst, y_str_scr, y_bool_non, y_bool_bl, y_bool_int, y_bool_str, y_bool_tup, y_bool_lst, y_bool_scr, y_tuple_non, y_tuple_bl, y_tuple_int, y_tuple_str, y_tuple_tup, y_tuple_lst, y_tuple_scr, y_list_non, y_list_bl, y_list_int, y_list_str, y_list_tup, y_list_lst, y_list_scr, add_S, slc_S, len_S, idx_S, dbl_S, x_raise, x_tryr, e_mkx, e_isx, t_isx, b_ex, bs_ex, fin_ex, xc_ok, for_nm, for_nil, b_law_l2, a_ref, g_cons, e]
abbrev h8 (w : Tx) : AH := [.exo 4 [(2, .str w)], .exo 4 [(2, .str w)]]
theorem s8 {H0 : AO} {e k j : Option D} : evS (callF PP 39) PP.glob b_law_s8 (sl x0 x1 x2 at_ w o (some (.ref 8)) e k j) (H0 :: (h6 at_ ++ h7 o)) = .ok .nx (sl x0 x1 x2 at_ w o (some (.ref 10)) e k j) (H0 :: (h6 at_ ++ (h7 o ++ h8 w))) := by
  have e := fun H => so (d := .str w) (Nat.zero_le 5) rfl H
  unfold b_law_s8
  rw [x_fr]
  simp -implicitDefEqProofs (disch := first | omega | (simp only [List.length_append, List.length_cons, List.length_nil]; omega)) only [start_eq, List.map_cons, List.map_nil, List.replicate_zero, List.replicate_succ, Nat.sub_self, List.append_nil, List.nil_append, List.cons_append, if_true, if_false, Bool.false_eq_true, Bool.true_eq_false, reduceIte, ite_true, ite_false, and_self, and_true, true_and, Bool.not_true, Bool.not_false, Bool.and_true, Bool.true_and, Bool.and_false, Bool.false_and, Bool.or_true, Bool.true_or, Bool.or_false, Bool.false_or, o_addI, o_sub, o_mul, o_fdiv, o_mod, o_pow, v_non, v_bl, v_int, v_str, v_tup, v_lst, v_scr, q_str, q_int, q_bl, q_non, c_eq, c_ne, c_ltI, c_leI, c_gtI, c_geI, c_ltS, c_leS, c_inn, c_nin, i_lst, i_tup, i_str, x_lst, x_tup, l_lst, l_scr, mk_f, mk_t, n_lenL, n_lenT, n_isi, n_intI, n_intS, n_str, n_ord, n_all, n_any, n_tup, n_list, n_set, sq_lst, sq_tup, m_join, k_join, k_dbl, d_bl, d_not, d_int, u_bl, p_non, p_bl, p_int, p_str, p_tup, p_lst, it_lst, it_tup, it_str, it_rng, e_var, e_con, e_glo, e_tup, e_lst, e_dnew, e_dlit, e_bin, e_cat, e_neg, e_cmp, e_isn, e_chain, e_and, e_or, e_not, e_ite, e_idx, e_slc, e_att, e_call, e_mth, e_mak, e_bi, e_bm, es_nil, es_cons, ep_nil, ep_cons, t_and, t_or, t_not, t_cmp, t_isn, t_chain, t_var, t_call, t_mth, t_bi, t_idx, eAnd_1, eAnd_2, eOr_1, eOr_2, tAnd_1, tAnd_2, tOr_1, tOr_2, x_pass, x_seq, x_ex, x_asgN, x_asgT, sT_nm, sT_tup, sT_lst, sTs_nil, sTs_nm, x_ret, x_ret0, x_ite, x_brk, x_cnt, b_ok, b_some, b_someH, bs_ok, List.getElem?_cons_zero, List.getElem?_cons_succ, List.set_cons_zero, List.set_cons_succ, Option.map_some, List.any_cons, List.any_nil, decide_true, decide_false, bne_self_eq_false, y_int_non, y_int_bl, y_int_int, y_int_str, y_int_tup, y_int_lst, y_int_scr, y_str_non, y_str_bl, y_str_int, y_str_str, y_str_tup, y_str_lst, y_str_scr, y_bool_non, y_bool_bl, y_bool_int, y_bool_str, y_bool_tup, y_bool_lst, y_bool_scr, y_tuple_non, y_tuple_bl, y_tuple_int, y_tuple_str, y_tuple_tup, y_tuple_lst, y_tuple_scr, y_list_non, y_list_bl, y_list_int, y_list_str, y_list_tup, y_list_lst, y_list_scr, add_S, slc_S, len_S, idx_S, dbl_S, x_raise, x_tryr, e_mkx, e_isx, t_isx, b_ex, bs_ex, fin_ex, xc_ok, e_mk1 xc38, List.length_cons, List.length_nil]
  show forGo [.ref 9, .ref 10] none (.nm 6) _ [.ref 9, .ref 10] _ _ = _
  simp -implicitDefEqProofs (disch := first | omega | (simp only [List.length_append, List.length_cons, List.length_nil]; omega)) only [start_eq, List.map_cons, List.map_nil, List.replicate_zero, List.replicate_succ, Nat.sub_self, List.append_nil, List.nil_append, List.cons_append, if_true, if_false, Bool.false_eq_true, Bool.true_eq_false, reduceIte, ite_true, ite_false, and_self, and_true, true_and, Bool.not_true, Bool.not_false, Bool.and_true, Bool.true_and, Bool.and_false, Bool.false_and, Bool.or_true, Bool.true_or, Bool.or_false, Bool.false_or, o_addI, o_sub, o_mul, o_fdiv, o_mod, o_pow, v_non, v_bl, v_int, v_str, v_tup, v_lst, v_scr, q_str, q_int, q_bl, q_non, c_eq, c_ne, c_ltI, c_leI, c_gtI, c_geI, c_ltS, c_leS, c_inn, c_nin, i_lst, i_tup, i_str, x_lst, x_tup, l_lst, l_scr, mk_f, mk_t, n_lenL, n_lenT, n_isi, n_intI, n_intS, n_str, n_ord, n_all, n_any, n_tup, n_list, n_set, sq_lst, sq_tup, m_join, k_join, k_dbl, d_bl, d_not, d_int, u_bl, p_non, p_bl, p_int, p_str, p_tup, p_lst, it_lst, it_tup, it_str, it_rng, e_var, e_con, e_glo, e_tup, e_lst, e_dnew, e_dlit, e_bin, e_cat, e_neg, e_cmp, e_isn, e_chain, e_and, e_or, e_not, e_ite, e_idx, e_slc, e_att, e_call, e_mth, e_mak, e_bi, e_bm, es_nil, es_cons, ep_nil, ep_cons, t_and, t_or, t_not, t_cmp, t_isn, t_chain, t_var, t_call, t_mth, t_bi, t_idx, eAnd_1, eAnd_2, eOr_1, eOr_2, tAnd_1, tAnd_2, tOr_1, tOr_2, x_pass, x_seq, x_ex, x_asgN, x_asgT, sT_nm, sT_tup, sT_lst, sTs_nil, sTs_nm, x_ret, x_ret0, x_ite, x_brk, x_cnt, b_ok, b_some, b_someH, bs_ok, List.getElem?_cons_zero, List.getElem?_cons_succ, List.set_cons_zero, List.set_cons_succ, Option.map_some, List.any_cons, List.any_nil, decide_true, decide_false, bne_self_eq_false, y_int_non, y_int_bl, y_int_int, y_int_str, y_int_tup, y_int_lst, y_int_scr, y_str_non, y_str_bl, y_str_int, y_str_str, y_str_tup, y_str_lst, y_str_scr, y_bool_non, y_bool_bl, y_bool_int, y_bool_str, y_bool_tup, y_bool_lst, y_bool_scr, y_tuple_non, y_tuple_bl, y_tuple_int, y_tuple_str, y_tuple_tup, y_tuple_lst, y_tuple_scr, y_list_non, y_list_bl, y_list_int, y_list_str, y_list_tup, y_list_lst, y_list_scr, add_S, slc_S, len_S, idx_S, dbl_S, x_raise, x_tryr, e_mkx, e_isx, t_isx, b_ex, bs_ex, fin_ex, xc_ok, for_nm, for_nil, b_law_l3, a_ref, g_cons, e]
abbrev h9 (at_ : Int) (w : Tx) : AH := [.exo 5 [(4, .tup [.str w]), (3, .tup [.int at_])], .exo 5 [(4, .tup [.str w]), (3, .tup [.int at_])]]
theorem s9 {H0 : AO} {e k j : Option D} : evS (callF PP 39) PP.glob b_law_s9 (sl x0 x1 x2 at_ w o (some (.ref 10)) e k j) (H0 :: (h6 at_ ++ (h7 o ++ h8 w))) = .ok .nx (sl x0 x1 x2 at_ w o (some (.ref 12)) e k j) (H0 :: (h6 at_ ++ (h7 o ++ (h8 w ++ h9 at_ w)))) := by
  have e := fun H => so (d := .tup [.tup [.int at_], .tup [.str w]]) (show 2 ≤ 5 by decide) rfl H
  unfold b_law_s9
  rw [x_fr]
  simp -implicitDefEqProofs (disch := first | omega | (simp only [List.length_append, List.length_cons, List.length_nil]; omega)) only [start_eq, List.map_cons, List.map_nil, List.replicate_zero, List.replicate_succ, Nat.sub_self, List.append_nil, List.nil_append, List.cons_append, if_true, if_false, Bool.false_eq_true, Bool.true_eq_false, reduceIte, ite_true, ite_false, and_self, and_true, true_and, Bool.not_true, Bool.not_false, Bool.and_true, Bool.true_and, Bool.and_false, Bool.false_and, Bool.or_true, Bool.true_or, Bool.or_false, Bool.false_or, o_addI, o_sub, o_mul, o_fdiv, o_mod, o_pow, v_non, v_bl, v_int, v_str, v_tup, v_lst, v_scr, q_str, q_int, q_bl, q_non, c_eq, c_ne, c_ltI, c_leI, c_gtI, c_geI, c_ltS, c_leS, c_inn, c_nin, i_lst, i_tup, i_str, x_lst, x_tup, l_lst, l_scr, mk_f, mk_t, n_lenL, n_lenT, n_isi, n_intI, n_intS, n_str, n_ord, n_all, n_any, n_tup, n_list, n_set, sq_lst, sq_tup, m_join, k_join, k_dbl, d_bl, d_not, d_int, u_bl, p_non, p_bl, p_int, p_str, p_tup, p_lst, it_lst, it_tup, it_str, it_rng, e_var, e_con, e_glo, e_tup, e_lst, e_dnew, e_dlit, e_bin, e_cat, e_neg, e_cmp, e_isn, e_chain, e_and, e_or, e_not, e_ite, e_idx, e_slc, e_att, e_call, e_mth, e_mak, e_bi, e_bm, es_nil, es_cons, ep_nil, ep_cons, t_and, t_or, t_not, t_cmp, t_isn, t_chain, t_var, t_call, t_mth, t_bi, t_idx, eAnd_1, eAnd_2, eOr_1, eOr_2, tAnd_1, tAnd_2, tOr_1, tOr_2, x_pass, x_seq, x_ex, x_asgN, x_asgT, sT_nm, sT_tup, sT_lst, sTs_nil, sTs_nm, x_ret, x_ret0, x_ite, x_brk, x_cnt, b_ok, b_some, b_someH, bs_ok, List.getElem?_cons_zero, List.getElem?_cons_succ, List.set_cons_zero, List.set_cons_succ, Option.map_some, List.any_cons, List.any_nil, decide_true, decide_false, bne_self_eq_false, y_int_non, y_int_bl, y_int_int, y_int_str, y_int_tup, y_int_lst, y_int_scr, y_str_non, y_str_bl, y_str_int, y_str_str, y_str_tup, y_str_lst, y_str_scr, y_bool_non, y_bool_bl, y_bool_int, y_bool_str, y_bool_tup, y_bool_lst, y_bool_scr, y_tuple_non, y_tuple_bl, y_tuple_int, y_tuple_str, y_tuple_tup, y_tuple_lst, y_tuple_scr, y_list_non, y_list_bl, y_list_int, y_list_str, y_list_tup, y_list_lst, y_list_scr, add_S, slc_S, len_S, idx_S, dbl_S, x_raise, x_tryr, e_mkx, e_isx, t_isx, b_ex, bs_ex, fin_ex, xc_ok, e_mk2 xc38 5 3 4 (by decide), e_mk3 xc38 5 3 4 (by decide), List.length_cons, List.length_nil]
  show forGo [.ref 11, .ref 12] none (.nm 6) _ [.ref 11, .ref 12] _ _ = _
  simp -implicitDefEqProofs (disch := first | omega | (simp only [List.length_append, List.length_cons, List.length_nil]; omega)) only [start_eq, List.map_cons, List.map_nil, List.replicate_zero, List.replicate_succ, Nat.sub_self, List.append_nil, List.nil_append, List.cons_append, if_true, if_false, Bool.false_eq_true, Bool.true_eq_false, reduceIte, ite_true, ite_false, and_self, and_true, true_and, Bool.not_true, Bool.not_false, Bool.and_true, Bool.true_and, Bool.and_false, Bool.false_and, Bool.or_true, Bool.true_or, Bool.or_false, Bool.false_or, o_addI, o_sub, o_mul, o_fdiv, o_mod, o_pow, v_non, v_bl, v_int, v_str, v_tup, v_lst, v_scr, q_str, q_int, q_bl, q_non, c_eq, c_ne, c_ltI, c_leI, c_gtI, c_geI, c_ltS, c_leS, c_inn, c_nin, i_lst, i_tup, i_str, x_lst, x_tup, l_lst, l_scr, mk_f, mk_t, n_lenL, n_lenT, n_isi, n_intI, n_intS, n_str, n_ord, n_all, n_any, n_tup, n_list, n_set, sq_lst, sq_tup, m_join, k_join, k_dbl, d_bl, d_not, d_int, u_bl, p_non, p_bl, p_int, p_str, p_tup, p_lst, it_lst, it_tup, it_str, it_rng, e_var, e_con, e_glo, e_tup, e_lst, e_dnew, e_dlit, e_bin, e_cat, e_neg, e_cmp, e_isn, e_chain, e_and, e_or, e_not, e_ite, e_idx, e_slc, e_att, e_call, e_mth, e_mak, e_bi, e_bm, es_nil, es_cons, ep_nil, ep_cons, t_and, t_or, t_not, t_cmp, t_isn, t_chain, t_var, t_call, t_mth, t_bi, t_idx, eAnd_1, eAnd_2, eOr_1, eOr_2, tAnd_1, tAnd_2, tOr_1, tOr_2, x_pass, x_seq, x_ex, x_asgN, x_asgT, sT_nm, sT_tup, sT_lst, sTs_nil, sTs_nm, x_ret, x_ret0, x_ite, x_brk, x_cnt, b_ok, b_some, b_someH, bs_ok, List.getElem?_cons_zero, List.getElem?_cons_succ, List.set_cons_zero, List.set_cons_succ, Option.map_some, List.any_cons, List.any_nil, decide_true, decide_false, bne_self_eq_false, y_int_non, y_int_bl, y_int_int, y_int_str, y_int_tup, y_int_lst, y_int_scr, y_str_non, y_str_bl, y_str_int, y_str_str, y_str_tup, y_str_lst, y_str_scr, y_bool_non, y_bool_bl, y_bool_int, y_bool_str, y_bool_tup, y_bool_lst, y_bool_scr, y_tuple_non, y_tuple_bl, y_tuple_int, y_tuple_str, y_tuple_tup, y_tuple_lst, y_tuple_scr, y_list_non, y_list_bl, y_list_int, y_list_str, y_list_tup, y_list_lst, y_list_scr, add_S, slc_S, len_S, idx_S, dbl_S, x_raise, x_tryr, e_mkx, e_isx, t_isx, b_ex, bs_ex, fin_ex, xc_ok, for_nm, for_nil, b_law_l4, a_ref, g_cons, n43, e]
abbrev h10 (w : Tx) : AH := [.exo 6 [(2, .str [116]), (1, .str w)], .exo 6 [(2, .str [116]), (1, .str w)]]
theorem s10 {H0 : AO} {e k j : Option D} : evS (callF PP 39) PP.glob b_law_s10 (sl x0 x1 x2 at_ w o (some (.ref 12)) e k j) (H0 :: (h6 at_ ++ (h7 o ++ (h8 w ++ h9 at_ w)))) = .ok .nx (sl x0 x1 x2 at_ w o (some (.ref 14)) e k j) (H0 :: (h6 at_ ++ (h7 o ++ (h8 w ++ (h9 at_ w ++ h10 w))))) := by
  have e := fun H => so (d := .tup [.str w, .str [116]]) (show 1 ≤ 5 by decide) rfl H
  unfold b_law_s10
  rw [x_fr]
  simp -implicitDefEqProofs (disch := first | omega | (simp only [List.length_append, List.length_cons, List.length_nil]; omega)) only [start_eq, List.map_cons, List.map_nil, List.replicate_zero, List.replicate_succ, Nat.sub_self, List.append_nil, List.nil_append, List.cons_append, if_true, if_false, Bool.false_eq_true, Bool.true_eq_false, reduceIte, ite_true, ite_false, and_self, and_true, true_and, Bool.not_true, Bool.not_false, Bool.and_true, Bool.true_and, Bool.and_false, Bool.false_and, Bool.or_true, Bool.true_or, Bool.or_false, Bool.false_or, o_addI, o_sub, o_mul, o_fdiv, o_mod, o_pow, v_non, v_bl, v_int, v_str, v_tup, v_lst, v_scr, q_str, q_int, q_bl, q_non, c_eq, c_ne, c_ltI, c_leI, c_gtI, c_geI, c_ltS, c_leS, c_inn, c_nin, i_lst, i_tup, i_str, x_lst, x_tup, l_lst, l_scr, mk_f, mk_t, n_lenL, n_lenT, n_isi, n_intI, n_intS, n_str, n_ord, n_all, n_any, n_tup, n_list, n_set, sq_lst, sq_tup, m_join, k_join, k_dbl, d_bl, d_not, d_int, u_bl, p_non, p_bl, p_int, p_str, p_tup, p_lst, it_lst, it_tup, it_str, it_rng, e_var, e_con, e_glo, e_tup, e_lst, e_dnew, e_dlit, e_bin, e_cat, e_neg, e_cmp, e_isn, e_chain, e_and, e_or, e_not, e_ite, e_idx, e_slc, e_att, e_call, e_mth, e_mak, e_bi, e_bm, es_nil, es_cons, ep_nil, ep_cons, t_and, t_or, t_not, t_cmp, t_isn, t_chain, t_var, t_call, t_mth, t_bi, t_idx, eAnd_1, eAnd_2, eOr_1, eOr_2, tAnd_1, tAnd_2, tOr_1, tOr_2, x_pass, x_seq, x_ex, x_asgN, x_asgT, sT_nm, sT_tup, sT_lst, sTs_nil, sTs_nm, x_ret, x_ret0, x_ite, x_brk, x_cnt, b_ok, b_some, b_someH, bs_ok, List.getElem?_cons_zero, List.getElem?_cons_succ, List.set_cons_zero, List.set_cons_succ, Option.map_some, List.any_cons, List.any_nil, decide_true, decide_false, bne_self_eq_false, y_int_non, y_int_bl, y_int_int, y_int_str, y_int_tup, y_int_lst, y_int_scr, y_str_non, y_str_bl, y_str_int, y_str_str, y_str_tup, y_str_lst, y_str_scr, y_bool_non, y_bool_bl, y_bool_int, y_bool_str, y_bool_tup, y_bool_lst, y_bool_scr, y_tuple_non, y_tuple_bl, y_tuple_int, y_tuple_str, y_tuple_tup, y_tuple_lst, y_tuple_scr, y_list_non, y_list_bl, y_list_int, y_list_str, y_list_tup, y_list_lst, y_list_scr, add_S, slc_S, len_S, idx_S, dbl_S, x_raise, x_tryr, e_mkx, e_isx, t_isx, b_ex, bs_ex, fin_ex, xc_ok, e_mk2 xc38 6 1 2 (by decide), e_mk3 xc38 6 1 2 (by decide), List.length_cons, List.length_nil]
  show forGo [.ref 13, .ref 14] none (.nm 6) _ [.ref 13, .ref 14] _ _ = _
  simp -implicitDefEqProofs (disch := first | omega | (simp only [List.length_append, List.length_cons, List.length_nil]; omega)) only [start_eq, List.map_cons, List.map_nil, List.replicate_zero, List.replicate_succ, Nat.sub_self, List.append_nil, List.nil_append, List.cons_append, if_true, if_false, Bool.false_eq_true, Bool.true_eq_false, reduceIte, ite_true, ite_false, and_self, and_true, true_and, Bool.not_true, Bool.not_false, Bool.and_true, Bool.true_and, Bool.and_false, Bool.false_and, Bool.or_true, Bool.true_or, Bool.or_false, Bool.false_or, o_addI, o_sub, o_mul, o_fdiv, o_mod, o_pow, v_non, v_bl, v_int, v_str, v_tup, v_lst, v_scr, q_str, q_int, q_bl, q_non, c_eq, c_ne, c_ltI, c_leI, c_gtI, c_geI, c_ltS, c_leS, c_inn, c_nin, i_lst, i_tup, i_str, x_lst, x_tup, l_lst, l_scr, mk_f, mk_t, n_lenL, n_lenT, n_isi, n_intI, n_intS, n_str, n_ord, n_all, n_any, n_tup, n_list, n_set, sq_lst, sq_tup, m_join, k_join, k_dbl, d_bl, d_not, d_int, u_bl, p_non, p_bl, p_int, p_str, p_tup, p_lst, it_lst, it_tup, it_str, it_rng, e_var, e_con, e_glo, e_tup, e_lst, e_dnew, e_dlit, e_bin, e_cat, e_neg, e_cmp, e_isn, e_chain, e_and, e_or, e_not, e_ite, e_idx, e_slc, e_att, e_call, e_mth, e_mak, e_bi, e_bm, es_nil, es_cons, ep_nil, ep_cons, t_and, t_or, t_not, t_cmp, t_isn, t_chain, t_var, t_call, t_mth, t_bi, t_idx, eAnd_1, eAnd_2, eOr_1, eOr_2, tAnd_1, tAnd_2, tOr_1, tOr_2, x_pass, x_seq, x_ex, x_asgN, x_asgT, sT_nm, sT_tup, sT_lst, sTs_nil, sTs_nm, x_ret, x_ret0, x_ite, x_brk, x_cnt, b_ok, b_some, b_someH, bs_ok, List.getElem?_cons_zero, List.getElem?_cons_succ, List.set_cons_zero, List.set_cons_succ, Option.map_some, List.any_cons, List.any_nil, decide_true, decide_false, bne_self_eq_false, y_int_non, y_int_bl, y_int_int, y_int_str, y_int_tup, y_int_lst, y_int_scr, y_str_non, y_str_bl, y_str_int, y_str_str, y_str_tup, y_str_lst, y_str_scr, y_bool_non, y_bool_bl, y_bool_int, y_bool_str, y_bool_tup, y_bool_lst, y_bool_scr, y_tuple_non, y_tuple_bl, y_tuple_int, y_tuple_str, y_tuple_tup, y_tuple_lst, y_tuple_scr, y_list_non, y_list_bl, y_list_int, y_list_str, y_list_tup, y_list_lst, y_list_scr, add_S, slc_S, len_S, idx_S, dbl_S, x_raise, x_tryr, e_mkx, e_isx, t_isx, b_ex, bs_ex, fin_ex, xc_ok, for_nm, for_nil, b_law_l5, a_ref, g_cons, n21, e]
abbrev h11 (at_ : Int) (w : Tx) (o : D) : AH := [.exo 0 [(0, .int at_)], .exo 1 [(0, .int at_)], .exo 2 [(1, o)], .exo 3 [(1, o)], .exo 4 [(2, .str w)], .exo 5 [(4, .tup [.str w]), (3, .tup [.int at_])], .exo 6 [(2, .str [116]), (1, .str w)]]
abbrev ev7 : D := .lst [.ref 15, .ref 16, .ref 17, .ref 18, .ref 19, .ref 20, .ref 21]
theorem s11 {H0 : AO} {m k j : Option D} {e : Option D} : evS (callF PP 39) PP.glob b_law_s11 (sl x0 x1 x2 at_ w o m e k j) (H0 :: (h6 at_ ++ (h7 o ++ (h8 w ++ (h9 at_ w ++ h10 w))))) = .ok .nx (sl x0 x1 x2 at_ w o m (some ev7) k j) (H0 :: (h6 at_ ++ (h7 o ++ (h8 w ++ (h9 at_ w ++ (h10 w ++ h11 at_ w o)))))) := by
  unfold b_law_s11
  simp -implicitDefEqProofs (disch := first | omega | (simp only [List.length_append, List.length_cons, List.length_nil]; omega)) only [start_eq, List.map_cons, List.map_nil, List.replicate_zero, List.replicate_succ, Nat.sub_self, List.append_nil, List.nil_append, List.cons_append, if_true, if_false, Bool.false_eq_true, Bool.true_eq_false, reduceIte, ite_true, ite_false, and_self, and_true, true_and, Bool.not_true, Bool.not_false, Bool.and_true, Bool.true_and, Bool.and_false, Bool.false_and, Bool.or_true, Bool.true_or, Bool.or_false, Bool.false_or, o_addI, o_sub, o_mul, o_fdiv, o_mod, o_pow, v_non, v_bl, v_int, v_str, v_tup, v_lst, v_scr, q_str, q_int, q_bl, q_non, c_eq, c_ne, c_ltI, c_leI, c_gtI, c_geI, c_ltS, c_leS, c_inn, c_nin, i_lst, i_tup, i_str, x_lst, x_tup, l_lst, l_scr, mk_f, mk_t, n_lenL, n_lenT, n_isi, n_intI, n_intS, n_str, n_ord, n_all, n_any, n_tup, n_list, n_set, sq_lst, sq_tup, m_join, k_join, k_dbl, d_bl, d_not, d_int, u_bl, p_non, p_bl, p_int, p_str, p_tup, p_lst, it_lst, it_tup, it_str, it_rng, e_var, e_con, e_glo, e_tup, e_lst, e_dnew, e_dlit, e_bin, e_cat, e_neg, e_cmp, e_isn, e_chain, e_and, e_or, e_not, e_ite, e_idx, e_slc, e_att, e_call, e_mth, e_mak, e_bi, e_bm, es_nil, es_cons, ep_nil, ep_cons, t_and, t_or, t_not, t_cmp, t_isn, t_chain, t_var, t_call, t_mth, t_bi, t_idx, eAnd_1, eAnd_2, eOr_1, eOr_2, tAnd_1, tAnd_2, tOr_1, tOr_2, x_pass, x_seq, x_ex, x_asgN, x_asgT, sT_nm, sT_tup, sT_lst, sTs_nil, sTs_nm, x_ret, x_ret0, x_ite, x_brk, x_cnt, b_ok, b_some, b_someH, bs_ok, List.getElem?_cons_zero, List.getElem?_cons_succ, List.set_cons_zero, List.set_cons_succ, Option.map_some, List.any_cons, List.any_nil, decide_true, decide_false, bne_self_eq_false, y_int_non, y_int_bl, y_int_int, y_int_str, y_int_tup, y_int_lst, y_int_scr, y_str_non, y_str_bl, y_str_int, y_str_str, y_str_tup, y_str_lst, y_str_scr, y_bool_non, y_bool_bl, y_bool_int, y_bool_str, y_bool_tup, y_bool_lst, y_bool_scr, y_tuple_non, y_tuple_bl, y_tuple_int, y_tuple_str, y_tuple_tup, y_tuple_lst, y_tuple_scr, y_list_non, y_list_bl, y_list_int, y_list_str, y_list_tup, y_list_lst, y_list_scr, add_S, slc_S, len_S, idx_S, dbl_S, x_raise, x_tryr, e_mkx, e_isx, t_isx, b_ex, bs_ex, fin_ex, xc_ok, e_mk1 xc38, e_mk2 xc38 5 3 4 (by decide), e_mk2 xc38 6 1 2 (by decide), List.length_cons, List.length_nil]
theorem xcr {H : AH} {i c : Nat} {fs : List (Nat × D)} (h : H[i]? = some (.exo c fs)) : xcD H (.ref i) = some c := by
  show (match H[i]? with
    | some (.exo c _) => some c
    | _ => none) = some c
  rw [h]
theorem cat_ll {H : AH} {xs ys : List D} (h : xs.length + ys.length ≤ sizeLine) : catD false H (.lst xs) (.lst ys) = some (.lst (xs ++ ys), H) := by
  unfold catD
  simp only [view]
  first | rw [if_pos h] | skip
  rfl
theorem c_of {H : AH} {i c : Nat} {fs : List (Nat × D)} (h : H[i]? = some (.exo c fs)) : callF PP 39 (.fn 4) [.ref i] H = .ok (.lst [.bl (decide (c ∈ [0])), .bl (decide (c ∈ [1])), .bl (decide (c ∈ [2])), .bl (decide (c ∈ [3])), .bl (decide (c ∈ [4])), .bl (decide (c ∈ [5])), .bl (decide (c ∈ [6]))]) H := by
  rw [call_fn (fi := ⟨1, 2, true, b_law_of⟩) rfl rfl]
  unfold b_law_of
  simp -implicitDefEqProofs (disch := first | omega | (simp only [List.length_append, List.length_cons, List.length_nil]; omega)) only [start_eq, List.map_cons, List.map_nil, List.replicate_zero, List.replicate_succ, Nat.sub_self, List.append_nil, List.nil_append, List.cons_append, if_true, if_false, Bool.false_eq_true, Bool.true_eq_false, reduceIte, ite_true, ite_false, and_self, and_true, true_and, Bool.not_true, Bool.not_false, Bool.and_true, Bool.true_and, Bool.and_false, Bool.false_and, Bool.or_true, Bool.true_or, Bool.or_false, Bool.false_or, o_addI, o_sub, o_mul, o_fdiv, o_mod, o_pow, v_non, v_bl, v_int, v_str, v_tup, v_lst, v_scr, q_str, q_int, q_bl, q_non, c_eq, c_ne, c_ltI, c_leI, c_gtI, c_geI, c_ltS, c_leS, c_inn, c_nin, i_lst, i_tup, i_str, x_lst, x_tup, l_lst, l_scr, mk_f, mk_t, n_lenL, n_lenT, n_isi, n_intI, n_intS, n_str, n_ord, n_all, n_any, n_tup, n_list, n_set, sq_lst, sq_tup, m_join, k_join, k_dbl, d_bl, d_not, d_int, u_bl, p_non, p_bl, p_int, p_str, p_tup, p_lst, it_lst, it_tup, it_str, it_rng, e_var, e_con, e_glo, e_tup, e_lst, e_dnew, e_dlit, e_bin, e_cat, e_neg, e_cmp, e_isn, e_chain, e_and, e_or, e_not, e_ite, e_idx, e_slc, e_att, e_call, e_mth, e_mak, e_bi, e_bm, es_nil, es_cons, ep_nil, ep_cons, t_and, t_or, t_not, t_cmp, t_isn, t_chain, t_var, t_call, t_mth, t_bi, t_idx, eAnd_1, eAnd_2, eOr_1, eOr_2, tAnd_1, tAnd_2, tOr_1, tOr_2, x_pass, x_seq, x_ex, x_asgN, x_asgT, sT_nm, sT_tup, sT_lst, sTs_nil, sTs_nm, x_ret, x_ret0, x_ite, x_brk, x_cnt, b_ok, b_some, b_someH, bs_ok, List.getElem?_cons_zero, List.getElem?_cons_succ, List.set_cons_zero, List.set_cons_succ, Option.map_some, List.any_cons, List.any_nil, decide_true, decide_false, bne_self_eq_false, y_int_non, y_int_bl, y_int_int, y_int_str, y_int_tup, y_int_lst, y_int_scr, y_str_non, y_str_bl, y_str_int, y_str_str, y_str_tup, y_str_lst, y_str_scr, y_bool_non, y_bool_bl, y_bool_int, y_bool_str, y_bool_tup, y_bool_lst, y_bool_scr, y_tuple_non, y_tuple_bl, y_tuple_int, y_tuple_str, y_tuple_tup, y_tuple_lst, y_tuple_scr, y_list_non, y_list_bl, y_list_int, y_list_str, y_list_tup, y_list_lst, y_list_scr, add_S, slc_S, len_S, idx_S, dbl_S, x_raise, x_tryr, e_mkx, e_isx, t_isx, b_ex, bs_ex, fin_ex, xc_ok, xcr h, fin_rt, cat_ll (xs := [D.bl (decide (c ∈ [0])), D.bl (decide (c ∈ [1])), D.bl (decide (c ∈ [2])), D.bl (decide (c ∈ [3]))]) (ys := [D.bl (decide (c ∈ [4])), D.bl (decide (c ∈ [5])), D.bl (decide (c ∈ [6]))]) (by rw [sizeLine_eq]; exact (show 4 + 3 ≤ 16777216 by decide))]
theorem c_foreign {H : AH} {i c : Nat} {fs : List (Nat × D)} (h : H[i]? = some (.exo c fs)) (hc : c ∈ [0, 1, 2, 3, 4, 5, 6]) : callF PP 39 (.fn 5) [.ref i] H = .ok (.bl false) H := by
  rw [call_fn (fi := ⟨1, 1, true, b_law_foreign⟩) rfl rfl]
  unfold b_law_foreign
  simp -implicitDefEqProofs (disch := first | omega | (simp only [List.length_append, List.length_cons, List.length_nil]; omega)) only [start_eq, List.map_cons, List.map_nil, List.replicate_zero, List.replicate_succ, Nat.sub_self, List.append_nil, List.nil_append, List.cons_append, if_true, if_false, Bool.false_eq_true, Bool.true_eq_false, reduceIte, ite_true, ite_false, and_self, and_true, true_and, Bool.not_true, Bool.not_false, Bool.and_true, Bool.true_and, Bool.and_false, Bool.false_and, Bool.or_true, Bool.true_or, Bool.or_false, Bool.false_or, o_addI, o_sub, o_mul, o_fdiv, o_mod, o_pow, v_non, v_bl, v_int, v_str, v_tup, v_lst, v_scr, q_str, q_int, q_bl, q_non, c_eq, c_ne, c_ltI, c_leI, c_gtI, c_geI, c_ltS, c_leS, c_inn, c_nin, i_lst, i_tup, i_str, x_lst, x_tup, l_lst, l_scr, mk_f, mk_t, n_lenL, n_lenT, n_isi, n_intI, n_intS, n_str, n_ord, n_all, n_any, n_tup, n_list, n_set, sq_lst, sq_tup, m_join, k_join, k_dbl, d_bl, d_not, d_int, u_bl, p_non, p_bl, p_int, p_str, p_tup, p_lst, it_lst, it_tup, it_str, it_rng, e_var, e_con, e_glo, e_tup, e_lst, e_dnew, e_dlit, e_bin, e_cat, e_neg, e_cmp, e_isn, e_chain, e_and, e_or, e_not, e_ite, e_idx, e_slc, e_att, e_call, e_mth, e_mak, e_bi, e_bm, es_nil, es_cons, ep_nil, ep_cons, t_and, t_or, t_not, t_cmp, t_isn, t_chain, t_var, t_call, t_mth, t_bi, t_idx, eAnd_1, eAnd_2, eOr_1, eOr_2, tAnd_1, tAnd_2, tOr_1, tOr_2, x_pass, x_seq, x_ex, x_asgN, x_asgT, sT_nm, sT_tup, sT_lst, sTs_nil, sTs_nm, x_ret, x_ret0, x_ite, x_brk, x_cnt, b_ok, b_some, b_someH, bs_ok, List.getElem?_cons_zero, List.getElem?_cons_succ, List.set_cons_zero, List.set_cons_succ, Option.map_some, List.any_cons, List.any_nil, decide_true, decide_false, bne_self_eq_false, y_int_non, y_int_bl, y_int_int, y_int_str, y_int_tup, y_int_lst, y_int_scr, y_str_non, y_str_bl, y_str_int, y_str_str, y_str_tup, y_str_lst, y_str_scr, y_bool_non, y_bool_bl, y_bool_int, y_bool_str, y_bool_tup, y_bool_lst, y_bool_scr, y_tuple_non, y_tuple_bl, y_tuple_int, y_tuple_str, y_tuple_tup, y_tuple_lst, y_tuple_scr, y_list_non, y_list_bl, y_list_int, y_list_str, y_list_tup, y_list_lst, y_list_scr, add_S, slc_S, len_S, idx_S, dbl_S, x_raise, x_tryr, e_mkx, e_isx, t_isx, b_ex, bs_ex, fin_ex, xc_ok, xcr h, fin_rt, hc, List.not_mem_nil]
abbrev r7 : List D := [.int 0, .int 1, .int 2, .int 3, .int 4, .int 5, .int 6]
theorem one7 {H : AH} {m e : Option D} {kk : Int} {j : Option D} : evE (callF PP 39) PP.glob (.comp false [9] (.nm 9) .rng (.cons (.con (.int 7)) .nil) .nil b_law_c1) (sl x0 x1 x2 at_ w o m e (some (.int kk)) j) H =
    .ok (.lst [.bl (decide (0 = kk)), .bl (decide (1 = kk)), .bl (decide (2 = kk)), .bl (decide (3 = kk)), .bl (decide (4 = kk)), .bl (decide (5 = kk)), .bl (decide (6 = kk))]) H := by
  simp -implicitDefEqProofs only [start_eq, List.map_cons, List.map_nil, List.replicate_zero, List.replicate_succ, Nat.sub_self, List.append_nil, List.nil_append, List.cons_append, if_true, if_false, Bool.false_eq_true, Bool.true_eq_false, reduceIte, ite_true, ite_false, and_self, and_true, true_and, Bool.not_true, Bool.not_false, Bool.and_true, Bool.true_and, Bool.and_false, Bool.false_and, Bool.or_true, Bool.true_or, Bool.or_false, Bool.false_or, o_addI, o_addS, o_sub, o_mul, o_fdiv, o_mod, o_pow, v_non, v_bl, v_int, v_str, v_tup, v_lst, v_scr, q_str, q_int, q_bl, q_non, c_eq, c_ne, c_ltI, c_leI, c_gtI, c_geI, c_ltS, c_leS, c_inn, c_nin, i_lst, i_tup, i_str, x_lst, x_tup, x_str, l_lst, l_str, l_scr, mk_f, mk_t, n_lenL, n_lenT, n_lenS, n_isi, n_intI, n_intS, n_str, n_ord, n_all, n_any, n_tup, n_list, n_set, sq_lst, sq_tup, m_join, m_dbl, k_join, k_dbl, d_bl, d_not, d_int, u_bl, p_non, p_bl, p_int, p_str, p_tup, p_lst, it_lst, it_tup, it_str, it_rng, e_var, e_con, e_glo, e_tup, e_lst, e_dnew, e_dlit, e_bin, e_cat, e_neg, e_cmp, e_isn, e_chain, e_and, e_or, e_not, e_ite, e_idx, e_slc, e_att, e_call, e_mth, e_mak, e_bi, e_bm, es_nil, es_cons, ep_nil, ep_cons, t_and, t_or, t_not, t_cmp, t_isn, t_chain, t_var, t_call, t_mth, t_bi, t_idx, eAnd_1, eAnd_2, eOr_1, eOr_2, tAnd_1, tAnd_2, tOr_1, tOr_2, x_pass, x_seq, x_ex, x_asgN, x_asgT, sT_nm, sT_tup, sT_lst, sTs_nil, sTs_nm, x_ret, x_ret0, x_ite, x_brk, x_cnt, b_ok, b_some, b_someH, bs_ok, List.getElem?_cons_zero, List.getElem?_cons_succ, List.set_cons_zero, List.set_cons_succ, Option.map_some, List.any_cons, List.any_nil, decide_true, decide_false, bne_self_eq_false, y_int_non, y_int_bl, y_int_int, y_int_str, y_int_tup, y_int_lst, y_int_scr, y_str_non, y_str_bl, y_str_int, y_str_str, y_str_tup, y_str_lst, y_str_scr, y_bool_non, y_bool_bl, y_bool_int, y_bool_str, y_bool_tup, y_bool_lst, y_bool_scr, y_tuple_non, y_tuple_bl, y_tuple_int, y_tuple_str, y_tuple_tup, y_tuple_lst, y_tuple_scr, y_list_non, y_list_bl, y_list_int, y_list_str, y_list_tup, y_list_lst, y_list_scr, e_comp, noTest, wipeD]
  have := comp_map (all := r7) (t := .nm 9) (f := fun σ H => evE (callF PP 39) PP.glob b_law_c1 σ H) (σ := (sl x0 x1 x2 at_ w o m e (some (.int kk)) none)) (H := H) (tst := fun σ H => .ok true H) D.int (fun i => .bl (decide (i = kk))) [0, 1, 2, 3, 4, 5, 6] [] (fun x hx => ⟨_, rfl, rfl, by
        unfold b_law_c1
        simp -implicitDefEqProofs only [start_eq, List.map_cons, List.map_nil, List.replicate_zero, List.replicate_succ, Nat.sub_self, List.append_nil, List.nil_append, List.cons_append, if_true, if_false, Bool.false_eq_true, Bool.true_eq_false, reduceIte, ite_true, ite_false, and_self, and_true, true_and, Bool.not_true, Bool.not_false, Bool.and_true, Bool.true_and, Bool.and_false, Bool.false_and, Bool.or_true, Bool.true_or, Bool.or_false, Bool.false_or, o_addI, o_addS, o_sub, o_mul, o_fdiv, o_mod, o_pow, v_non, v_bl, v_int, v_str, v_tup, v_lst, v_scr, q_str, q_int, q_bl, q_non, c_eq, c_ne, c_ltI, c_leI, c_gtI, c_geI, c_ltS, c_leS, c_inn, c_nin, i_lst, i_tup, i_str, x_lst, x_tup, x_str, l_lst, l_str, l_scr, mk_f, mk_t, n_lenL, n_lenT, n_lenS, n_isi, n_intI, n_intS, n_str, n_ord, n_all, n_any, n_tup, n_list, n_set, sq_lst, sq_tup, m_join, m_dbl, k_join, k_dbl, d_bl, d_not, d_int, u_bl, p_non, p_bl, p_int, p_str, p_tup, p_lst, it_lst, it_tup, it_str, it_rng, e_var, e_con, e_glo, e_tup, e_lst, e_dnew, e_dlit, e_bin, e_cat, e_neg, e_cmp, e_isn, e_chain, e_and, e_or, e_not, e_ite, e_idx, e_slc, e_att, e_call, e_mth, e_mak, e_bi, e_bm, es_nil, es_cons, ep_nil, ep_cons, t_and, t_or, t_not, t_cmp, t_isn, t_chain, t_var, t_call, t_mth, t_bi, t_idx, eAnd_1, eAnd_2, eOr_1, eOr_2, tAnd_1, tAnd_2, tOr_1, tOr_2, x_pass, x_seq, x_ex, x_asgN, x_asgT, sT_nm, sT_tup, sT_lst, sTs_nil, sTs_nm, x_ret, x_ret0, x_ite, x_brk, x_cnt, b_ok, b_some, b_someH, bs_ok, List.getElem?_cons_zero, List.getElem?_cons_succ, List.set_cons_zero, List.set_cons_succ, Option.map_some, List.any_cons, List.any_nil, decide_true, decide_false, bne_self_eq_false, y_int_non, y_int_bl, y_int_int, y_int_str, y_int_tup, y_int_lst, y_int_scr, y_str_non, y_str_bl, y_str_int, y_str_str, y_str_tup, y_str_lst, y_str_scr, y_bool_non, y_bool_bl, y_bool_int, y_bool_str, y_bool_tup, y_bool_lst, y_bool_scr, y_tuple_non, y_tuple_bl, y_tuple_int, y_tuple_str, y_tuple_tup, y_tuple_lst, y_tuple_scr, y_list_non, y_list_bl, y_list_int, y_list_str, y_list_tup, y_list_lst, y_list_scr]⟩) (by rw [sizeLine_eq]; exact (show 0 + 7 ≤ 16777216 by decide))
  rw [if_pos (by decide), b_some, b_ok]
  show bindR (compGo r7 none (.nm 9) _ _ _ r7 [] H) _ = _
  exact (bind_of this).trans rfl
abbrev HH (H0 : AO) (at_ : Int) (w : Tx) (o : D) : AH := H0 :: (h6 at_ ++ (h7 o ++ (h8 w ++ (h9 at_ w ++ (h10 w ++ h11 at_ w o)))))
abbrev bb (c : Int) : D := .lst [.bl (decide (0 = c)), .bl (decide (1 = c)), .bl (decide (2 = c)), .bl (decide (3 = c)), .bl (decide (4 = c)), .bl (decide (5 = c)), .bl (decide (6 = c))]
theorem body12 {H : AH} {m j : Option D} (kk : Int) (i c : Nat) {fs : List (Nat × D)} (hk : kk = c) (hc : c ∈ [0, 1, 2, 3, 4, 5, 6]) (hp : place [D.ref 15, .ref 16, .ref 17, .ref 18, .ref 19, .ref 20, .ref 21] kk = some (.ref i)) (h : H[i]? = some (.exo c fs)) :
    evS (callF PP 39) PP.glob b_law_l6 (sl x0 x1 x2 at_ w o m (some ev7) (some (.int kk)) j) H = .ok .nx (sl x0 x1 x2 at_ w o m (some ev7) (some (.int kk)) j) H := by
  subst hk
  have e0 := one7 (x0 := x0) (x1 := x1) (x2 := x2) (at_ := at_) (w := w) (o := o) (H := H) (m := m) (e := some ev7) (kk := c) (j := j)
  have e1 := c_of h
  have e2 := c_foreign h hc
  have e3 := xcr h
  have e4 : eqD H (.lst [.bl (decide (c ∈ [0])), .bl (decide (c ∈ [1])), .bl (decide (c ∈ [2])), .bl (decide (c ∈ [3])), .bl (decide (c ∈ [4])), .bl (decide (c ∈ [5])), .bl (decide (c ∈ [6]))]) (bb c) = some true := by
    rcases (by simpa using hc : c = 0 ∨ c = 1 ∨ c = 2 ∨ c = 3 ∨ c = 4 ∨ c = 5 ∨ c = 6) with r | r | r | r | r | r | r <;> subst r <;> rfl
  unfold b_law_l6
  simp -implicitDefEqProofs (disch := first | omega | (simp only [List.length_append, List.length_cons, List.length_nil]; omega)) only [start_eq, List.map_cons, List.map_nil, List.replicate_zero, List.replicate_succ, Nat.sub_self, List.append_nil, List.nil_append, List.cons_append, if_true, if_false, Bool.false_eq_true, Bool.true_eq_false, reduceIte, ite_true, ite_false, and_self, and_true, true_and, Bool.not_true, Bool.not_false, Bool.and_true, Bool.true_and, Bool.and_false, Bool.false_and, Bool.or_true, Bool.true_or, Bool.or_false, Bool.false_or, o_addI, o_sub, o_mul, o_fdiv, o_mod, o_pow, v_non, v_bl, v_int, v_str, v_tup, v_lst, v_scr, q_str, q_int, q_bl, q_non, c_eq, c_ne, c_ltI, c_leI, c_gtI, c_geI, c_ltS, c_leS, c_inn, c_nin, i_lst, i_tup, i_str, x_lst, x_tup, l_lst, l_scr, mk_f, mk_t, n_lenL, n_lenT, n_isi, n_intI, n_intS, n_str, n_ord, n_all, n_any, n_tup, n_list, n_set, sq_lst, sq_tup, m_join, k_join, k_dbl, d_bl, d_not, d_int, u_bl, p_non, p_bl, p_int, p_str, p_tup, p_lst, it_lst, it_tup, it_str, it_rng, e_var, e_con, e_glo, e_tup, e_lst, e_dnew, e_dlit, e_bin, e_cat, e_neg, e_cmp, e_isn, e_chain, e_and, e_or, e_not, e_ite, e_idx, e_slc, e_att, e_call, e_mth, e_mak, e_bi, e_bm, es_nil, es_cons, ep_nil, ep_cons, t_and, t_or, t_not, t_cmp, t_isn, t_chain, t_var, t_call, t_mth, t_bi, t_idx, eAnd_1, eAnd_2, eOr_1, eOr_2, tAnd_1, tAnd_2, tOr_1, tOr_2, x_pass, x_seq, x_ex, x_asgN, x_asgT, sT_nm, sT_tup, sT_lst, sTs_nil, sTs_nm, x_ret, x_ret0, x_ite, x_brk, x_cnt, b_ok, b_some, b_someH, bs_ok, List.getElem?_cons_zero, List.getElem?_cons_succ, List.set_cons_zero, List.set_cons_succ, Option.map_some, List.any_cons, List.any_nil, decide_true, decide_false, bne_self_eq_false, y_int_non, y_int_bl, y_int_int, y_int_str, y_int_tup, y_int_lst, y_int_scr, y_str_non, y_str_bl, y_str_int, y_str_str, y_str_tup, y_str_lst, y_str_scr, y_bool_non, y_bool_bl, y_bool_int, y_bool_str, y_bool_tup, y_bool_lst, y_bool_scr, y_tuple_non, y_tuple_bl, y_tuple_int, y_tuple_str, y_tuple_tup, y_tuple_lst, y_tuple_scr, y_list_non, y_list_bl, y_list_int, y_list_str, y_list_tup, y_list_lst, y_list_scr, add_S, slc_S, len_S, idx_S, dbl_S, x_raise, x_tryr, e_mkx, e_isx, t_isx, b_ex, bs_ex, fin_ex, xc_ok, hp, e0, e1, e2, e3, hc, e4]
theorem s12 {H0 : AO} {m k j : Option D} : evS (callF PP 39) PP.glob b_law_s12 (sl x0 x1 x2 at_ w o m (some ev7) k j) (HH H0 at_ w o) = .ok .nx (sl x0 x1 x2 at_ w o m (some ev7) (some (.int 6)) j) (HH H0 at_ w o) := by
  have f : ∀ (kk : Int) (i c : Nat) {fs : List (Nat × D)}, kk = c → c ∈ [0, 1, 2, 3, 4, 5, 6] → place [D.ref 15, .ref 16, .ref 17, .ref 18, .ref 19, .ref 20, .ref 21] kk = some (.ref i) → (HH H0 at_ w o)[i]? = some (.exo c fs) →
      evS (callF PP 39) PP.glob b_law_l6 (sl x0 x1 x2 at_ w o m (some ev7) (some (.int kk)) j) (HH H0 at_ w o) = .ok .nx (sl x0 x1 x2 at_ w o m (some ev7) (some (.int kk)) j) (HH H0 at_ w o) := fun kk i c _ a b p d => body12 kk i c a b p d
  have e0 := f 0 15 0 rfl (by decide) rfl rfl
  have e1 := f 1 16 1 rfl (by decide) rfl rfl
  have e2 := f 2 17 2 rfl (by decide) rfl rfl
  have e3 := f 3 18 3 rfl (by decide) rfl rfl
  have e4 := f 4 19 4 rfl (by decide) rfl rfl
  have e5 := f 5 20 5 rfl (by decide) rfl rfl
  have e6 := f 6 21 6 rfl (by decide) rfl rfl
  unfold b_law_s12
  rw [x_fr]
  have e : evEs (callF PP 39) PP.glob (.cons (.con (.int 7)) .nil) (sl x0 x1 x2 at_ w o m (some ev7) k j) (HH H0 at_ w o) = .ok [.int 7] (HH H0 at_ w o) := rfl
  rw [e, bs_ok, it_rng, if_pos (by decide)]
  show forGo r7 none (.nm 8) _ r7 _ _ = _
  rw [for_nm, show List.set (sl x0 x1 x2 at_ w o m (some ev7) k j) 8 (some (.int 0)) = sl x0 x1 x2 at_ w o m (some ev7) (some (.int 0)) j from rfl, e0]
  simp only []
  rw [for_nm, show List.set (sl x0 x1 x2 at_ w o m (some ev7) (some (.int 0)) j) 8 (some (.int 1)) = sl x0 x1 x2 at_ w o m (some ev7) (some (.int 1)) j from rfl, e1]
  simp only []
  rw [for_nm, show List.set (sl x0 x1 x2 at_ w o m (some ev7) (some (.int 1)) j) 8 (some (.int 2)) = sl x0 x1 x2 at_ w o m (some ev7) (some (.int 2)) j from rfl, e2]
  simp only []
  rw [for_nm, show List.set (sl x0 x1 x2 at_ w o m (some ev7) (some (.int 2)) j) 8 (some (.int 3)) = sl x0 x1 x2 at_ w o m (some ev7) (some (.int 3)) j from rfl, e3]
  simp only []
  rw [for_nm, show List.set (sl x0 x1 x2 at_ w o m (some ev7) (some (.int 3)) j) 8 (some (.int 4)) = sl x0 x1 x2 at_ w o m (some ev7) (some (.int 4)) j from rfl, e4]
  simp only []
  rw [for_nm, show List.set (sl x0 x1 x2 at_ w o m (some ev7) (some (.int 4)) j) 8 (some (.int 5)) = sl x0 x1 x2 at_ w o m (some ev7) (some (.int 5)) j from rfl, e5]
  simp only []
  rw [for_nm, show List.set (sl x0 x1 x2 at_ w o m (some ev7) (some (.int 5)) j) 8 (some (.int 6)) = sl x0 x1 x2 at_ w o m (some ev7) (some (.int 6)) j from rfl, e6]
  simp only []
  rw [for_nil]
theorem caught0 (H : AH) : callF PP 39 (.fn 6) [.str []] H = .ok (.bl false) H := by
  rw [call_fn (fi := ⟨1, 2, true, b_law_caught⟩) rfl rfl]
  unfold b_law_caught
  simp -implicitDefEqProofs (disch := first | omega | (simp only [List.length_append, List.length_cons, List.length_nil]; omega)) only [start_eq, List.map_cons, List.map_nil, List.replicate_zero, List.replicate_succ, Nat.sub_self, List.append_nil, List.nil_append, List.cons_append, if_true, if_false, Bool.false_eq_true, Bool.true_eq_false, reduceIte, ite_true, ite_false, and_self, and_true, true_and, Bool.not_true, Bool.not_false, Bool.and_true, Bool.true_and, Bool.and_false, Bool.false_and, Bool.or_true, Bool.true_or, Bool.or_false, Bool.false_or, o_addI, o_sub, o_mul, o_fdiv, o_mod, o_pow, v_non, v_bl, v_int, v_str, v_tup, v_lst, v_scr, q_str, q_int, q_bl, q_non, c_eq, c_ne, c_ltI, c_leI, c_gtI, c_geI, c_ltS, c_leS, c_inn, c_nin, i_lst, i_tup, i_str, x_lst, x_tup, l_lst, l_scr, mk_f, mk_t, n_lenL, n_lenT, n_isi, n_intI, n_intS, n_str, n_ord, n_all, n_any, n_tup, n_list, n_set, sq_lst, sq_tup, m_join, k_join, k_dbl, d_bl, d_not, d_int, u_bl, p_non, p_bl, p_int, p_str, p_tup, p_lst, it_lst, it_tup, it_str, it_rng, e_var, e_con, e_glo, e_tup, e_lst, e_dnew, e_dlit, e_bin, e_cat, e_neg, e_cmp, e_isn, e_chain, e_and, e_or, e_not, e_ite, e_idx, e_slc, e_att, e_call, e_mth, e_mak, e_bi, e_bm, es_nil, es_cons, ep_nil, ep_cons, t_and, t_or, t_not, t_cmp, t_isn, t_chain, t_var, t_call, t_mth, t_bi, t_idx, eAnd_1, eAnd_2, eOr_1, eOr_2, tAnd_1, tAnd_2, tOr_1, tOr_2, x_pass, x_seq, x_ex, x_asgN, x_asgT, sT_nm, sT_tup, sT_lst, sTs_nil, sTs_nm, x_ret, x_ret0, x_ite, x_brk, x_cnt, b_ok, b_some, b_someH, bs_ok, List.getElem?_cons_zero, List.getElem?_cons_succ, List.set_cons_zero, List.set_cons_succ, Option.map_some, List.any_cons, List.any_nil, decide_true, decide_false, bne_self_eq_false, y_int_non, y_int_bl, y_int_int, y_int_str, y_int_tup, y_int_lst, y_int_scr, y_str_non, y_str_bl, y_str_int, y_str_str, y_str_tup, y_str_lst, y_str_scr, y_bool_non, y_bool_bl, y_bool_int, y_bool_str, y_bool_tup, y_bool_lst, y_bool_scr, y_tuple_non, y_tuple_bl, y_tuple_int, y_tuple_str, y_tuple_tup, y_tuple_lst, y_tuple_scr, y_list_non, y_list_bl, y_list_int, y_list_str, y_list_tup, y_list_lst, y_list_scr, add_S, slc_S, len_S, idx_S, dbl_S, x_raise, x_tryr, e_mkx, e_isx, t_isx, b_ex, bs_ex, fin_ex, xc_ok]
  show fin true H (.ok (.rt (.bl false)) _ H) = _
  rw [fin_rt]
theorem caught1 (H : AH) : callF PP 39 (.fn 6) [.str [101, 110]] H = .ok (.bl true) H := by
  rw [call_fn (fi := ⟨1, 2, true, b_law_caught⟩) rfl rfl]
  unfold b_law_caught
  simp -implicitDefEqProofs (disch := first | omega | (simp only [List.length_append, List.length_cons, List.length_nil]; omega)) only [start_eq, List.map_cons, List.map_nil, List.replicate_zero, List.replicate_succ, Nat.sub_self, List.append_nil, List.nil_append, List.cons_append, if_true, if_false, Bool.false_eq_true, Bool.true_eq_false, reduceIte, ite_true, ite_false, and_self, and_true, true_and, Bool.not_true, Bool.not_false, Bool.and_true, Bool.true_and, Bool.and_false, Bool.false_and, Bool.or_true, Bool.true_or, Bool.or_false, Bool.false_or, o_addI, o_sub, o_mul, o_fdiv, o_mod, o_pow, v_non, v_bl, v_int, v_str, v_tup, v_lst, v_scr, q_str, q_int, q_bl, q_non, c_eq, c_ne, c_ltI, c_leI, c_gtI, c_geI, c_ltS, c_leS, c_inn, c_nin, i_lst, i_tup, i_str, x_lst, x_tup, l_lst, l_scr, mk_f, mk_t, n_lenL, n_lenT, n_isi, n_intI, n_intS, n_str, n_ord, n_all, n_any, n_tup, n_list, n_set, sq_lst, sq_tup, m_join, k_join, k_dbl, d_bl, d_not, d_int, u_bl, p_non, p_bl, p_int, p_str, p_tup, p_lst, it_lst, it_tup, it_str, it_rng, e_var, e_con, e_glo, e_tup, e_lst, e_dnew, e_dlit, e_bin, e_cat, e_neg, e_cmp, e_isn, e_chain, e_and, e_or, e_not, e_ite, e_idx, e_slc, e_att, e_call, e_mth, e_mak, e_bi, e_bm, es_nil, es_cons, ep_nil, ep_cons, t_and, t_or, t_not, t_cmp, t_isn, t_chain, t_var, t_call, t_mth, t_bi, t_idx, eAnd_1, eAnd_2, eOr_1, eOr_2, tAnd_1, tAnd_2, tOr_1, tOr_2, x_pass, x_seq, x_ex, x_asgN, x_asgT, sT_nm, sT_tup, sT_lst, sTs_nil, sTs_nm, x_ret, x_ret0, x_ite, x_brk, x_cnt, b_ok, b_some, b_someH, bs_ok, List.getElem?_cons_zero, List.getElem?_cons_succ, List.set_cons_zero, List.set_cons_succ, Option.map_some, List.any_cons, List.any_nil, decide_true, decide_false, bne_self_eq_false, y_int_non, y_int_bl, y_int_int, y_int_str, y_int_tup, y_int_lst, y_int_scr, y_str_non, y_str_bl, y_str_int, y_str_str, y_str_tup, y_str_lst, y_str_scr, y_bool_non, y_bool_bl, y_bool_int, y_bool_str, y_bool_tup, y_bool_lst, y_bool_scr, y_tuple_non, y_tuple_bl, y_tuple_int, y_tuple_str, y_tuple_tup, y_tuple_lst, y_tuple_scr, y_list_non, y_list_bl, y_list_int, y_list_str, y_list_tup, y_list_lst, y_list_scr, add_S, slc_S, len_S, idx_S, dbl_S, x_raise, x_tryr, e_mkx, e_isx, t_isx, b_ex, bs_ex, fin_ex, xc_ok]
  show fin true H (.ok (.rt (.bl true)) _ H) = _
  rw [fin_rt]
theorem s13 {H : AH} {m e k j : Option D} : evS (callF PP 39) PP.glob b_law_s13 (sl x0 x1 x2 at_ w o m e k j) H = .ok (.rt (.bl true)) (sl x0 x1 x2 at_ w o m e k j) H := by
  have e0 := caught0 H
  have e1 := caught1 H
  unfold b_law_s13
  simp -implicitDefEqProofs (disch := first | omega | (simp only [List.length_append, List.length_cons, List.length_nil]; omega)) only [start_eq, List.map_cons, List.map_nil, List.replicate_zero, List.replicate_succ, Nat.sub_self, List.append_nil, List.nil_append, List.cons_append, if_true, if_false, Bool.false_eq_true, Bool.true_eq_false, reduceIte, ite_true, ite_false, and_self, and_true, true_and, Bool.not_true, Bool.not_false, Bool.and_true, Bool.true_and, Bool.and_false, Bool.false_and, Bool.or_true, Bool.true_or, Bool.or_false, Bool.false_or, o_addI, o_sub, o_mul, o_fdiv, o_mod, o_pow, v_non, v_bl, v_int, v_str, v_tup, v_lst, v_scr, q_str, q_int, q_bl, q_non, c_eq, c_ne, c_ltI, c_leI, c_gtI, c_geI, c_ltS, c_leS, c_inn, c_nin, i_lst, i_tup, i_str, x_lst, x_tup, l_lst, l_scr, mk_f, mk_t, n_lenL, n_lenT, n_isi, n_intI, n_intS, n_str, n_ord, n_all, n_any, n_tup, n_list, n_set, sq_lst, sq_tup, m_join, k_join, k_dbl, d_bl, d_not, d_int, u_bl, p_non, p_bl, p_int, p_str, p_tup, p_lst, it_lst, it_tup, it_str, it_rng, e_var, e_con, e_glo, e_tup, e_lst, e_dnew, e_dlit, e_bin, e_cat, e_neg, e_cmp, e_isn, e_chain, e_and, e_or, e_not, e_ite, e_idx, e_slc, e_att, e_call, e_mth, e_mak, e_bi, e_bm, es_nil, es_cons, ep_nil, ep_cons, t_and, t_or, t_not, t_cmp, t_isn, t_chain, t_var, t_call, t_mth, t_bi, t_idx, eAnd_1, eAnd_2, eOr_1, eOr_2, tAnd_1, tAnd_2, tOr_1, tOr_2, x_pass, x_seq, x_ex, x_asgN, x_asgT, sT_nm, sT_tup, sT_lst, sTs_nil, sTs_nm, x_ret, x_ret0, x_ite, x_brk, x_cnt, b_ok, b_some, b_someH, bs_ok, List.getElem?_cons_zero, List.getElem?_cons_succ, List.set_cons_zero, List.set_cons_succ, Option.map_some, List.any_cons, List.any_nil, decide_true, decide_false, bne_self_eq_false, y_int_non, y_int_bl, y_int_int, y_int_str, y_int_tup, y_int_lst, y_int_scr, y_str_non, y_str_bl, y_str_int, y_str_str, y_str_tup, y_str_lst, y_str_scr, y_bool_non, y_bool_bl, y_bool_int, y_bool_str, y_bool_tup, y_bool_lst, y_bool_scr, y_tuple_non, y_tuple_bl, y_tuple_int, y_tuple_str, y_tuple_tup, y_tuple_lst, y_tuple_scr, y_list_non, y_list_bl, y_list_int, y_list_str, y_list_tup, y_list_lst, y_list_scr, add_S, slc_S, len_S, idx_S, dbl_S, x_raise, x_tryr, e_mkx, e_isx, t_isx, b_ex, bs_ex, fin_ex, xc_ok, e0, e1]
end
end K00
end

section
set_option Elab.async false
set_option linter.all false
set_option maxRecDepth 100000
namespace K00
open Ev PySem
theorem four (v : Int) (h0 : 0 ≤ v) (h1 : v < 4) : ∃ w : Tx, place [D.str [120], .str [97, 32, 98], .str [], .str [48]] v = some (.str w) := by
  rcases (by omega : v = 0 ∨ v = 1 ∨ v = 2 ∨ v = 3) with r | r | r | r <;> subst r <;> exact ⟨_, rfl⟩
theorem five (at_ : Int) (w : Tx) (v : Int) (h0 : 0 ≤ v) (h1 : v < 5) : ∃ o : D, place [.non, .int (-at_), .str w, .tup [.int at_], .bl true] v = some o ∧ dep o ≤ 5 ∧ sok o = true := by
  rcases (by omega : v = 0 ∨ v = 1 ∨ v = 2 ∨ v = 3 ∨ v = 4) with r | r | r | r | r <;> subst r
  · exact ⟨_, rfl, Nat.zero_le 5, rfl⟩
  · exact ⟨_, rfl, Nat.zero_le 5, rfl⟩
  · exact ⟨_, rfl, Nat.zero_le 5, rfl⟩
  · exact ⟨_, rfl, (show 1 ≤ 5 by decide), rfl⟩
  · exact ⟨_, rfl, Nat.zero_le 5, rfl⟩
theorem law_val (ns : List Int) (h : ns.length ≤ 63) (hb : ∀ z ∈ ns, Builtin.Int.intBits z ≤ 1048576) : ∃ A, callF PP 40 (.fn 7) [.scr ns] [] = .ok (.bl true) A := by
  obtain ⟨row, hr, e1⟩ := c_numbers 38 ns hb h []
  obtain ⟨v1, e3, a3, b3⟩ := c_take hr 37 0 0 997 (by decide) (by decide) (by decide) [.lst [.int 0]] rfl
  obtain ⟨v2, e4, a4, b4⟩ := c_take hr 37 0 1 4 (by decide) (by decide) (by decide) [.lst [.int 1]] rfl
  obtain ⟨v3, e5, a5, b5⟩ := c_take hr 37 0 2 5 (by decide) (by decide) (by decide) [.lst [.int 2]] rfl
  obtain ⟨w, hw⟩ := four v2 a4 b4
  obtain ⟨o, ho, ho1, ho2⟩ := five (v1 - 9) w v3 a5 b5
  have e1 : callF PP 39 (.fn 1) [.scr ns] [] = .ok (.lst (row.map .int)) [] := e1
  have e3 : callF PP 39 (.fn 3) [.lst (row.map .int), .ref 0, .int 997] [.lst [.int 0]] = .ok (.int v1) [.lst [.int 1]] := e3
  have e4 : callF PP 39 (.fn 3) [.lst (row.map .int), .ref 0, .int 4] [.lst [.int 1]] = .ok (.int v2) [.lst [.int 2]] := e4
  have e5 : callF PP 39 (.fn 3) [.lst (row.map .int), .ref 0, .int 5] [.lst [.int 2]] = .ok (.int v3) [.lst [.int 3]] := e5
  have q1 : evS (callF PP 39) PP.glob b_law_s1 [some (.scr ns), none, none, none, none, none, none, none, none, none] [] = .ok .nx [some (.scr ns), some (.lst (row.map .int)), none, none, none, none, none, none, none, none] [] := by
    unfold b_law_s1
    simp -implicitDefEqProofs (disch := first | omega | (simp only [List.length_append, List.length_cons, List.length_nil]; omega)) only [start_eq, List.map_cons, List.map_nil, List.replicate_zero, List.replicate_succ, Nat.sub_self, List.append_nil, List.nil_append, List.cons_append, if_true, if_false, Bool.false_eq_true, Bool.true_eq_false, reduceIte, ite_true, ite_false, and_self, and_true, true_and, Bool.not_true, Bool.not_false, Bool.and_true, Bool.true_and, Bool.and_false, Bool.false_and, Bool.or_true, Bool.true_or, Bool.or_false, Bool.false_or, o_addI, o_sub, o_mul, o_fdiv, o_mod, o_pow, v_non, v_bl, v_int, v_str, v_tup, v_lst, v_scr, q_str, q_int, q_bl, q_non, c_eq, c_ne, c_ltI, c_leI, c_gtI, c_geI, c_ltS, c_leS, c_inn, c_nin, i_lst, i_tup, i_str, x_lst, x_tup, l_lst, l_scr, mk_f, mk_t, n_lenL, n_lenT, n_isi, n_intI, n_intS, n_str, n_ord, n_all, n_any, n_tup, n_list, n_set, sq_lst, sq_tup, m_join, k_join, k_dbl, d_bl, d_not, d_int, u_bl, p_non, p_bl, p_int, p_str, p_tup, p_lst, it_lst, it_tup, it_str, it_rng, e_var, e_con, e_glo, e_tup, e_lst, e_dnew, e_dlit, e_bin, e_cat, e_neg, e_cmp, e_isn, e_chain, e_and, e_or, e_not, e_ite, e_idx, e_slc, e_att, e_call, e_mth, e_mak, e_bi, e_bm, es_nil, es_cons, ep_nil, ep_cons, t_and, t_or, t_not, t_cmp, t_isn, t_chain, t_var, t_call, t_mth, t_bi, t_idx, eAnd_1, eAnd_2, eOr_1, eOr_2, tAnd_1, tAnd_2, tOr_1, tOr_2, x_pass, x_seq, x_ex, x_asgN, x_asgT, sT_nm, sT_tup, sT_lst, sTs_nil, sTs_nm, x_ret, x_ret0, x_ite, x_brk, x_cnt, b_ok, b_some, b_someH, bs_ok, List.getElem?_cons_zero, List.getElem?_cons_succ, List.set_cons_zero, List.set_cons_succ, Option.map_some, List.any_cons, List.any_nil, decide_true, decide_false, bne_self_eq_false, y_int_non, y_int_bl, y_int_int, y_int_str, y_int_tup, y_int_lst, y_int_scr, y_str_non, y_str_bl, y_str_int, y_str_str, y_str_tup, y_str_lst, y_str_scr, y_bool_non, y_bool_bl, y_bool_int, y_bool_str, y_bool_tup, y_bool_lst, y_bool_scr, y_tuple_non, y_tuple_bl, y_tuple_int, y_tuple_str, y_tuple_tup, y_tuple_lst, y_tuple_scr, y_list_non, y_list_bl, y_list_int, y_list_str, y_list_tup, y_list_lst, y_list_scr, add_S, slc_S, len_S, idx_S, dbl_S, x_raise, x_tryr, e_mkx, e_isx, t_isx, b_ex, bs_ex, fin_ex, xc_ok, e1]
  have q2 : evS (callF PP 39) PP.glob b_law_s2 [some (.scr ns), some (.lst (row.map .int)), none, none, none, none, none, none, none, none] [] = .ok .nx [some (.scr ns), some (.lst (row.map .int)), some (.ref 0), none, none, none, none, none, none, none] [.lst [.int 0]] := by
    unfold b_law_s2
    simp -implicitDefEqProofs (disch := first | omega | (simp only [List.length_append, List.length_cons, List.length_nil]; omega)) only [start_eq, List.map_cons, List.map_nil, List.replicate_zero, List.replicate_succ, Nat.sub_self, List.append_nil, List.nil_append, List.cons_append, if_true, if_false, Bool.false_eq_true, Bool.true_eq_false, reduceIte, ite_true, ite_false, and_self, and_true, true_and, Bool.not_true, Bool.not_false, Bool.and_true, Bool.true_and, Bool.and_false, Bool.false_and, Bool.or_true, Bool.true_or, Bool.or_false, Bool.false_or, o_addI, o_sub, o_mul, o_fdiv, o_mod, o_pow, v_non, v_bl, v_int, v_str, v_tup, v_lst, v_scr, q_str, q_int, q_bl, q_non, c_eq, c_ne, c_ltI, c_leI, c_gtI, c_geI, c_ltS, c_leS, c_inn, c_nin, i_lst, i_tup, i_str, x_lst, x_tup, l_lst, l_scr, mk_f, mk_t, n_lenL, n_lenT, n_isi, n_intI, n_intS, n_str, n_ord, n_all, n_any, n_tup, n_list, n_set, sq_lst, sq_tup, m_join, k_join, k_dbl, d_bl, d_not, d_int, u_bl, p_non, p_bl, p_int, p_str, p_tup, p_lst, it_lst, it_tup, it_str, it_rng, e_var, e_con, e_glo, e_tup, e_lst, e_dnew, e_dlit, e_bin, e_cat, e_neg, e_cmp, e_isn, e_chain, e_and, e_or, e_not, e_ite, e_idx, e_slc, e_att, e_call, e_mth, e_mak, e_bi, e_bm, es_nil, es_cons, ep_nil, ep_cons, t_and, t_or, t_not, t_cmp, t_isn, t_chain, t_var, t_call, t_mth, t_bi, t_idx, eAnd_1, eAnd_2, eOr_1, eOr_2, tAnd_1, tAnd_2, tOr_1, tOr_2, x_pass, x_seq, x_ex, x_asgN, x_asgT, sT_nm, sT_tup, sT_lst, sTs_nil, sTs_nm, x_ret, x_ret0, x_ite, x_brk, x_cnt, b_ok, b_some, b_someH, bs_ok, List.getElem?_cons_zero, List.getElem?_cons_succ, List.set_cons_zero, List.set_cons_succ, Option.map_some, List.any_cons, List.any_nil, decide_true, decide_false, bne_self_eq_false, y_int_non, y_int_bl, y_int_int, y_int_str, y_int_tup, y_int_lst, y_int_scr, y_str_non, y_str_bl, y_str_int, y_str_str, y_str_tup, y_str_lst, y_str_scr, y_bool_non, y_bool_bl, y_bool_int, y_bool_str, y_bool_tup, y_bool_lst, y_bool_scr, y_tuple_non, y_tuple_bl, y_tuple_int, y_tuple_str, y_tuple_tup, y_tuple_lst, y_tuple_scr, y_list_non, y_list_bl, y_list_int, y_list_str, y_list_tup, y_list_lst, y_list_scr, add_S, slc_S, len_S, idx_S, dbl_S, x_raise, x_tryr, e_mkx, e_isx, t_isx, b_ex, bs_ex, fin_ex, xc_ok, List.length_nil]
  have q3 : evS (callF PP 39) PP.glob b_law_s3 [some (.scr ns), some (.lst (row.map .int)), some (.ref 0), none, none, none, none, none, none, none] [.lst [.int 0]] = .ok .nx [some (.scr ns), some (.lst (row.map .int)), some (.ref 0), some (.int (v1 - 9)), none, none, none, none, none, none] [.lst [.int 1]] := by
    unfold b_law_s3
    simp -implicitDefEqProofs (disch := first | omega | (simp only [List.length_append, List.length_cons, List.length_nil]; omega)) only [start_eq, List.map_cons, List.map_nil, List.replicate_zero, List.replicate_succ, Nat.sub_self, List.append_nil, List.nil_append, List.cons_append, if_true, if_false, Bool.false_eq_true, Bool.true_eq_false, reduceIte, ite_true, ite_false, and_self, and_true, true_and, Bool.not_true, Bool.not_false, Bool.and_true, Bool.true_and, Bool.and_false, Bool.false_and, Bool.or_true, Bool.true_or, Bool.or_false, Bool.false_or, o_addI, o_sub, o_mul, o_fdiv, o_mod, o_pow, v_non, v_bl, v_int, v_str, v_tup, v_lst, v_scr, q_str, q_int, q_bl, q_non, c_eq, c_ne, c_ltI, c_leI, c_gtI, c_geI, c_ltS, c_leS, c_inn, c_nin, i_lst, i_tup, i_str, x_lst, x_tup, l_lst, l_scr, mk_f, mk_t, n_lenL, n_lenT, n_isi, n_intI, n_intS, n_str, n_ord, n_all, n_any, n_tup, n_list, n_set, sq_lst, sq_tup, m_join, k_join, k_dbl, d_bl, d_not, d_int, u_bl, p_non, p_bl, p_int, p_str, p_tup, p_lst, it_lst, it_tup, it_str, it_rng, e_var, e_con, e_glo, e_tup, e_lst, e_dnew, e_dlit, e_bin, e_cat, e_neg, e_cmp, e_isn, e_chain, e_and, e_or, e_not, e_ite, e_idx, e_slc, e_att, e_call, e_mth, e_mak, e_bi, e_bm, es_nil, es_cons, ep_nil, ep_cons, t_and, t_or, t_not, t_cmp, t_isn, t_chain, t_var, t_call, t_mth, t_bi, t_idx, eAnd_1, eAnd_2, eOr_1, eOr_2, tAnd_1, tAnd_2, tOr_1, tOr_2, x_pass, x_seq, x_ex, x_asgN, x_asgT, sT_nm, sT_tup, sT_lst, sTs_nil, sTs_nm, x_ret, x_ret0, x_ite, x_brk, x_cnt, b_ok, b_some, b_someH, bs_ok, List.getElem?_cons_zero, List.getElem?_cons_succ, List.set_cons_zero, List.set_cons_succ, Option.map_some, List.any_cons, List.any_nil, decide_true, decide_false, bne_self_eq_false, y_int_non, y_int_bl, y_int_int, y_int_str, y_int_tup, y_int_lst, y_int_scr, y_str_non, y_str_bl, y_str_int, y_str_str, y_str_tup, y_str_lst, y_str_scr, y_bool_non, y_bool_bl, y_bool_int, y_bool_str, y_bool_tup, y_bool_lst, y_bool_scr, y_tuple_non, y_tuple_bl, y_tuple_int, y_tuple_str, y_tuple_tup, y_tuple_lst, y_tuple_scr, y_list_non, y_list_bl, y_list_int, y_list_str, y_list_tup, y_list_lst, y_list_scr, add_S, slc_S, len_S, idx_S, dbl_S, x_raise, x_tryr, e_mkx, e_isx, t_isx, b_ex, bs_ex, fin_ex, xc_ok, e3]
  have q4 : evS (callF PP 39) PP.glob b_law_s4 [some (.scr ns), some (.lst (row.map .int)), some (.ref 0), some (.int (v1 - 9)), none, none, none, none, none, none] [.lst [.int 1]] = .ok .nx [some (.scr ns), some (.lst (row.map .int)), some (.ref 0), some (.int (v1 - 9)), some (.str w), none, none, none, none, none] [.lst [.int 2]] := by
    unfold b_law_s4
    simp -implicitDefEqProofs (disch := first | omega | (simp only [List.length_append, List.length_cons, List.length_nil]; omega)) only [start_eq, List.map_cons, List.map_nil, List.replicate_zero, List.replicate_succ, Nat.sub_self, List.append_nil, List.nil_append, List.cons_append, if_true, if_false, Bool.false_eq_true, Bool.true_eq_false, reduceIte, ite_true, ite_false, and_self, and_true, true_and, Bool.not_true, Bool.not_false, Bool.and_true, Bool.true_and, Bool.and_false, Bool.false_and, Bool.or_true, Bool.true_or, Bool.or_false, Bool.false_or, o_addI, o_sub, o_mul, o_fdiv, o_mod, o_pow, v_non, v_bl, v_int, v_str, v_tup, v_lst, v_scr, q_str, q_int, q_bl, q_non, c_eq, c_ne, c_ltI, c_leI, c_gtI, c_geI, c_ltS, c_leS, c_inn, c_nin, i_lst, i_tup, i_str, x_lst, x_tup, l_lst, l_scr, mk_f, mk_t, n_lenL, n_lenT, n_isi, n_intI, n_intS, n_str, n_ord, n_all, n_any, n_tup, n_list, n_set, sq_lst, sq_tup, m_join, k_join, k_dbl, d_bl, d_not, d_int, u_bl, p_non, p_bl, p_int, p_str, p_tup, p_lst, it_lst, it_tup, it_str, it_rng, e_var, e_con, e_glo, e_tup, e_lst, e_dnew, e_dlit, e_bin, e_cat, e_neg, e_cmp, e_isn, e_chain, e_and, e_or, e_not, e_ite, e_idx, e_slc, e_att, e_call, e_mth, e_mak, e_bi, e_bm, es_nil, es_cons, ep_nil, ep_cons, t_and, t_or, t_not, t_cmp, t_isn, t_chain, t_var, t_call, t_mth, t_bi, t_idx, eAnd_1, eAnd_2, eOr_1, eOr_2, tAnd_1, tAnd_2, tOr_1, tOr_2, x_pass, x_seq, x_ex, x_asgN, x_asgT, sT_nm, sT_tup, sT_lst, sTs_nil, sTs_nm, x_ret, x_ret0, x_ite, x_brk, x_cnt, b_ok, b_some, b_someH, bs_ok, List.getElem?_cons_zero, List.getElem?_cons_succ, List.set_cons_zero, List.set_cons_succ, Option.map_some, List.any_cons, List.any_nil, decide_true, decide_false, bne_self_eq_false, y_int_non, y_int_bl, y_int_int, y_int_str, y_int_tup, y_int_lst, y_int_scr, y_str_non, y_str_bl, y_str_int, y_str_str, y_str_tup, y_str_lst, y_str_scr, y_bool_non, y_bool_bl, y_bool_int, y_bool_str, y_bool_tup, y_bool_lst, y_bool_scr, y_tuple_non, y_tuple_bl, y_tuple_int, y_tuple_str, y_tuple_tup, y_tuple_lst, y_tuple_scr, y_list_non, y_list_bl, y_list_int, y_list_str, y_list_tup, y_list_lst, y_list_scr, add_S, slc_S, len_S, idx_S, dbl_S, x_raise, x_tryr, e_mkx, e_isx, t_isx, b_ex, bs_ex, fin_ex, xc_ok, e4, hw]
  have q5 : evS (callF PP 39) PP.glob b_law_s5 [some (.scr ns), some (.lst (row.map .int)), some (.ref 0), some (.int (v1 - 9)), some (.str w), none, none, none, none, none] [.lst [.int 2]] = .ok .nx (sl (.scr ns) (.lst (row.map .int)) (.ref 0) (v1 - 9) w o none none none none) [.lst [.int 3]] := by
    unfold b_law_s5
    simp -implicitDefEqProofs (disch := first | omega | (simp only [List.length_append, List.length_cons, List.length_nil]; omega)) only [start_eq, List.map_cons, List.map_nil, List.replicate_zero, List.replicate_succ, Nat.sub_self, List.append_nil, List.nil_append, List.cons_append, if_true, if_false, Bool.false_eq_true, Bool.true_eq_false, reduceIte, ite_true, ite_false, and_self, and_true, true_and, Bool.not_true, Bool.not_false, Bool.and_true, Bool.true_and, Bool.and_false, Bool.false_and, Bool.or_true, Bool.true_or, Bool.or_false, Bool.false_or, o_addI, o_sub, o_mul, o_fdiv, o_mod, o_pow, v_non, v_bl, v_int, v_str, v_tup, v_lst, v_scr, q_str, q_int, q_bl, q_non, c_eq, c_ne, c_ltI, c_leI, c_gtI, c_geI, c_ltS, c_leS, c_inn, c_nin, i_lst, i_tup, i_str, x_lst, x_tup, l_lst, l_scr, mk_f, mk_t, n_lenL, n_lenT, n_isi, n_intI, n_intS, n_str, n_ord, n_all, n_any, n_tup, n_list, n_set, sq_lst, sq_tup, m_join, k_join, k_dbl, d_bl, d_not, d_int, u_bl, p_non, p_bl, p_int, p_str, p_tup, p_lst, it_lst, it_tup, it_str, it_rng, e_var, e_con, e_glo, e_tup, e_lst, e_dnew, e_dlit, e_bin, e_cat, e_neg, e_cmp, e_isn, e_chain, e_and, e_or, e_not, e_ite, e_idx, e_slc, e_att, e_call, e_mth, e_mak, e_bi, e_bm, es_nil, es_cons, ep_nil, ep_cons, t_and, t_or, t_not, t_cmp, t_isn, t_chain, t_var, t_call, t_mth, t_bi, t_idx, eAnd_1, eAnd_2, eOr_1, eOr_2, tAnd_1, tAnd_2, tOr_1, tOr_2, x_pass, x_seq, x_ex, x_asgN, x_asgT, sT_nm, sT_tup, sT_lst, sTs_nil, sTs_nm, x_ret, x_ret0, x_ite, x_brk, x_cnt, b_ok, b_some, b_someH, bs_ok, List.getElem?_cons_zero, List.getElem?_cons_succ, List.set_cons_zero, List.set_cons_succ, Option.map_some, List.any_cons, List.any_nil, decide_true, decide_false, bne_self_eq_false, y_int_non, y_int_bl, y_int_int, y_int_str, y_int_tup, y_int_lst, y_int_scr, y_str_non, y_str_bl, y_str_int, y_str_str, y_str_tup, y_str_lst, y_str_scr, y_bool_non, y_bool_bl, y_bool_int, y_bool_str, y_bool_tup, y_bool_lst, y_bool_scr, y_tuple_non, y_tuple_bl, y_tuple_int, y_tuple_str, y_tuple_tup, y_tuple_lst, y_tuple_scr, y_list_non, y_list_bl, y_list_int, y_list_str, y_list_tup, y_list_lst, y_list_scr, add_S, slc_S, len_S, idx_S, dbl_S, x_raise, x_tryr, e_mkx, e_isx, t_isx, b_ex, bs_ex, fin_ex, xc_ok, e5, ho]
  rw [call_fn (fi := ⟨1, 10, true, b_law⟩) rfl rfl]
  unfold b_law
  refine ⟨[], ?_⟩
  show fin true [] (evS (callF PP 39) PP.glob _ [some (.scr ns), none, none, none, none, none, none, none, none, none] []) = _
  rw [seq_of q1, seq_of q2, seq_of q3, seq_of q4, seq_of q5, seq_of s6, seq_of (s7 ho1 ho2), seq_of s8, seq_of s9, seq_of s10, seq_of s11, seq_of s12, x_seq, s13]
  rfl
end K00
end

section
set_option Elab.async false
set_option linter.all false
set_option maxRecDepth 100000
set_option maxHeartbeats 0
namespace K00
open Ev PySem PySem.Spec PyProof.Rows L2
def adrs : List Addr := [3,6,4,24,44,63,82,101,120,139,158,167,174,181,188,195,202,209,214,0,23,43,62,81,100,119,138,157,166,173,180,187,194,201,208,213,22,25,41,42,60,61,79,80,98,99,117,118,136,137,155,156,161,162,163,164,165,168,169,170,171,172,175,176,177,178,179,182,183,184,185,186,189,190,191,192,193,196,197,198,199,200,203,204,205,206,207,210,211,212,40,59,78,97,116,135,154,35,36,37,38,39,54,55,56,57,58,73,74,75,76,77,92,93,94,95,96,111,112,113,114,115,130,131,132,133,134,149,150,151,152,153]
abbrev hk : PySem.W.Hook := hookY (fun _ => adrs) fa (fn ++ fx) (exB nm)
def ob (s : PySem.W.SharedT) : AlY := obsY (fun _ => adrs) fa (fn ++ fx) (exB nm) (HandSHeadRun.getT s)
theorem ob_eq (s : PySem.W.SharedT) : ob s = hk.obs s.abs := obsY_eq (HandSHeadRun.getT_eq s)
theorem run (w : World) : HandSHeadRun.RunEq R (PySem.W.view R.prog [17]) hk ob 40000 loose w := by
  intro os
  kernel_rfl
end K00
end

section
set_option Elab.async false
set_option linter.all false
set_option maxRecDepth 100000
set_option maxHeartbeats 0
namespace K00
open Ev PySem PySem.Spec PyProof.Rows L2
abbrev fuel : Nat := 40
theorem facts {P : Program} {w : World} {K : PySem.W.Frag} {h : Heap} {mg : Str → Option Value} {f : Addr} (X : K.In h) (G : h.Ns mainGlobals mg) (hfa : mg ("law" : Str) = some (.ref f)) (c : He.SaysD fa (fn ++ fx) K) (cx : exB nm K = true) :
    ∃ (fd : FuncData), (∀ (s : Shared) (u : Value), BindsTo s fd ⟨[u], []⟩ [("script", u)]) ∧ ∀ base : Heap, K.In base → base.Ns mainGlobals mg → FnOk P w K mg base (L2.CX P w) fuel f fd ["script"] (spF (tbOf nm K) PP fuel (.fn 7)) := by
  have hd := hdf_of (nm := nm) (P := PP) (slots := slots) (fn := fn) (fx := fx) c cx allx_ok X G all_ok rest_ok rfl
  obtain ⟨d, fd, ps, N, h1, h2, h3, h4, h5, h6, h7, h8, h9⟩ := hd.fn 7 _ rfl
  have e8 : some ps = some (["script"] : List Str) := h8.symm.trans rfl
  injection e8 with e8
  subst e8
  rcases h9 with ⟨x, e1, e2⟩ | ⟨c', m, e1, _⟩
  · have e0 : nm.fns[7]? = some ((none, ("law" : Str)) : Option Nat × Str) := rfl
    have e3 : (some (none, x) : Option (Option Nat × Str)) = some (none, ("law" : Str)) := e1.symm.trans e0
    injection e3 with e3
    injection e3 with _ e3
    subst e3
    rw [hfa] at e2
    injection e2 with e2
    injection e2 with e2
    refine ⟨fd, fun s u => ?_, fun base _ _ => ?_⟩
    · exact binds_any h1 h6 h5 s [u] rfl
    · rw [e2]
      exact fns_ok hd fuel 7 _ d fd _ N rfl h8 h1 h2 h3 h4 h7
  · have e0 : nm.fns[7]? = some ((none, ("law" : Str)) : Option Nat × Str) := rfl
    have e3 : (some (some c', m) : Option (Option Nat × Str)) = some (none, ("law" : Str)) := e1.symm.trans e0
    cases e3
end K00
open PySem PySem.W PySem.Calls PyProof.Rows
theorem PySem.Challenge.cw_readhome_k00_errors_holds : PySem.Challenge.rw_readhome_k00_errors.Holds := by
  w_on; o_law
  refine HandSHeadRun.head_any (r := OpenLaw.row PySem.Challenge.rw_readhome_k00_errors) (q := view (OpenLaw.row PySem.Challenge.rw_readhome_k00_errors).prog [17]) (H := K00.hk) (ob := K00.ob) (M := 40000) (loose := K00.loose) (d := HandSHeadRun.topDef (OpenLaw.row PySem.Challenge.rw_readhome_k00_errors).prog 17) (kwd := []) K00.ob_eq
    (by kernel_rfl) (fun s => by kernel_rfl) K00.run (by kernel_rfl) (by kernel_rfl) (by kernel_rfl) (by rfl) (by first | assumption | decide +kernel) (by decide +kernel) ⟨rfl, rfl, rfl, rfl, rfl, by decide +kernel⟩ ?hw ?hc
  case hw => w_witness2
  case hc =>
    refine Ev.walk_ofEB (l := PySem.Challenge.rw_readhome_k00_errors) (n := 63) (k := K00.fuel) (x := "script") rfl (by decide) (by kernel_rfl) ⟨rfl, by decide, by decide⟩ ?F
    intro w mg fa h Y G hmg0
    obtain ⟨K, KX, c, cx⟩ := Y
    have hmg : mg ("law" : PySem.Str) = some (.ref fa) := by
      have e : (HandSHeadRun.topDef (OpenLaw.row PySem.Challenge.rw_readhome_k00_errors).prog 17).name = ("law" : PySem.Str) := by kernel_rfl
      rw [← e]
      exact hmg0
    obtain ⟨fd, hb, hF⟩ := K00.facts (P := (PySem.Challenge.rw_readhome_k00_errors).prog) (w := w) KX G hmg c cx
    exact ⟨K, fd, _, KX, hb, fun H a ns hl hbits _ hS => Ev.law_sp hS (K00.law_val ns hl hbits), hF⟩
end
