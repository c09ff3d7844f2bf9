import PyProof.Rows.All
import Wide.All
import OpenK.AllK
import Wide.FinOn
import HandS.ForMost
import HandS.TupAny
import HandS.TupMul
import HandS.Wide
import HandS.IsInst
import HandS.Conv
import HandS.DictComp
import HandS.Deep
import HandS.Walk
import HandS.Zip
import HandS.SortOrd
import HandS.Style
import HandS.Flow
import HandS.ForExc
import HandS.Lambda
import HandS.CallLocal
import KE.KDictKeyed
import KE.KDictDisplayH
import KE.KDictCopyH
import KE.GoesDict
import KE.KDictWalk
import KE.LtSeq
import KE.KEqNest
import KE.SortData
import KE.DataMinMax
import KE.DataCmp
import KE.KTupSum
import KE.GoesMore
import HandS.TupSets
import HandS.Sort
import HandS.TryMany
import HandS.HeadHook1
import HandS.EndTab
import HandS.Head0
import HandS.Head1
import HandS.Head2
import HandS.HeadEnd
import HandS.HeadHook2
import PySem.Challenge.RW_setbyothers_k91_whole_members_taken_as_o
set_option Elab.async false
set_option linter.all false
set_option maxRecDepth 100000
/-! Ev: deep values, a small language of its own, its evaluator. -/
namespace Ev
open PySem

/-- immutable values, deep -/
inductive P where
  | non | bl (b : Bool) | int (i : Int) | str (x : Str)
  | tup (l : List P) | lst (l : List P) | dct (ks vs : List P)
  | rng (lo hi : Int) | glo (g : Nat)
deriving Inhabited

mutual
def P.beq : P → P → Bool
  | .non, .non => true
  | .bl a, .bl b => a == b
  | .int a, .int b => decide (a = b)
  | .str a, .str b => decide (a = b)
  | .tup a, .tup b => P.beqs a b
  | .lst a, .lst b => P.beqs a b
  | .dct a b, .dct c d => P.beqs a c && P.beqs b d
  | .rng a b, .rng c d => decide (a = c) && decide (b = d)
  | .glo a, .glo b => decide (a = b)
  | _, _ => false
def P.beqs : List P → List P → Bool
  | [], [] => true
  | a :: as, b :: bs => P.beq a b && P.beqs as bs
  | _, _ => false
end
mutual
theorem P.beq_self : ∀ a : P, P.beq a a = true
  | .non => by simp [P.beq]
  | .bl _ => by simp [P.beq]
  | .int _ => by simp [P.beq]
  | .str _ => by simp [P.beq]
  | .tup l => by rw [P.beq]; exact P.beqs_self l
  | .lst l => by rw [P.beq]; exact P.beqs_self l
  | .dct a b => by rw [P.beq, P.beqs_self a, P.beqs_self b]; rfl
  | .rng _ _ => by simp [P.beq]
  | .glo _ => by simp [P.beq]
theorem P.beqs_self : ∀ a : List P, P.beqs a a = true
  | [] => by simp [P.beqs]
  | a :: l => by rw [P.beqs, P.beq_self a, P.beqs_self l]; rfl
end
mutual
theorem P.eq_of_beq : ∀ a b : P, P.beq a b = true → a = b := by
  intro a b h
  cases a <;> cases b <;> first
    | rfl
    | (simp [P.beq] at h; done)
    | (simp [P.beq] at h; simp [h]; done)
    | (rw [P.beq] at h; rw [P.eq_of_beqs _ _ h])
    | (rw [P.beq, Bool.and_eq_true] at h; rw [P.eq_of_beqs _ _ h.1, P.eq_of_beqs _ _ h.2])
theorem P.eq_of_beqs : ∀ a b : List P, P.beqs a b = true → a = b
  | [], [], _ => rfl
  | a :: as, b :: bs, h => by
    rw [P.beqs, Bool.and_eq_true] at h
    rw [P.eq_of_beq a b h.1, P.eq_of_beqs as bs h.2]
  | [], _ :: _, h => by simp [P.beqs] at h
  | _ :: _, [], h => by simp [P.beqs] at h
end
instance : DecidableEq P := fun a b => if h : P.beq a b = true then .isTrue (P.eq_of_beq a b h) else .isFalse fun e => h (e ▸ P.beq_self a)
end Ev

set_option Elab.async false
set_option linter.all false
set_option maxRecDepth 100000
namespace Ev
open PySem

mutual
/-- as the library's plain data -/
def P.py : P → Option PyData
  | .non => some .none
  | .bl b => some (.bool b)
  | .int i => some (.int i)
  | .str x => some (.str x)
  | .tup l => match P.pys l with | some ds => some (.tuple ds) | none => none
  | .lst l => match P.pys l with | some ds => some (.list ds) | none => none
  | _ => none
def P.pys : List P → Option (List PyData)
  | [] => some []
  | a :: l => match P.py a with
    | some d => match P.pys l with | some ds => some (d :: ds) | none => none
    | none => none
end
/-- Python's == -/
def peq (a b : P) : Option Bool := match a.py, b.py with
  | some x, some y => if SeqAt.shaped x && SeqAt.shaped y then some (PyData.eqv x y) else none
  | _, _ => none
/-- how values of a sorted list look -/
inductive Ty where
  | int | str | seq (t : Ty) | nil | cons (t : Ty) (r : Ty)
mutual
def P.has : Ty → P → Bool
  | .int, .int _ => true
  | .str, .str _ => true
  | .seq t, .tup l => P.hasAll t l
  | .nil, .tup l => P.hasEach .nil l
  | .cons t r, .tup l => P.hasEach (.cons t r) l
  | _, _ => false
def P.hasAll (t : Ty) : List P → Bool
  | [] => true
  | a :: l => P.has t a && P.hasAll t l
def P.hasEach : Ty → List P → Bool
  | .nil, [] => true
  | .cons t r, a :: l => P.has t a && P.hasEach r l
  | _, _ => false
end
/-- how deep -/
def Ty.deep : Ty → Nat
  | .int => 0
  | .str => 0
  | .seq t => t.deep + 1
  | .nil => 1
  | .cons t r => max (t.deep + 1) r.deep
def srtOk (t : Ty) : Bool := decide (t.deep ≤ 50)
mutual
/-- Python's < on values that look alike -/
def P.ltb : P → P → Bool
  | .int a, .int b => decide (a < b)
  | .str a, .str b => decide (a.cps.toList < b.cps.toList)
  | .bl a, .bl b => !a && b
  | .tup a, .tup b => P.ltbs a b
  | .lst a, .lst b => P.ltbs a b
  | _, _ => false
def P.ltbs : List P → List P → Bool
  | [], [] => false
  | [], _ :: _ => true
  | _ :: _, [] => false
  | a :: as, b :: bs => if P.beq a b then P.ltbs as bs else P.ltb a b
end
/-- sorted -/
def insB (x : P) : List P → List P
  | [] => [x]
  | y :: l => if P.ltb y x then y :: insB x l else x :: y :: l
/-- each once -/
def dedupP : List P → List P
  | [] => []
  | x :: l => if l.any (P.beq x) then dedupP l else x :: dedupP l
/-- lists, one behind another -/
def catL : List P → Option (List P)
  | [] => some []
  | .lst a :: l => match catL l with | some b => some (a ++ b) | none => none
  | _ => none
def sortP : List P → List P
  | [] => []
  | x :: l => insB x (sortP l)

/-- a value: immutable, or a place in the store -/
inductive D where
  | p (x : P) | obj (n : Nat)
deriving Inhabited
/-- what stands in the store -/
inductive Ob where
  | lst (l : List P) | dct (ks vs : List P) | ins (c : Nat) (fs : List (Str × P)) | gone
abbrev St := List Ob
abbrev En := List (Option D)
inductive R (α : Type) where
  | ok (a : α) (s : St) | exc (c : Nat) (fs : List P) (s : St) | bad
@[inline] def R.bind {α β : Type} (r : R α) (f : α → St → R β) : R β := match r with
  | .ok a s => f a s
  | .exc c fs s => .exc c fs s
  | .bad => .bad
def R.noexc {α : Type} : R α → R α
  | .exc _ _ _ => .bad
  | r => r

/-- a look at a value -/
def view (s : St) : D → Option P
  | .p x => some x
  | .obj n => match s[n]? with
    | some (.lst l) => some (.lst l)
    | some (.dct ks vs) => some (.dct ks vs)
    | _ => none

/-! ### dicts -/
def sameKind : List P → P → Bool
  | [], .int _ => true
  | [], .str _ => true
  | [], .tup _ => true
  | .int _ :: _, .int _ => true
  | .str _ :: _, .str _ => true
  | .int _ :: _, .str _ => true
  | .str _ :: _, .int _ => true
  | .tup _ :: _, .tup _ => true
  | _, _ => false
mutual
/-- a key: ints, texts, None, tuples of such, not too deep -/
def P.isKey : Nat → P → Bool
  | _, .non => true
  | _, .int _ => true
  | _, .str _ => true
  | n + 1, .tup l => P.areKeys n l
  | _, _ => false
def P.areKeys (n : Nat) : List P → Bool
  | [] => true
  | a :: l => P.isKey n a && P.areKeys n l
end
def keyOk (ks : List P) (k : P) : Bool := sameKind ks k && P.isKey 8 k
def dget : List P → List P → P → Option P
  | k' :: ks, v :: vs, k => if P.beq k' k then some v else dget ks vs k
  | _, _, _ => none
def dputV : List P → List P → P → P → List P
  | k' :: ks, v' :: vs, k, v => if P.beq k' k then v :: vs else v' :: dputV ks vs k v
  | _, _, _, v => [v]
def dputK : List P → P → List P
  | k' :: ks, k => if P.beq k' k then k' :: ks else k' :: dputK ks k
  | [], k => [k]

/-! ### numbers, sequences -/
def sumI : List P → Option Int
  | [] => some 0
  | .int i :: l => match sumI l with | some j => some (i + j) | none => none
  | _ => none
def allB : List P → Option Bool
  | [] => some true
  | .bl b :: l => match allB l with | some c => some (b && c) | none => none
  | _ => none
def anyB : List P → Option Bool
  | [] => some false
  | .bl b :: l => match anyB l with | some c => some (b || c) | none => none
  | _ => none
def ixN (n : Nat) (i : Int) : Option Nat := if 0 ≤ i then (if i < n then some i.toNat else none) else if -(n : Int) ≤ i then some (i + n).toNat else none
def atP (l : List P) (i : Int) : Option P := match ixN l.length i with | some j => l[j]? | none => none
def sIx (n d : Nat) : Option Int → Nat
  | none => d
  | some v => if v < 0 then (v + n).toNat else min v.toNat n
def cutP (l : List P) (lo hi : Option Int) : List P := (l.drop (sIx l.length 0 lo)).take (sIx l.length l.length hi - sIx l.length 0 lo)
def big : Nat := 16777216
def flatP : P → Bool
  | .int _ => true | .str _ => true | .non => true | .bl _ => true | _ => false

inductive U where
  | len | abs | int | sum | all | any | tuple | neg | isInt | isBool | isTup | isStr | str | nset
deriving DecidableEq
inductive B where
  | add | sub | mul | fdiv | mod | pow | idx | min2 | max2
deriving DecidableEq
inductive C where
  | eq | ne | lt | le | gt | ge | isin | notin | isNone | notNone | isTrue | isFalse | notTrue | notFalse
deriving DecidableEq

def evU : U → P → Option P
  | .len, .tup l => some (.int l.length)
  | .len, .lst l => some (.int l.length)
  | .len, .dct ks _ => some (.int ks.length)
  | .abs, .int i => some (.int (if i < 0 then -i else i))
  | .int, .int i => some (.int i)
  | .neg, .int i => some (.int (-i))
  | .sum, .lst l => match sumI l with | some i => some (.int i) | none => none
  | .sum, .tup l => match sumI l with | some i => some (.int i) | none => none
  | .all, .lst l => match allB l with | some b => some (.bl b) | none => none
  | .any, .lst l => match anyB l with | some b => some (.bl b) | none => none
  | .tuple, .lst l => some (.tup l)
  | .tuple, .tup l => some (.tup l)
  | .isInt, x => match x with | .int _ => some (.bl true) | .bl _ => some (.bl true) | .glo _ => none | .rng _ _ => none | .dct _ _ => none | _ => some (.bl false)
  | .isBool, x => match x with | .bl _ => some (.bl true) | .glo _ => none | .rng _ _ => none | .dct _ _ => none | _ => some (.bl false)
  | .isTup, x => match x with | .tup _ => some (.bl true) | .glo _ => none | .rng _ _ => none | .dct _ _ => none | _ => some (.bl false)
  | .isStr, x => match x with | .str _ => some (.bl true) | .glo _ => none | .rng _ _ => none | .dct _ _ => none | _ => some (.bl false)
  | .nset, .lst l => if P.hasAll (.seq .int) l && decide (l.length < 64) then some (.int (dedupP l).length) else none
  | .str, .str x => some (.str x)
  | .str, .int i => if decide (i.natAbs < 2 ^ 1000) then some (.str (toString i)) else none
  | _, _ => none

def mulOk (i j : Int) : Bool := (decide (i.natAbs < 2 ^ 64) || decide (j.natAbs < 2 ^ 64)) || (decide (i.natAbs < 2 ^ 4000) && decide (j.natAbs < 2 ^ 4000))
def divOk (j : Int) : Bool := decide (0 < j) && decide (j.natAbs < 2 ^ 4000)
def evB : B → P → P → Option P
  | .add, .int i, .int j => some (.int (i + j))
  | .add, .tup l, .tup m => if decide (l.length + m.length ≤ big) then some (.tup (l ++ m)) else none
  | .sub, .int i, .int j => some (.int (i - j))
  | .mul, .int i, .int j => if mulOk i j then some (.int (i * j)) else none
  | .mul, .tup l, .int k => if decide (k = 1) then some (.tup l) else if !l.isEmpty && decide (2 ≤ k) && decide (k ≤ 1000) && decide (l.length ≤ 1000) then some (.tup (List.replicate k.toNat l).flatten) else none
  | .fdiv, .int i, .int j => if divOk j then some (.int (i / j)) else none
  | .mod, .int i, .int j => if decide (0 < j) then some (.int (i % j)) else none
  | .pow, .int i, .int j => if decide (0 ≤ j) && decide (j ≤ 1000) && decide (i.natAbs < 1000) then some (.int (i ^ j.toNat)) else none
  | .idx, .tup l, .int i => atP l i
  | .idx, .lst l, .int i => atP l i
  | .idx, .dct ks vs, k => if keyOk ks k then dget ks vs k else none
  | .min2, .int i, .int j => some (.int (if j < i then j else i))
  | .max2, .int i, .int j => some (.int (if j > i then j else i))
  | _, _, _ => none
/-- the items of what 'in' looks through -/
def inSeq (x : P) (l : List P) : Option Bool := match x.py, P.pys l with
  | some d, some ds => if SeqAt.shaped d && SeqAt.shaped (.list ds) then some (ds.any fun z => PyData.eqv z d) else none
  | _, _ => none
def evC : C → P → P → Option Bool
  | .eq, a, b => peq a b
  | .ne, a, b => match peq a b with | some c => some (!c) | none => none
  | .lt, .int i, .int j => some (decide (i < j))
  | .lt, .tup a, .tup b => match P.pys a, P.pys b with
    | some x, some y => if PySem.W.alike (.tuple x) (.tuple y) && SeqAt.shaped (.tuple x) then some (P.ltbs a b) else none
    | _, _ => none
  | .le, .int i, .int j => some (decide (i ≤ j))
  | .gt, .int i, .int j => some (decide (j < i))
  | .ge, .int i, .int j => some (decide (j ≤ i))
  | .isin, x, .tup l => inSeq x l
  | .isin, x, .lst l => inSeq x l
  | .isin, x, .dct ks vs => if keyOk ks x then some (dget ks vs x).isSome else none
  | .notin, x, .tup l => match inSeq x l with | some c => some (!c) | none => none
  | .notin, x, .lst l => match inSeq x l with | some c => some (!c) | none => none
  | .notin, x, .dct ks vs => if keyOk ks x then some (!(dget ks vs x).isSome) else none
  | .isNone, a, .non => some (match a with | .non => true | _ => false)
  | .notNone, a, .non => some (match a with | .non => false | _ => true)
  | .isTrue, a, .bl true => some (match a with | .bl true => true | _ => false)
  | .isFalse, a, .bl false => some (match a with | .bl false => true | _ => false)
  | .notTrue, a, .bl true => some (match a with | .bl true => false | _ => true)
  | .notFalse, a, .bl false => some (match a with | .bl false => false | _ => true)
  | _, _, _ => none
end Ev

set_option Elab.async false
set_option linter.all false
set_option maxRecDepth 100000
/-! Ev: values that look alike are in a strict order; sorted by insertion. -/
namespace Ev
open PySem

/-- a strict order on what A tells -/
structure Ord3 {α : Type} (A : α → Bool) (lt : α → α → Bool) : Prop where
  asy : ∀ a b, A a = true → A b = true → lt a b = true → lt b a = true → False
  tri : ∀ a b, A a = true → A b = true → lt a b = false → lt b a = false → a = b
  trn : ∀ a b c, A a = true → A b = true → A c = true → lt a b = true → lt b c = true → lt a c = true
theorem Ord3.irr {α : Type} {A : α → Bool} {lt : α → α → Bool} (o : Ord3 A lt) {a : α} (h : A a = true) : lt a a = false := by
  cases e : lt a a with
  | false => rfl
  | true => exact (o.asy a a h h e e).elim
/-- head and tail -/
theorem ltbs_cons {a b : P} {l m : List P} : P.ltbs (a :: l) (b :: m) = if a = b then P.ltbs l m else P.ltb a b := by
  rw [P.ltbs]
  by_cases h : a = b
  · subst h
    rw [if_pos (P.beq_self a), if_pos rfl]
  · rw [if_neg fun z => h (P.eq_of_beq _ _ z), if_neg h]
theorem ord_step {A : P → Bool} {B C : List P → Bool} (hA : Ord3 A P.ltb) (hB : Ord3 B P.ltbs) (hn : C [] = true → ∀ l, C l = true → l = []) (hc : ∀ a l, C (a :: l) = true → A a = true ∧ B l = true) : Ord3 C P.ltbs where
  asy := fun l m hl hm h1 h2 => by
    cases l with
    | nil => cases m with
      | nil => rw [P.ltbs] at h1; cases h1
      | cons b m => rw [P.ltbs] at h2; cases h2
    | cons a l => cases m with
      | nil => rw [P.ltbs] at h1; cases h1
      | cons b m =>
        obtain ⟨a1, l1⟩ := hc _ _ hl
        obtain ⟨b1, m1⟩ := hc _ _ hm
        rw [ltbs_cons] at h1 h2
        by_cases e : a = b
        · rw [if_pos e] at h1
          rw [if_pos e.symm] at h2
          exact hB.asy l m l1 m1 h1 h2
        · rw [if_neg e] at h1
          rw [if_neg fun z => e z.symm] at h2
          exact hA.asy a b a1 b1 h1 h2
  tri := fun l m hl hm h1 h2 => by
    cases l with
    | nil => cases m with
      | nil => rfl
      | cons b m => rw [P.ltbs] at h1; cases h1
    | cons a l => cases m with
      | nil => rw [P.ltbs] at h2; cases h2
      | cons b m =>
        obtain ⟨a1, l1⟩ := hc _ _ hl
        obtain ⟨b1, m1⟩ := hc _ _ hm
        rw [ltbs_cons] at h1 h2
        by_cases e : a = b
        · rw [if_pos e] at h1
          rw [if_pos e.symm] at h2
          rw [e, hB.tri l m l1 m1 h1 h2]
        · rw [if_neg e] at h1
          rw [if_neg fun z => e z.symm] at h2
          exact absurd (hA.tri a b a1 b1 h1 h2) e
  trn := fun l m n hl hm hn h1 h2 => by
    cases m with
    | nil => cases l with
      | nil => rw [P.ltbs] at h1; cases h1
      | cons a l => rw [P.ltbs] at h1; cases h1
    | cons b m => cases n with
      | nil => rw [P.ltbs] at h2; cases h2
      | cons c n => cases l with
        | nil => rw [P.ltbs]
        | cons a l =>
          obtain ⟨a1, l1⟩ := hc _ _ hl
          obtain ⟨b1, m1⟩ := hc _ _ hm
          obtain ⟨c1, n1⟩ := hc _ _ hn
          rw [ltbs_cons] at h1 h2 ⊢
          by_cases e1 : a = b
          · subst e1
            rw [if_pos rfl] at h1
            by_cases e2 : a = c
            · rw [if_pos e2] at h2 ⊢
              exact hB.trn l m n l1 m1 n1 h1 h2
            · rw [if_neg e2] at h2 ⊢
              exact h2
          · rw [if_neg e1] at h1
            by_cases e2 : b = c
            · subst e2
              rw [if_neg e1]; exact h1
            · rw [if_neg e2] at h2
              have q := hA.trn a b c a1 b1 c1 h1 h2
              by_cases e3 : a = c
              · subst e3
                exact (hA.asy a b a1 b1 h1 h2).elim
              · rw [if_neg e3]; exact q
theorem ord_false {lt : List P → List P → Bool} {A : List P → Bool} (h : ∀ l, A l = false) : Ord3 A lt where
  asy := fun a b ha => by rw [h a] at ha; cases ha
  tri := fun a b ha => by rw [h a] at ha; cases ha
  trn := fun a b c ha => by rw [h a] at ha; cases ha
theorem ord_all {t : Ty} (hA : Ord3 (P.has t) P.ltb) : Ord3 (P.hasAll t) P.ltbs := by
  have key : ∀ n : Nat, Ord3 (fun l => P.hasAll t l && decide (l.length ≤ n)) P.ltbs := by
    intro n
    induction n with
    | zero =>
      refine ord_step (B := fun _ => false) hA (ord_false fun _ => rfl) (fun _ l h => ?_) (fun a l h => ?_)
      · rw [Bool.and_eq_true, decide_eq_true_eq] at h
        exact List.eq_nil_of_length_eq_zero (by omega)
      · rw [Bool.and_eq_true, decide_eq_true_eq] at h
        simp at h
    | succ n ih =>
      have hc : ∀ a l, (P.hasAll t (a :: l) && decide ((a :: l).length ≤ n + 1)) = true → P.has t a = true ∧ (P.hasAll t l && decide (l.length ≤ n)) = true := fun a l h => by
        rw [P.hasAll, Bool.and_eq_true, Bool.and_eq_true, decide_eq_true_eq, List.length_cons] at h
        exact ⟨h.1.1, by rw [h.1.2, decide_eq_true (by omega)]; rfl⟩
      refine ⟨fun l m hl hm h1 h2 => ?_, fun l m hl hm h1 h2 => ?_, fun l m k hl hm hk h1 h2 => ?_⟩
      · exact (ord_step (C := fun l => match l with | [] => false | a :: l => P.has t a && (P.hasAll t l && decide (l.length ≤ n))) hA ih (fun z => by cases z) (fun a l h => by
          rw [Bool.and_eq_true] at h; exact h)).asy l m (by
          cases l with
          | nil => cases m with
            | nil => rw [P.ltbs] at h1; cases h1
            | cons b m => rw [P.ltbs] at h2; cases h2
          | cons a l =>
            obtain ⟨q1, q2⟩ := hc _ _ hl
            show (P.has t a && (P.hasAll t l && decide (l.length ≤ n))) = true
            rw [q1, q2]; rfl) (by
          cases m with
          | nil => cases l with
            | nil => rw [P.ltbs] at h1; cases h1
            | cons b m => rw [P.ltbs] at h1; cases h1
          | cons a l =>
            obtain ⟨q1, q2⟩ := hc _ _ hm
            show (P.has t a && (P.hasAll t l && decide (l.length ≤ n))) = true
            rw [q1, q2]; rfl) h1 h2
      · cases l with
        | nil => cases m with
          | nil => rfl
          | cons b m => rw [P.ltbs] at h1; cases h1
        | cons a l => cases m with
          | nil => rw [P.ltbs] at h2; cases h2
          | cons b m =>
            obtain ⟨a1, l1⟩ := hc _ _ hl
            obtain ⟨b1, m1⟩ := hc _ _ hm
            rw [ltbs_cons] at h1 h2
            by_cases e : a = b
            · rw [if_pos e] at h1
              rw [if_pos e.symm] at h2
              rw [e, ih.tri l m l1 m1 h1 h2]
            · rw [if_neg e] at h1
              rw [if_neg fun z => e z.symm] at h2
              exact absurd (hA.tri a b a1 b1 h1 h2) e
      · cases m with
        | nil => cases l with
          | nil => rw [P.ltbs] at h1; cases h1
          | cons a l => rw [P.ltbs] at h1; cases h1
        | cons b m => cases k with
          | nil => rw [P.ltbs] at h2; cases h2
          | cons c k => cases l with
            | nil => rw [P.ltbs]
            | cons a l =>
              obtain ⟨a1, l1⟩ := hc _ _ hl
              obtain ⟨b1, m1⟩ := hc _ _ hm
              obtain ⟨c1, n1⟩ := hc _ _ hk
              rw [ltbs_cons] at h1 h2 ⊢
              by_cases e1 : a = b
              · subst e1
                rw [if_pos rfl] at h1
                by_cases e2 : a = c
                · rw [if_pos e2] at h2 ⊢
                  exact ih.trn l m k l1 m1 n1 h1 h2
                · rw [if_neg e2] at h2 ⊢
                  exact h2
              · rw [if_neg e1] at h1
                by_cases e2 : b = c
                · subst e2
                  rw [if_neg e1]; exact h1
                · rw [if_neg e2] at h2
                  have q := hA.trn a b c a1 b1 c1 h1 h2
                  by_cases e3 : a = c
                  · subst e3
                    exact (hA.asy a b a1 b1 h1 h2).elim
                  · rw [if_neg e3]; exact q
  have up : ∀ {l : List P} {n : Nat}, P.hasAll t l = true → l.length ≤ n → (P.hasAll t l && decide (l.length ≤ n)) = true := fun h k => by rw [h, decide_eq_true k]; rfl
  refine ⟨fun l m hl hm => ?_, fun l m hl hm => ?_, fun l m k hl hm hk => ?_⟩
  · exact (key (l.length + m.length)).asy l m (up hl (by omega)) (up hm (by omega))
  · exact (key (l.length + m.length)).tri l m (up hl (by omega)) (up hm (by omega))
  · exact (key (l.length + m.length + k.length)).trn l m k (up hl (by omega)) (up hm (by omega)) (up hk (by omega))
theorem lex_trans : ∀ {a b c : List Nat}, a < b → b < c → a < c := fun h1 h2 => List.lt_trans h1 h2
theorem str_ext {x y : Str} (h : x.cps.toList = y.cps.toList) : x = y := by
  cases x; cases y
  exact congrArg Str.mk (Array.toList_inj.mp h)
theorem ord_has : ∀ t : Ty, Ord3 (P.has t) P.ltb ∧ Ord3 (P.hasEach t) P.ltbs
  | .int => by
    refine ⟨⟨fun a b ha hb h1 h2 => ?_, fun a b ha hb h1 h2 => ?_, fun a b c ha hb hc h1 h2 => ?_⟩, ord_false fun l => by cases l <;> rfl⟩
    all_goals cases a <;> first | (cases ha; done) | skip
    all_goals cases b <;> first | (cases hb; done) | skip
    · rw [P.ltb, decide_eq_true_eq] at h1 h2; omega
    · rw [P.ltb, decide_eq_false_iff_not] at h1 h2; rename_i x y; rw [show x = y by omega]
    · cases c <;> first | (cases hc; done) | skip
      rw [P.ltb, decide_eq_true_eq] at h1 h2 ⊢; omega
  | .str => by
    refine ⟨⟨fun a b ha hb h1 h2 => ?_, fun a b ha hb h1 h2 => ?_, fun a b c ha hb hc h1 h2 => ?_⟩, ord_false fun l => by cases l <;> rfl⟩
    all_goals cases a <;> first | (cases ha; done) | skip
    all_goals cases b <;> first | (cases hb; done) | skip
    · rw [P.ltb, decide_eq_true_eq] at h1 h2; exact List.lt_irrefl _ (List.lt_trans h1 h2)
    · rw [P.ltb, decide_eq_false_iff_not] at h1 h2
      rw [str_ext (List.le_antisymm (List.not_lt.mp h2) (List.not_lt.mp h1))]
    · cases c <;> first | (cases hc; done) | skip
      rw [P.ltb, decide_eq_true_eq] at h1 h2 ⊢; exact List.lt_trans h1 h2
  | .seq t => by
    have o := ord_all (ord_has t).1
    refine ⟨⟨fun a b ha hb h1 h2 => ?_, fun a b ha hb h1 h2 => ?_, fun a b c ha hb hc h1 h2 => ?_⟩, ord_false fun l => by cases l <;> rfl⟩
    all_goals cases a <;> first | (cases ha; done) | skip
    all_goals cases b <;> first | (cases hb; done) | skip
    · rw [P.ltb] at h1 h2; exact o.asy _ _ ha hb h1 h2
    · rw [P.ltb] at h1 h2; rw [o.tri _ _ ha hb h1 h2]
    · cases c <;> first | (cases hc; done) | skip
      rw [P.ltb] at h1 h2 ⊢; exact o.trn _ _ _ ha hb hc h1 h2
  | .nil => by
    have o : Ord3 (P.hasEach .nil) P.ltbs := by
      refine ⟨fun a b ha hb h1 h2 => ?_, fun a b ha hb h1 h2 => ?_, fun a b c ha hb hc h1 h2 => ?_⟩
      all_goals cases a <;> first | (cases ha; done) | skip
      all_goals cases b <;> first | (cases hb; done) | skip
      · rw [P.ltbs] at h1; cases h1
      · rfl
      · rw [P.ltbs] at h1; cases h1
    refine ⟨⟨fun a b ha hb h1 h2 => ?_, fun a b ha hb h1 h2 => ?_, fun a b c ha hb hc h1 h2 => ?_⟩, o⟩
    all_goals cases a <;> first | (cases ha; done) | skip
    all_goals cases b <;> first | (cases hb; done) | skip
    · rw [P.ltb] at h1 h2; exact o.asy _ _ ha hb h1 h2
    · rw [P.ltb] at h1 h2; rw [o.tri _ _ ha hb h1 h2]
    · cases c <;> first | (cases hc; done) | skip
      rw [P.ltb] at h1 h2 ⊢; exact o.trn _ _ _ ha hb hc h1 h2
  | .cons t r => by
    have o : Ord3 (P.hasEach (.cons t r)) P.ltbs := ord_step (ord_has t).1 (ord_has r).2 (fun z => by cases z) (fun a l h => by
      rw [P.hasEach, Bool.and_eq_true] at h; exact h)
    refine ⟨⟨fun a b ha hb h1 h2 => ?_, fun a b ha hb h1 h2 => ?_, fun a b c ha hb hc h1 h2 => ?_⟩, o⟩
    all_goals cases a <;> first | (cases ha; done) | skip
    all_goals cases b <;> first | (cases hb; done) | skip
    · rw [P.ltb] at h1 h2; exact o.asy _ _ ha hb h1 h2
    · rw [P.ltb] at h1 h2; rw [o.tri _ _ ha hb h1 h2]
    · cases c <;> first | (cases hc; done) | skip
      rw [P.ltb] at h1 h2 ⊢; exact o.trn _ _ _ ha hb hc h1 h2
/-! by insertion -/
theorem all_in {t : Ty} : ∀ {l : List P}, P.hasAll t l = true → ∀ x ∈ l, P.has t x = true
  | [], _, x, h => by cases h
  | a :: l, h, x, hx => by
    rw [P.hasAll, Bool.and_eq_true] at h
    rcases List.mem_cons.mp hx with rfl | hx
    · exact h.1
    · exact all_in h.2 x hx
theorem insB_perm {x : P} : ∀ {l : List P}, (insB x l).Perm (x :: l)
  | [] => .refl _
  | y :: l => by
    rw [insB]
    split
    · exact (insB_perm.cons y).trans (.swap x y l)
    · exact .refl _
theorem sortP_perm : ∀ {l : List P}, (sortP l).Perm l
  | [] => .refl _
  | x :: l => by
    rw [sortP]
    exact insB_perm.trans (sortP_perm.cons x)
theorem insB_sorted {t : Ty} {x : P} (hx : P.has t x = true) : ∀ {l : List P}, (∀ y ∈ l, P.has t y = true) → l.Pairwise (fun a b => P.ltb b a = false) → (insB x l).Pairwise (fun a b => P.ltb b a = false)
  | [], _, _ => List.pairwise_singleton _ _
  | y :: l, hl, h => by
    have o := (ord_has t).1
    rw [List.pairwise_cons] at h
    have hy := hl y List.mem_cons_self
    rw [insB]
    split
    · rename_i e
      rw [List.pairwise_cons]
      refine ⟨fun z hz => ?_, insB_sorted hx (fun z hz => hl z (List.mem_cons_of_mem _ hz)) h.2⟩
      rcases List.mem_cons.mp (insB_perm.mem_iff.mp hz) with rfl | hz
      · cases q : P.ltb z y with
        | false => rfl
        | true => exact (o.asy _ _ hx hy q e).elim
      · exact h.1 z hz
    · rename_i e
      rw [Bool.not_eq_true] at e
      refine List.pairwise_cons.mpr ⟨fun z hz => ?_, List.pairwise_cons.mpr h⟩
      rcases List.mem_cons.mp hz with rfl | hz
      · exact e
      · have hz' := hl z (List.mem_cons_of_mem _ hz)
        have yz := h.1 z hz
        cases q : P.ltb z x with
        | false => rfl
        | true =>
          cases q2 : P.ltb x y with
          | true => rw [o.trn _ _ _ hz' hx hy q q2] at yz; cases yz
          | false => rw [o.tri _ _ hx hy q2 e] at q; rw [q] at yz; cases yz
theorem sortP_sorted {t : Ty} : ∀ {l : List P}, (∀ y ∈ l, P.has t y = true) → (sortP l).Pairwise (fun a b => P.ltb b a = false)
  | [], _ => .nil
  | x :: l, h => by
    rw [sortP]
    exact insB_sorted (h x List.mem_cons_self) (fun y hy => h y (List.mem_cons_of_mem _ (sortP_perm.mem_iff.mp hy))) (sortP_sorted fun y hy => h y (List.mem_cons_of_mem _ hy))
theorem sortP_merge {t : Ty} {l : List P} (h : P.hasAll t l = true) : sortP l = l.mergeSort fun a b => !P.ltb b a := by
  have o := (ord_has t).1
  have hl := all_in h
  have hm : ∀ y ∈ l.mergeSort fun a b => !P.ltb b a, P.has t y = true := fun y hy => hl y ((List.mergeSort_perm l _).mem_iff.mp hy)
  have e : l.mergeSort (fun a b => !P.ltb b a) = (l.attach.mergeSort fun a b => !P.ltb b.1 a.1).map (·.1) := by
    rw [List.map_mergeSort (f := Subtype.val) (r := fun a b : {x // x ∈ l} => !P.ltb b.1 a.1) (s := fun a b => !P.ltb b a) fun a _ b _ => rfl, List.attach_map_subtype_val]
  have pw : (l.mergeSort fun a b => !P.ltb b a).Pairwise (fun a b => P.ltb b a = false) := by
    rw [e, List.pairwise_map]
    refine (List.pairwise_mergeSort (fun a b c h1 h2 => ?_) (fun a b => ?_) l.attach).imp fun {a b} h => by simpa using h
    · simp only [Bool.not_eq_true'] at *
      have a1 := hl a.1 a.2
      have b1 := hl b.1 b.2
      have c1 := hl c.1 c.2
      cases q : P.ltb c.1 a.1 with
      | false => rfl
      | true =>
        cases q2 : P.ltb a.1 b.1 with
        | true => rw [o.trn _ _ _ c1 a1 b1 q q2] at h2; cases h2
        | false => rw [o.tri _ _ a1 b1 q2 h1, h2] at q; cases q
    · cases q : P.ltb b.1 a.1 with
      | false => rfl
      | true =>
        cases q2 : P.ltb a.1 b.1 with
        | false => simp
        | true => exact (o.asy _ _ (hl a.1 a.2) (hl b.1 b.2) q2 q).elim
  refine List.Perm.eq_of_pairwise (le := fun a b => P.ltb b a = false) (fun a b ha hb h1 h2 => ?_) (sortP_sorted hl) pw (sortP_perm.trans (List.mergeSort_perm l _).symm)
  exact o.tri a b (hl a (sortP_perm.mem_iff.mp ha)) (hm b hb) h2 h1
end Ev

set_option Elab.async false
set_option linter.all false
set_option maxRecDepth 100000
namespace Ev
open PySem

/-- what is told of an error: a word, or words ahead of its number -/
inductive Tell where
  | txt (x : P) | pre (x : Str)
deriving DecidableEq
def wordOf (tab : List (Nat × Tell)) (c : Nat) (fs : List P) : Option P := match tab.lookup c, fs with
  | some (.txt x), _ => some x
  | some (.pre x), [.int i] => some (.str (x ++ Str.ofString (toString i)))
  | _, _ => none
mutual
inductive E where
  | var (i : Nat) | lit (x : P) | gc (x : P) (nm : Str) | glo (g : Nat)
  | tup (es : Es) | un (o : U) (e : E) | bin (o : B) (a b : E)
  | get1 (d k : E) | get2 (d k x : E) | slc (e : E) (lo hi : Oe)
  | ife (t : T) (a b : E) | tv (t : T)
  | frz (l : L) | new (l : L) | frzM (m : M) | newM (m : M)
  | call (g : Nat) (es : Es) | callv (i : Nat) (es : Es)
  | pop (i : Nat) | mx (mn : Bool) (t : Ty) (e : E) | idxOf (e x : E) | cnt (e x : E)
  | fld (i : Nat) (f : Str) | rngv (e : E) | fz (i : Nat) | rev (e : E) | word (g : Nat) (okv : P) (tab : List (Nat × Tell)) (e : E)
inductive Es where
  | nil | cons (e : E) (es : Es)
inductive Oe where
  | none | some (e : E)
inductive T where
  | cmp (c : C) (a b : E) | chain (c c' : C) (a b d : E) | not (t : T) | and (a b : T) | or (a b : T) | tru (e : E) | emp (b : Bool) (e : E)
inductive To where
  | yes | if1 (t : T)
inductive L where
  | disp (es : Es)
  | comp (vs : List Nat) (tg : G) (it : I) (ifs : To) (elt : E)
  | comp2 (vs : List Nat) (tg : G) (it : I) (ifs : To) (vs1 : List Nat) (tg1 : G) (it1 : I) (ifs1 : To) (elt : E)
  | ofE (e : E) | ofR (i : I) | sorted (t : Ty) (e : E) | cat (a b : E) | rep (a k : E) | slc (e : E) (lo hi : Oe) | vals (e : E)
  | sortset (t : Ty) (e : E) | sortI (t : Ty) (e : E) | sortV (t : Ty) (e : E) | sumL (e : E) | rev (e : E)
inductive M where
  | disp (ks vs : Es)
  | comp (vs : List Nat) (tg : G) (it : I) (ifs : To) (k v : E)
  | comp2 (vs : List Nat) (tg : G) (it : I) (ifs : To) (vs1 : List Nat) (tg1 : G) (it1 : I) (ifs1 : To) (k v : E)
inductive I where
  | ex (e : E) | rng1 (e : E) | rng2 (a b : E) | enum (e : E) | zip (a b : E) | items (e : E)
inductive G where
  | name (i : Nat) | tup (gs : Gs)
inductive Gs where
  | nil | cons (g : G) (gs : Gs)
end
/-- how many turns a while may take -/
inductive Mz where
  | const (n : Nat) | slot (i : Nat)
mutual
inductive S where
  | asg (i : Nat) (e : E) | mv (i j : Nat) | unp (gs : Gs) (e : E) | par (is : List Nat) (es : Es)
  | put (i : Nat) (k v : E) | app (i : Nat) (e : E) | upd (i : Nat) (m : M) | fld (i : Nat) (f : Str) (e : E)
  | ex (e : E) | ret (e : E) | retv (i : Nat) | retN
  | ife (t : T) (a b : Ss) | fo (g : G) (it : I) (b : Ss) | whl (m : Mz) (t : T) (b : Ss)
  | raise (c : Nat) (es : Es) | skip | never
inductive Ss where
  | nil | cons (s : S) (ss : Ss)
end

inductive Fl where
  | next (r : En) | ret (d : D)

def wipeE (r : En) : List Nat → En
  | [] => r
  | v :: vs => (wipeE r vs).set v none
mutual
def asgG : G → P → En → Option En
  | .name i, x, r => if i < r.length then some (r.set i (some (.p x))) else none
  | .tup gs, .tup l, r => asgGs gs l r
  | .tup _, _, _ => none
def asgGs : Gs → List P → En → Option En
  | .nil, [], r => some r
  | .cons g gs, x :: l, r => match asgG g x r with | some r' => asgGs gs l r' | none => none
  | _, _, _ => none
end
def compGo (f : P → St → R (List P)) : List P → St → R (List P)
  | [], s => .ok [] s
  | x :: xs, s => (f x s).bind fun o s1 => (compGo f xs s1).bind fun l s2 => .ok (o ++ l) s2
def dictGo (f : P → List P → List P → St → R (List P × List P)) : List P → List P → List P → St → R (List P × List P)
  | [], ks, vs, s => .ok (ks, vs) s
  | x :: xs, ks, vs, s => (f x ks vs s).bind fun kv s1 => dictGo f xs kv.1 kv.2 s1
def forGo (f : P → En → St → R Fl) : List P → En → St → R Fl
  | [], r, s => .ok (.next r) s
  | x :: xs, r, s => (f x r s).bind fun fl s1 => match fl with
    | .next r1 => forGo f xs r1 s1
    | .ret d => .ok (.ret d) s1
def whlGo (c : En → St → R Bool) (b : En → St → R Fl) : Nat → En → St → R Fl
  | 0, _, _ => .bad
  | n + 1, r, s => (c r s).bind fun t s1 => if t then (b r s1).bind fun fl s2 => match fl with
      | .next r1 => whlGo c b n r1 s2
      | .ret d => .ok (.ret d) s2
    else .ok (.next r) s1
def mzOf (r : En) : Mz → Nat
  | .const n => n
  | .slot i => match r[i]? with | some (some (.p (.int k))) => k.toNat + 1 | _ => 0
def firstMin (mn : Bool) : P → List P → P
  | m, [] => m
  | m, x :: l => if (if mn then P.ltb x m else P.ltb m x) then firstMin mn x l else firstMin mn m l
def idxP (x : P) : Nat → List P → Option Int
  | _, [] => none
  | i, y :: l => if P.beq y x then some i else idxP x (i + 1) l
def pairsP : List P → List P → List P
  | a :: l, b :: m => .tup [a, b] :: pairsP l m
  | _, _ => []
def enumP : Nat → List P → List P
  | _, [] => []
  | i, a :: l => .tup [.int i, a] :: enumP (i + 1) l
def rngP (lo hi : Int) : List P := (List.range (hi - lo).toNat).map fun (i : Nat) => P.int (lo + (i : Int))
def rngOk (lo hi : Int) : Bool := decide (-(2 ^ 62) ≤ lo) && decide (lo < 2 ^ 62) && decide (-(2 ^ 62) ≤ hi) && decide (hi < 2 ^ 62) && decide ((hi - lo).toNat ≤ big)
/-- what is walked -/
def itemsOf : P → Option (List P)
  | .tup l => some l
  | .lst l => some l
  | .rng lo hi => if rngOk lo hi then some (rngP lo hi) else none
  | _ => none
/-- all immutable -/
def perss : List D → Option (List P)
  | [] => some []
  | .p x :: ds => match perss ds with | some xs => some (x :: xs) | none => none
  | _ => none
def noObj (n : Nat) (r : En) : Bool := r.all fun o => match o with | some (.obj m) => !(m == n) | _ => true

section
variable (cf : Nat → List D → St → R D) (k0 : Nat)
mutual
def evE : E → En → St → R D
  | .var i, r, s => match r[i]? with | some (some d) => .ok d s | _ => .bad
  | .lit x, _, s => .ok (.p x) s
  | .gc x _, _, s => .ok (.p x) s
  | .glo g, _, s => .ok (.p (.glo g)) s
  | .tup es, r, s => (evEs es r s).bind fun ds s1 => match perss ds with | some xs => .ok (.p (.tup xs)) s1 | none => .bad
  | .un o e, r, s => (evE e r s).bind fun d s1 => match view s1 d with
    | some x => (match evU o x with | some y => .ok (.p y) s1 | none => .bad)
    | none => .bad
  | .bin o a b, r, s => (evE a r s).bind fun d s1 => (evE b r s1).bind fun d' s2 => match view s2 d, view s2 d' with
    | some x, some y => (match evB o x y with | some z => .ok (.p z) s2 | none => .bad)
    | _, _ => .bad
  | .get1 a b, r, s => (evE a r s).bind fun d s1 => match view s1 d with
    | some (.dct _ _) => (evE b r s1).bind fun d' s2 => (match view s2 d, d' with
      | some (.dct ks vs), .p k => if keyOk ks k then .ok (.p ((dget ks vs k).getD .non)) s2 else .bad
      | _, _ => .bad)
    | _ => .bad
  | .get2 a b c, r, s => (evE a r s).bind fun d s1 => match view s1 d with
    | some (.dct _ _) => (evE b r s1).bind fun d' s2 => (evE c r s2).bind fun d'' s3 => (match view s3 d, d', d'' with
      | some (.dct ks vs), .p k, .p x => if keyOk ks k then .ok (.p ((dget ks vs k).getD x)) s3 else .bad
      | _, _, _ => .bad)
    | _ => .bad
  | .slc e lo hi, r, s => (evE e r s).bind fun d s1 => (evO lo r s1).bind fun l s2 => (evO hi r s2).bind fun h s3 => match view s3 d with
    | some (.tup xs) => .ok (.p (.tup (cutP xs l h))) s3
    | _ => .bad
  | .ife t a b, r, s => (evT t r s).bind fun c s1 => if c then evE a r s1 else evE b r s1
  | .tv t, r, s => (evT t r s).bind fun c s1 => .ok (.p (.bl c)) s1
  | .frz l, r, s => (evL l r s).bind fun xs s1 => .ok (.p (.lst xs)) s1
  | .new l, r, s => (evL l r s).bind fun xs s1 => .ok (.obj s1.length) (s1 ++ [.lst xs])
  | .frzM m, r, s => (evM m r s).bind fun kv s1 => .ok (.p (.dct kv.1 kv.2)) s1
  | .newM m, r, s => (evM m r s).bind fun kv s1 => .ok (.obj s1.length) (s1 ++ [.dct kv.1 kv.2])
  | .call g es, r, s => (evEs es r s).bind fun ds s1 => cf g ds s1
  | .callv i es, r, s => match r[i]? with
    | some (some (.p (.glo g))) => (evEs es r s).bind fun ds s1 => cf g ds s1
    | _ => .bad
  | .pop i, r, s => match r[i]? with
    | some (some (.obj n)) => (match s[n]? with
      | some (.lst l) => (match l[l.length - 1]? with | some x => .ok (.p x) (s.set n (.lst l.dropLast)) | none => .bad)
      | _ => .bad)
    | _ => .bad
  | .mx mn t e, r, s => (evE e r s).bind fun d s1 => match view s1 d with
    | some (.lst (x :: l)) => if P.hasAll t (x :: l) && srtOk t then .ok (.p (firstMin mn x l)) s1 else .bad
    | some (.tup (x :: l)) => if P.hasAll t (x :: l) && srtOk t then .ok (.p (firstMin mn x l)) s1 else .bad
    | _ => .bad
  | .idxOf a b, r, s => (evE a r s).bind fun d s1 => match view s1 d with
    | some (.lst _) => (evE b r s1).bind fun d' s2 => (match view s2 d, d' with
      | some (.lst l), .p (.int z) => if P.hasAll .int l then (match idxP (.int z) 0 l with | some i => .ok (.p (.int i)) s2 | none => .bad) else .bad
      | _, _ => .bad)
    | _ => .bad
  | .cnt a b, r, s => .bad
  | .fld i f, r, s => match r[i]? with
    | some (some (.obj n)) => (match s[n]? with
      | some (.ins c fs) => (match fs.lookup f with | some x => .ok (.p x) s | none => .bad)
      | _ => .bad)
    | _ => .bad
  | .rngv e, r, s => (evE e r s).bind fun d s1 => match d with
    | .p (.int n) => if rngOk 0 n then .ok (.p (.rng 0 n)) s1 else .bad
    | _ => .bad
  | .fz i, r, s => match r[i]? with
    | some (some (.obj n)) => (match view s (.obj n) with | some x => .ok (.p x) (s.set n .gone) | none => .bad)
    | _ => .bad
  | .rev e, r, s => (evE e r s).bind fun d s1 => match view s1 d with
    | some (.tup l) => .ok (.p (.tup l.reverse)) s1
    | _ => .bad
  | .word _ okv tab e, r, s => match evE e r s with
    | .ok _ s1 => .ok (.p okv) (s1.take s.length)
    | .exc c fs s1 => (match wordOf tab c fs with | some x => .ok (.p x) (s1.take s.length) | none => .bad)
    | .bad => .bad
def evEs : Es → En → St → R (List D)
  | .nil, _, s => .ok [] s
  | .cons e es, r, s => (evE e r s).bind fun d s1 => (evEs es r s1).bind fun ds s2 => .ok (d :: ds) s2
def evO : Oe → En → St → R (Option Int)
  | .none, _, s => .ok none s
  | .some e, r, s => (evE e r s).bind fun d s1 => match d with | .p (.int i) => .ok (some i) s1 | _ => .bad
def evT : T → En → St → R Bool
  | .cmp c a b, r, s => (evE a r s).bind fun d s1 => (evE b r s1).bind fun d' s2 => match view s2 d, view s2 d' with
    | some x, some y => (match evC c x y with | some z => .ok z s2 | none => .bad)
    | _, _ => .bad
  | .chain c c' a b e, r, s => (evE a r s).bind fun d s1 => (evE b r s1).bind fun d' s2 => match d, d' with
    | .p x, .p y => (match evC c x y with
      | some true => (evE e r s2).bind fun d'' s3 => (match d'' with
        | .p z => (match evC c' y z with | some q => .ok q s3 | none => .bad)
        | _ => .bad)
      | some false => .ok false s2
      | none => .bad)
    | _, _ => .bad
  | .not t, r, s => (evT t r s).bind fun c s1 => .ok (!c) s1
  | .and a b, r, s => (evT a r s).bind fun c s1 => if c then evT b r s1 else .ok false s1
  | .or a b, r, s => (evT a r s).bind fun c s1 => if c then .ok true s1 else evT b r s1
  | .tru e, r, s => (evE e r s).bind fun d s1 => match d with | .p (.bl b) => .ok b s1 | _ => .bad
  | .emp b e, r, s => (evE e r s).bind fun d s1 => match view s1 d with
    | some (.dct ks _) => .ok (ks.isEmpty == b) s1
    | _ => .bad
def evTo : To → En → St → R Bool
  | .yes, _, s => .ok true s
  | .if1 t, r, s => evT t r s
def evL : L → En → St → R (List P)
  | .disp es, r, s => (evEs es r s).bind fun ds s1 => match perss ds with | some xs => .ok xs s1 | none => .bad
  | .comp vs tg it ifs elt, r, s => ((evI it r s).bind fun xs s1 => compGo (fun x s2 => match asgG tg x (wipeE r vs) with
      | some r1 => (R.noexc (evTo ifs r1 s2)).bind fun c s3 => if c then (R.noexc (evE elt r1 s3)).bind fun d s4 => (match d with | .p y => .ok [y] s4 | _ => .bad) else .ok [] s3
      | none => .bad) xs s1).bind fun l s2 => if decide (l.length ≤ big) then .ok l s2 else .bad
  | .comp2 vs tg it ifs vs1 tg1 it1 ifs1 elt, r, s => ((evI it r s).bind fun xs s1 => compGo (fun x s2 => match asgG tg x (wipeE r vs) with
      | some r1 => (R.noexc (evTo ifs r1 s2)).bind fun c s3 => if c then (R.noexc (evI it1 r1 s3)).bind fun ys s4 => compGo (fun y s5 => match asgG tg1 y (wipeE r1 vs1) with
          | some r2 => (R.noexc (evTo ifs1 r2 s5)).bind fun c s6 => if c then (R.noexc (evE elt r2 s6)).bind fun d s7 => (match d with | .p z => .ok [z] s7 | _ => .bad) else .ok [] s6
          | none => .bad) ys s4 else .ok [] s3
      | none => .bad) xs s1).bind fun l s2 => if decide (l.length ≤ big) then .ok l s2 else .bad
  | .ofE e, r, s => (evE e r s).bind fun d s1 => match view s1 d with
    | some (.lst l) => .ok l s1
    | some (.tup l) => .ok l s1
    | some (.dct ks _) => .ok ks s1
    | _ => .bad
  | .ofR i, r, s => evI i r s
  | .sorted t e, r, s => (evE e r s).bind fun d s1 => match view s1 d with
    | some (.lst l) => if P.hasAll t l && srtOk t then .ok (sortP l) s1 else .bad
    | some (.dct ks _) => if P.hasAll t ks && srtOk t then .ok (sortP ks) s1 else .bad
        | _ => .bad
  | .cat a b, r, s => (evE a r s).bind fun d s1 => (evE b r s1).bind fun d' s2 => match view s2 d, view s2 d' with
    | some (.lst l), some (.lst m) => if decide (l.length + m.length ≤ big) then .ok (l ++ m) s2 else .bad
    | _, _ => .bad
  | .rep a b, r, s => (evE a r s).bind fun d s1 => (evE b r s1).bind fun d' s2 => match view s2 d, d' with
    | some (.lst l), .p (.int k) => if decide (0 ≤ k) && decide (k ≤ 1000) && decide (l.length ≤ 1000) then .ok (List.replicate k.toNat l).flatten s2 else .bad
    | _, _ => .bad
  | .slc e lo hi, r, s => (evE e r s).bind fun d s1 => (evO lo r s1).bind fun l s2 => (evO hi r s2).bind fun h s3 => match view s3 d with
    | some (.lst xs) => .ok (cutP xs l h) s3
    | _ => .bad
  | .vals e, r, s => (evE e r s).bind fun d s1 => match view s1 d with
    | some (.dct _ vs) => .ok vs s1
    | _ => .bad
  | .sortset t e, r, s => (evE e r s).bind fun d s1 => match view s1 d with
    | some (.lst l) => if (match t with | .int => true | .seq .int => true | _ => false) && P.hasAll t l && decide (l.length ≤ 60) then .ok (sortP (dedupP l)) s1 else .bad
    | _ => .bad
  | .sortI t e, r, s => (evE e r s).bind fun d s1 => match view s1 d with
    | some (.dct ks vs) => if P.hasAll t (pairsP ks vs) && srtOk t then .ok (sortP (pairsP ks vs)) s1 else .bad
    | _ => .bad
  | .sortV t e, r, s => (evE e r s).bind fun d s1 => match view s1 d with
    | some (.dct _ vs) => if P.hasAll t vs && srtOk t then .ok (sortP vs) s1 else .bad
    | _ => .bad
  | .sumL e, r, s => (evE e r s).bind fun d s1 => match view s1 d with
    | some (.lst l) => (match catL l with | some xs => if decide (xs.length ≤ big) then .ok xs s1 else .bad | none => .bad)
    | _ => .bad
  | .rev e, r, s => (evE e r s).bind fun d s1 => match view s1 d with
    | some (.lst l) => .ok l.reverse s1
    | _ => .bad
def evM : M → En → St → R (List P × List P)
  | .disp .nil .nil, r, s => .ok ([], []) s
  | .disp (.cons k .nil) (.cons v .nil), r, s => (evE k r s).bind fun d s1 => (evE v r s1).bind fun d' s2 => match d, d' with
    | .p y, .p z => if keyOk [] y then .ok ([y], [z]) s2 else .bad
    | _, _ => .bad
  | .disp _ _, r, s => .bad
  | .comp vs tg it ifs k v, r, s => (evI it r s).bind fun xs s1 => dictGo (fun x ks ws s2 => match asgG tg x (wipeE r vs) with
      | some r1 => (R.noexc (evTo ifs r1 s2)).bind fun c s3 => if c then (R.noexc (evE k r1 s3)).bind fun d s4 => (R.noexc (evE v r1 s4)).bind fun d' s5 => (match d, d' with
          | .p y, .p z => if keyOk ks y && decide (ks.length < big) then .ok (dputK ks y, dputV ks ws y z) s5 else .bad
          | _, _ => .bad) else .ok (ks, ws) s3
      | none => .bad) xs [] [] s1
  | .comp2 vs tg it ifs vs1 tg1 it1 ifs1 k v, r, s => (evI it r s).bind fun xs s1 => dictGo (fun x ks ws s2 => match asgG tg x (wipeE r vs) with
      | some r1 => (R.noexc (evTo ifs r1 s2)).bind fun c s3 => if c then (R.noexc (evI it1 r1 s3)).bind fun ys s4 => dictGo (fun x1 ks ws s5 => match asgG tg1 x1 (wipeE r1 vs1) with
          | some r2 => (R.noexc (evTo ifs1 r2 s5)).bind fun c s6 => if c then (R.noexc (evE k r2 s6)).bind fun d s7 => (R.noexc (evE v r2 s7)).bind fun d' s8 => (match d, d' with
              | .p y, .p z => if keyOk ks y && decide (ks.length < big) then .ok (dputK ks y, dputV ks ws y z) s8 else .bad
              | _, _ => .bad) else .ok (ks, ws) s6
          | none => .bad) ys ks ws s4 else .ok (ks, ws) s3
      | none => .bad) xs [] [] s1
def evI : I → En → St → R (List P)
  | .ex e, r, s => (evE e r s).bind fun d s1 => match d with
    | .p x => (match itemsOf x with | some l => .ok l s1 | none => .bad)
    | _ => .bad
  | .rng1 e, r, s => (evE e r s).bind fun d s1 => match d with
    | .p (.int n) => if rngOk 0 n then .ok (rngP 0 n) s1 else .bad
    | _ => .bad
  | .rng2 a b, r, s => (evE a r s).bind fun d s1 => (evE b r s1).bind fun d' s2 => match d, d' with
    | .p (.int i), .p (.int j) => if rngOk i j then .ok (rngP i j) s2 else .bad
    | _, _ => .bad
  | .enum e, r, s => (evE e r s).bind fun d s1 => match d with
    | .p (.lst l) => .ok (enumP 0 l) s1
    | .p (.tup l) => .ok (enumP 0 l) s1
    | _ => .bad
  | .zip a b, r, s => (evE a r s).bind fun d s1 => (evE b r s1).bind fun d' s2 => match d, d' with
    | .p (.lst l), .p (.lst m) => .ok (pairsP l m) s2
    | .p (.tup l), .p (.tup m) => .ok (pairsP l m) s2
    | _, _ => .bad
  | .items e, r, s => (evE e r s).bind fun d s1 => match d with
    | .p (.dct ks vs) => .ok (pairsP ks vs) s1
    | _ => .bad
end
end
end Ev

set_option Elab.async false
set_option linter.all false
set_option maxRecDepth 100000
namespace Ev
open PySem

def setAll : List Nat → List D → En → Option En
  | [], [], r => some r
  | i :: is, d :: ds, r => if i < r.length then setAll is ds (r.set i (some d)) else none
  | _, _, _ => none
def putF (f : Str) (x : P) : List (Str × P) → List (Str × P)
  | [] => [(f, x)]
  | (g, y) :: l => if g = f then (g, x) :: l else (g, y) :: putF f x l
section
variable (cf : Nat → List D → St → R D) (k0 : Nat)
mutual
def evS : S → En → St → R Fl
  | .asg i e, r, s => (evE cf e r s).bind fun d s1 => if i < r.length then .ok (.next (r.set i (some d))) s1 else .bad
  | .mv i j, r, s => match r[j]? with
    | some (some (.obj n)) => if n + 1 = s.length ∧ k0 ≤ n ∧ i < r.length ∧ i ≠ j ∧ noObj n (r.set j none) = true then
        (match view s (.obj n) with
          | some x => .ok (.next ((r.set j none).set i (some (.p x)))) s.dropLast
          | none => .bad)
      else .bad
    | _ => .bad
  | .unp gs e, r, s => (evE cf e r s).bind fun d s1 => match d with
    | .p (.tup l) => (match asgGs gs l r with | some r1 => .ok (.next r1) s1 | none => .bad)
    | _ => .bad
  | .par is es, r, s => (evEs cf es r s).bind fun ds s1 => match setAll is ds r with
    | some r1 => .ok (.next r1) s1
    | none => .bad
  | .put i k v, r, s => (evE cf v r s).bind fun d s1 => match r[i]?, d with
    | some (some (.obj n)), .p x => (evE cf k r s1).bind fun d' s2 => (match s2[n]?, d' with
      | some (.lst l), .p (.int z) => (match ixN l.length z with | some j => .ok (.next r) (s2.set n (.lst (l.set j x))) | none => .bad)
      | some (.dct ks vs), .p y => if keyOk ks y && decide (ks.length < big) then .ok (.next r) (s2.set n (.dct (dputK ks y) (dputV ks vs y x))) else .bad
      | _, _ => .bad)
    | _, _ => .bad
  | .app i e, r, s => match r[i]? with
    | some (some (.obj n)) => (match s[n]? with
      | some (.lst _) => (evE cf e r s).bind fun d s1 => (match s1[n]?, d with
        | some (.lst l), .p x => if decide (l.length < big) then .ok (.next r) (s1.set n (.lst (l ++ [x]))) else .bad
        | _, _ => .bad)
      | _ => .bad)
    | _ => .bad
  | .upd i m, r, s => .bad
  | .fld i f e, r, s => (evE cf e r s).bind fun d s1 => match r[i]?, d with
    | some (some (.obj n)), .p x => (match s1[n]? with
      | some (.ins c fs) => if decide (fs.length < 1000) then .ok (.next r) (s1.set n (.ins c (putF f x fs))) else .bad
      | _ => .bad)
    | _, _ => .bad
  | .ex e, r, s => (evE cf e r s).bind fun _ s1 => .ok (.next r) s1
  | .ret e, r, s => (evE cf e r s).bind fun d s1 => .ok (.ret d) s1
  | .retv i, r, s => match r[i]? with
    | some (some (.obj n)) => if k0 ≤ n then (match view s (.obj n) with
        | some x => .ok (.ret (.p x)) (s.set n .gone)
        | none => .bad) else .bad
    | _ => .bad
  | .retN, _, s => .ok (.ret (.p .non)) s
  | .ife t a b, r, s => (evT cf t r s).bind fun c s1 => if c then evSs a r s1 else evSs b r s1
  | .fo g it b, r, s => (evI cf it r s).bind fun xs s1 => forGo (fun x r1 s2 => match asgG g x r1 with
      | some r2 => evSs b r2 s2
      | none => .bad) xs r s1
  | .whl m t b, r, s => whlGo (fun r1 s1 => evT cf t r1 s1) (fun r1 s1 => evSs b r1 s1) (mzOf r m) r s
  | .raise c es, r, s => (evEs cf es r s).bind fun ds s1 => match perss ds with | some xs => .exc c xs s1 | none => .bad
  | .skip, r, s => .ok (.next r) s
  | .never, _, _ => .bad
def evSs : Ss → En → St → R Fl
  | .nil, r, s => .ok (.next r) s
  | .cons a b, r, s => (evS a r s).bind fun fl s1 => match fl with
    | .next r1 => evSs b r1 s1
    | .ret d => .ok (.ret d) s1
end
end

structure Fn where
  np : Nat
  ns : Nat
  body : Ss
/-- a def's end: what it made is forgotten, but for what it hands back -/
def leave (k0 : Nat) : R Fl → R D
  | .ok (.ret (.p x)) s => .ok (.p x) (s.take k0)
  | .ok (.ret (.obj n)) s => if n < k0 then .ok (.obj n) (s.take k0) else (match s[n]? with
    | some o => .ok (.obj k0) (s.take k0 ++ [o])
    | none => .bad)
  | .ok (.next _) s => .ok (.p .non) (s.take k0)
  | .exc c fs s => .exc c fs (s.take k0)
  | .bad => .bad
def enter (f : Fn) (as : List D) : En := as.map some ++ List.replicate (f.ns - as.length) none
def callN (Tb : List Fn) : Nat → Nat → List D → St → R D
  | 0, _, _, _ => .bad
  | n + 1, g, as, s => match Tb[g]? with
    | some f => if as.length = f.np then leave s.length (evSs (callN Tb n) s.length f.body (enter f as) s) else .bad
    | none => .bad
end Ev

set_option Elab.async false
set_option linter.all false
set_option maxRecDepth 100000
/-! Ev: what a deep value is in the layer's abstract heap. -/
namespace Ev
open PySem PySem.Spec PyProof.Rows L2

/-- what stays as it is -/
def Im : HO → Prop
  | .tup _ => True | .frz _ _ => True | .rng _ _ => True | _ => False
def Keep (H H' : Hp) : Prop := ∀ b o, H b = some o → Im o → H' b = some o
theorem Keep.refl (H : Hp) : Keep H H := fun _ _ h _ => h
theorem Keep.trans {H H1 H2 : Hp} (a : Keep H H1) (b : Keep H1 H2) : Keep H H2 := fun c o h i => b c o (a c o h i) i
theorem Keep.new {H : Hp} {p : Addr} (o : HO) (h : H p = none) : Keep H (upd H p o) := fun b u e _ => by rw [upd_ne (ne_of_none e h)]; exact e
theorem Keep.mut {H : Hp} {p : Addr} {u : HO} (o : HO) (h : H p = some u) (n : ¬ Im u) : Keep H (upd H p o) := fun b w e i => by
  have : b ≠ p := fun z => by subst z; rw [h] at e; cases e; exact n i
  rw [upd_ne this]; exact e
/-- a list that stays: frozen -/
def ImL (H : Hp) (a : Addr) (xs : List V) : Prop := ∃ o, H a = some (.frz o (.lst xs))
theorem ImL.sq {H : Hp} {a : Addr} {xs : List V} (h : ImL H a xs) : Rd H a (.lst xs) := .inr h
theorem ImL.keep {H H' : Hp} {a : Addr} {xs : List V} (h : ImL H a xs) (k : Keep H H') : ImL H' a xs := let ⟨o, e⟩ := h; ⟨o, k _ _ e trivial⟩
theorem ImL.of {H : Hp} {a : Addr} {ob : Obj} {xs : List V} (h : H a = some (.frz ob (.lst xs))) : ImL H a xs := ⟨ob, h⟩

/-- a key of the layer's flat dicts -/
def RK : P → Key → Prop
  | .int i, .inl j => i = j
  | .str x, .inr y => x = y
  | _, _ => False
/-- the static facts: the written part, the defs' addresses -/
structure Gc where
  P : Program
  w : World
  K : PySem.W.Frag
  ga : List Addr
  tbs : List (Addr × Str) := []
mutual
/-- a key as the library has it -/
def nk : P → Option NestedKey
  | .non => some .none
  | .int i => some (.num i)
  | .str x => some (.text x)
  | .tup l => match nks l with | some ks => some (.tup ks) | none => none
  | _ => none
def nks : List P → Option (List NestedKey)
  | [] => some []
  | a :: l => match nk a with
    | some k => match nks l with | some ks => some (k :: ks) | none => none
    | none => none
end
/-- the object of a dict whose keys are tuples, as it stands -/
def DX (C : Gc) (a : Addr) (xs : List (NestedKey × Addr × Value)) : HO := .ext fun h =>
  ∃ o es ep, h.get? a = some o ∧ o.ExactDict ∧ o.data = .dict es ep ∧ es.toList = xs.map (entryOfKey (nestedKind C.P C.w))
section
variable (C : Gc) (H : Hp)
mutual
def RP : P → V → Prop
  | .non, v => v = .non
  | .bl b, v => v = .bl b
  | .int i, v => v = .int i
  | .str x, v => v = .str x
  | .tup l, v => ∃ a xs, v = .ref a ∧ H a = some (.tup xs) ∧ RPs l xs
  | .lst l, v => ∃ a xs, v = .ref a ∧ ImL H a xs ∧ RPs l xs
  | .dct ks vs, v => ∃ a o u, v = .ref a ∧ H a = some (.frz o u) ∧ ((∃ kvs : List (Key × V), u = .dK kvs ∧ Paired RK ks (kvs.map (·.1)) ∧ RPs vs (kvs.map (·.2))) ∨
      ∃ (xs : List (NestedKey × Addr × Value)) (ws : List V), ks ≠ [] ∧ u = DX C a xs ∧ xs.length ≤ sizeLine ∧ (a == sysModules) = false ∧ (xs.map (·.1)).Nodup ∧ Vals ws (xs.map (·.2.2)) ∧ nks ks = some (xs.map (·.1)) ∧ P.areKeys 8 ks = true ∧ RPs ks (xs.map fun x => .ref x.2.1) ∧ RPs vs ws)
  | .rng lo hi, v => ∃ a, v = .ref a ∧ H a = some (.rng lo hi)
  | .glo g, v => ∃ a, C.ga[g]? = some a ∧ v = .ref a
def RPs : List P → List V → Prop
  | [], vs => vs = []
  | x :: l, vs => ∃ v r, vs = v :: r ∧ RP x v ∧ RPs l r
end
/-- a dict's content at a -/
def RDc (a : Addr) (ks vs : List P) (u : HO) : Prop := (∃ kvs : List (Key × V), u = .dK kvs ∧ Paired RK ks (kvs.map (·.1)) ∧ RPs C H vs (kvs.map (·.2))) ∨
      ∃ (xs : List (NestedKey × Addr × Value)) (ws : List V), ks ≠ [] ∧ u = DX C a xs ∧ xs.length ≤ sizeLine ∧ (a == sysModules) = false ∧ (xs.map (·.1)).Nodup ∧ Vals ws (xs.map (·.2.2)) ∧ nks ks = some (xs.map (·.1)) ∧ P.areKeys 8 ks = true ∧ RPs C H ks (xs.map fun x => .ref x.2.1) ∧ RPs C H vs ws
def RD (μ : List Addr) : D → V → Prop
  | .p x, v => RP C H x v
  | .obj n, v => ∃ a, μ[n]? = some a ∧ v = .ref a
def RDs (μ : List Addr) : List D → List V → Prop := Paired (RD C H μ)
/-- what stands at a place of the store -/
def ObR (a : Addr) : Ob → Prop
  | .lst l => ∃ xs, H a = some (.lst xs) ∧ RPs C H l xs
  | .dct ks vs => ∃ u, H a = some u ∧ RDc C H a ks vs u
  | .ins c fs => ∃ dx A vs, C.ga[c]? = some A ∧ H a = some (.ins A dx vs) ∧ fs.map (·.1) = vs.map (·.1) ∧ RPs C H (fs.map (·.2)) (vs.map (·.2))
  | .gone => ∃ od u, H a = some (.frz od u)
/-- the tables of code objects: whose names they tell; none of it is of the store -/
def TabO (μ : List Addr) : Prop := ∀ p ∈ C.tbs, ∃ ps : Array Value, H p.1 = some (.tbl ps) ∧ TriplesOk ps.toList ∧ p.1 ∉ μ ∧ ∀ (pos : Pos) (cv : Value), codeAmong pos ps.toList = some cv → ∃ c, cv = .ref c ∧ H c = some (LamX.CodeO c p.2) ∧ c ∉ μ
structure Wd (μ : List Addr) (st : St) : Prop where
  len : μ.length = st.length
  nd : μ.Nodup
  tab : TabO C H μ
  at_ : ∀ (n : Nat) (a : Addr) (o : Ob), μ[n]? = some a → st[n]? = some o → ObR C H a o
structure REn (μ : List Addr) (r : En) (σ : L2.St) : Prop where
  len : r.length = σ.length
  at_ : ∀ (i : Nat) (d : D), r[i]? = some (some d) → ∃ v, σ[i]? = some (some v) ∧ RD C H μ d v
end
section
variable {C : Gc} {H H' : Hp}
mutual
theorem RP.keep (k : Keep H H') : ∀ (x : P) (v : V), RP C H x v → RP C H' x v
  | .non, _, h => by simpa [RP] using h
  | .bl _, _, h => by simpa [RP] using h
  | .int _, _, h => by simpa [RP] using h
  | .str _, _, h => by simpa [RP] using h
  | .tup l, v, h => by
    rw [RP] at h ⊢
    obtain ⟨a, xs, e, e2, r⟩ := h
    exact ⟨a, xs, e, k _ _ e2 trivial, RPs.keep k l xs r⟩
  | .lst l, v, h => by
    rw [RP] at h ⊢
    obtain ⟨a, xs, e, e2, r⟩ := h
    exact ⟨a, xs, e, e2.keep k, RPs.keep k l xs r⟩
  | .dct ks vs, v, h => by
    rw [RP] at h ⊢
    obtain ⟨a, o, u, e, e2, r⟩ := h
    refine ⟨a, o, u, e, k _ _ e2 trivial, ?_⟩
    rcases r with ⟨kvs, e1, e3, r⟩ | ⟨xs, ws, e0, e1, e3, e4, e5, e6, e7, e8, r, q⟩
    · exact .inl ⟨kvs, e1, e3, RPs.keep k vs _ r⟩
    · exact .inr ⟨xs, ws, e0, e1, e3, e4, e5, e6, e7, e8, RPs.keep k ks _ r, RPs.keep k vs _ q⟩
  | .rng _ _, v, h => by
    rw [RP] at h ⊢
    obtain ⟨a, e, e2⟩ := h
    exact ⟨a, e, k _ _ e2 trivial⟩
  | .glo _, _, h => by simpa [RP] using h
theorem RPs.keep (k : Keep H H') : ∀ (l : List P) (vs : List V), RPs C H l vs → RPs C H' l vs
  | [], _, h => by rw [RPs] at h ⊢; exact h
  | x :: l, _, h => by
    rw [RPs] at h ⊢
    obtain ⟨v, r, e, h1, h2⟩ := h
    exact ⟨v, r, e, RP.keep k x v h1, RPs.keep k l r h2⟩
end
theorem RPs.nil : RPs C H [] [] := by rw [RPs]
theorem RPs.cons {x : P} {l : List P} {v : V} {r : List V} (h : RP C H x v) (h2 : RPs C H l r) : RPs C H (x :: l) (v :: r) := by rw [RPs]; exact ⟨v, r, rfl, h, h2⟩
theorem RPs.of_nil {vs : List V} (h : RPs C H [] vs) : vs = [] := by rw [RPs] at h; exact h
theorem RPs.of_cons {x : P} {l : List P} {vs : List V} (h : RPs C H (x :: l) vs) : ∃ v r, vs = v :: r ∧ RP C H x v ∧ RPs C H l r := by rw [RPs] at h; exact h
theorem RPs.iff : ∀ {l : List P} {vs : List V}, RPs C H l vs ↔ Paired (RP C H) l vs
  | [], vs => ⟨fun h => by rw [h.of_nil]; exact .nil, fun h => by cases h; exact .nil⟩
  | x :: l, vs => ⟨fun h => by
      obtain ⟨v, r, e, h1, h2⟩ := h.of_cons
      subst e
      exact .cons h1 (RPs.iff.mp h2), fun h => by
      cases h with
      | cons h1 h2 => exact .cons h1 (RPs.iff.mpr h2)⟩
theorem RPs.length : ∀ {l : List P} {vs : List V}, RPs C H l vs → l.length = vs.length
  | [], vs, h => by rw [h.of_nil] <;> rfl
  | x :: l, vs, h => by
    obtain ⟨v, r, e, h1, h2⟩ := h.of_cons
    subst e
    rw [List.length_cons, List.length_cons, RPs.length h2]
theorem RPs.append : ∀ {l m : List P} {vs ws : List V}, RPs C H l vs → RPs C H m ws → RPs C H (l ++ m) (vs ++ ws)
  | [], m, vs, ws, h, g => by rw [h.of_nil]; exact g
  | x :: l, m, vs, ws, h, g => by
    obtain ⟨v, r, e, h1, h2⟩ := h.of_cons
    subst e
    exact .cons h1 (RPs.append h2 g)
theorem RPs.get : ∀ {l : List P} {vs : List V} {i : Nat} {x : P}, RPs C H l vs → l[i]? = some x → ∃ v, vs[i]? = some v ∧ RP C H x v
  | [], _, _, _, _, e => by simp at e
  | y :: l, vs, i, x, h, e => by
    obtain ⟨v, r, e2, h1, h2⟩ := h.of_cons
    subst e2
    cases i with
    | zero => simp at e; subst e; exact ⟨v, rfl, h1⟩
    | succ i =>
      obtain ⟨w, e3, h3⟩ := RPs.get (i := i) h2 (by simpa using e)
      exact ⟨w, by simpa using e3, h3⟩
theorem RPs.take : ∀ {l : List P} {vs : List V} (n : Nat), RPs C H l vs → RPs C H (l.take n) (vs.take n)
  | l, vs, 0, h => by simp only [List.take_zero]; exact .nil
  | [], vs, n + 1, h => by rw [h.of_nil]; exact .nil
  | x :: l, vs, n + 1, h => by
    obtain ⟨v, r, e, h1, h2⟩ := h.of_cons
    subst e
    exact .cons h1 (RPs.take n h2)
theorem RPs.drop : ∀ {l : List P} {vs : List V} (n : Nat), RPs C H l vs → RPs C H (l.drop n) (vs.drop n)
  | l, vs, 0, h => h
  | [], vs, n + 1, h => by rw [h.of_nil]; exact .nil
  | x :: l, vs, n + 1, h => by
    obtain ⟨v, r, e, h1, h2⟩ := h.of_cons
    subst e
    exact RPs.drop n h2
theorem RPs.set {x : P} {v : V} (hx : RP C H x v) : ∀ {l : List P} {vs : List V} (n : Nat), RPs C H l vs → RPs C H (l.set n x) (vs.set n v)
  | [], vs, n, h => by rw [h.of_nil]; exact .nil
  | y :: l, vs, n, h => by
    obtain ⟨w, r, e, h1, h2⟩ := h.of_cons
    subst e
    cases n with
    | zero => exact .cons hx h2
    | succ n => exact .cons h1 (RPs.set hx n h2)
theorem RPs.dropLast {l : List P} {vs : List V} (h : RPs C H l vs) : RPs C H l.dropLast vs.dropLast := by
  rw [List.dropLast_eq_take, List.dropLast_eq_take, h.length]
  exact h.take _
theorem RDc.keep {a : Addr} {ks vs : List P} {u : HO} (k : Keep H H') (h : RDc C H a ks vs u) : RDc C H' a ks vs u := by
  rcases h with ⟨kvs, e1, e3, r⟩ | ⟨xs, ws, e0, e1, e3, e4, e5, e6, e7, e8, r, q⟩
  · exact .inl ⟨kvs, e1, e3, RPs.keep k vs _ r⟩
  · exact .inr ⟨xs, ws, e0, e1, e3, e4, e5, e6, e7, e8, RPs.keep k ks _ r, RPs.keep k vs _ q⟩
theorem RP.dct_iff {ks vs : List P} {v : V} : RP C H (.dct ks vs) v ↔ ∃ a o u, v = .ref a ∧ H a = some (.frz o u) ∧ RDc C H a ks vs u := by rw [RP]; rfl
theorem RP.tup_iff {l : List P} {v : V} : RP C H (.tup l) v ↔ ∃ a xs, v = .ref a ∧ H a = some (.tup xs) ∧ RPs C H l xs := by rw [RP]
theorem RP.lst_iff {l : List P} {v : V} : RP C H (.lst l) v ↔ ∃ a xs, v = .ref a ∧ ImL H a xs ∧ RPs C H l xs := by rw [RP]
theorem RP.int_iff {i : Int} {v : V} : RP C H (.int i) v ↔ v = .int i := by rw [RP]
theorem RP.bl_iff {i : Bool} {v : V} : RP C H (.bl i) v ↔ v = .bl i := by rw [RP]
theorem RP.str_iff {i : Str} {v : V} : RP C H (.str i) v ↔ v = .str i := by rw [RP]
theorem RP.non_iff {v : V} : RP C H .non v ↔ v = .non := by rw [RP]
theorem RP.rng_iff {lo hi : Int} {v : V} : RP C H (.rng lo hi) v ↔ ∃ a, v = .ref a ∧ H a = some (.rng lo hi) := by rw [RP]
theorem RP.glo_iff {g : Nat} {v : V} : RP C H (.glo g) v ↔ ∃ a, C.ga[g]? = some a ∧ v = .ref a := by rw [RP]

/-- no table of code objects -/
def NT (o : HO) : Prop := ∀ ps, o ≠ .tbl ps
/-- later: more places, what stays stays, what is not of the store stands as it was (tables grow) -/
structure Nx (μ : List Addr) (H : Hp) (μ' : List Addr) (H' : Hp) : Prop where
  pre : μ <+: μ'
  keep : Keep H H'
  rest : ∀ b o, H b = some o → b ∉ μ → NT o → H' b = some o
  new : ∀ b ∈ μ', b ∉ μ → H b = none ∨ ∃ ps, H b = some (.tbl ps)
theorem Nx.refl (μ : List Addr) (H : Hp) : Nx μ H μ H := ⟨List.prefix_rfl, Keep.refl H, fun _ _ h _ _ => h, fun b m n => absurd m n⟩
theorem rest_trans {μ μ1 : List Addr} {H H1 H2 : Hp} (a : ∀ b o, H b = some o → b ∉ μ → NT o → H1 b = some o) (n : ∀ b ∈ μ1, b ∉ μ → H b = none ∨ ∃ ps, H b = some (.tbl ps)) (c : ∀ b o, H1 b = some o → b ∉ μ1 → NT o → H2 b = some o) : ∀ b o, H b = some o → b ∉ μ → NT o → H2 b = some o :=
  fun b o h m nt => c b o (a b o h m nt) (fun z => (n b z m).elim (fun e => by rw [h] at e; cases e) fun ⟨ps, e⟩ => by rw [h] at e; cases e; exact nt ps rfl) nt
theorem new_trans {μ μ1 μ2 : List Addr} {H H1 : Hp} (a : ∀ b o, H b = some o → b ∉ μ → NT o → H1 b = some o) (n : ∀ b ∈ μ1, b ∉ μ → H b = none ∨ ∃ ps, H b = some (.tbl ps)) (c : ∀ b ∈ μ2, b ∉ μ1 → H1 b = none ∨ ∃ ps, H1 b = some (.tbl ps)) : ∀ b ∈ μ2, b ∉ μ → H b = none ∨ ∃ ps, H b = some (.tbl ps) :=
  fun b h m => by
    by_cases z : b ∈ μ1
    · exact n b z m
    · cases q : H b with
      | none => exact .inl rfl
      | some o =>
        by_cases ht : ∃ ps, o = .tbl ps
        · obtain ⟨ps, rfl⟩ := ht
          exact .inr ⟨ps, rfl⟩
        · have e := a b o q m fun ps w => ht ⟨ps, w⟩
          rcases c b h z with w | ⟨ps, w⟩
          · rw [e] at w; cases w
          · rw [e] at w; cases w; exact absurd ⟨ps, rfl⟩ ht
theorem Nx.trans {μ μ1 μ2 : List Addr} {H H1 H2 : Hp} (a : Nx μ H μ1 H1) (b : Nx μ1 H1 μ2 H2) : Nx μ H μ2 H2 := ⟨a.pre.trans b.pre, a.keep.trans b.keep, rest_trans a.rest a.new b.rest, new_trans a.rest a.new b.new⟩
/-- .. of which the first j places stay -/
structure Ns (j : Nat) (μ : List Addr) (H : Hp) (μ' : List Addr) (H' : Hp) : Prop where
  pre : μ.take j <+: μ'
  keep : Keep H H'
  rest : ∀ b o, H b = some o → b ∉ μ → NT o → H' b = some o
  new : ∀ b ∈ μ', b ∉ μ → H b = none ∨ ∃ ps, H b = some (.tbl ps)
theorem Ns.refl (j : Nat) (μ : List Addr) (H : Hp) : Ns j μ H μ H := ⟨List.take_prefix j μ, Keep.refl H, fun _ _ h _ _ => h, fun b m n => absurd m n⟩
theorem Nx.ns {j : Nat} {μ μ' : List Addr} {H H' : Hp} (a : Nx μ H μ' H') : Ns j μ H μ' H' := ⟨(List.take_prefix j μ).trans a.pre, a.keep, a.rest, a.new⟩
theorem Ns.trans {j : Nat} {μ μ1 μ2 : List Addr} {H H1 H2 : Hp} (hj : j ≤ μ.length) (a : Ns j μ H μ1 H1) (b : Ns j μ1 H1 μ2 H2) : Ns j μ H μ2 H2 := by
  refine ⟨?_, a.keep.trans b.keep, rest_trans a.rest a.new b.rest, new_trans a.rest a.new b.new⟩
  have e : μ1.take j = μ.take j := by
    obtain ⟨t, e⟩ := a.pre
    have l : (μ.take j).length = j := by rw [List.length_take]; omega
    rw [← e, List.take_append_of_le_length (by omega), List.take_of_length_le (by omega)]
  rw [← e]
  exact b.pre
theorem Ns.len {j : Nat} {μ μ1 : List Addr} {H H1 : Hp} (hj : j ≤ μ.length) (a : Ns j μ H μ1 H1) : j ≤ μ1.length := by
  have := a.pre.length_le
  rw [List.length_take] at this
  omega
theorem prefix_get {α : Type} {l m : List α} (h : l <+: m) {i : Nat} {x : α} (e : l[i]? = some x) : m[i]? = some x := by
  obtain ⟨t, rfl⟩ := h
  rw [List.getElem?_append_left (List.getElem?_eq_some_iff.mp e).1]
  exact e
theorem RD.nx {μ μ' : List Addr} {d : D} {v : V} (n : Nx μ H μ' H') (h : RD C H μ d v) : RD C H' μ' d v := by
  cases d with
  | p x => exact RP.keep n.keep x v h
  | obj m =>
    obtain ⟨a, e, q⟩ := h
    exact ⟨a, prefix_get n.pre e, q⟩
theorem REn.nx {μ μ' : List Addr} {r : En} {σ : L2.St} (n : Nx μ H μ' H') (h : REn C H μ r σ) : REn C H' μ' r σ :=
  ⟨h.len, fun i d e => let ⟨v, q, x⟩ := h.at_ i d e; ⟨v, q, x.nx n⟩⟩
theorem RDs.nx {μ μ' : List Addr} {ds : List D} {vs : List V} (n : Nx μ H μ' H') (h : RDs C H μ ds vs) : RDs C H' μ' ds vs := Paired.mapP h fun _ _ x => x.nx n
theorem ObR.keep {a : Addr} {o : Ob} (k : Keep H H') (e : H' a = H a) (h : ObR C H a o) : ObR C H' a o := by
  cases o with
  | lst l => obtain ⟨xs, q, r⟩ := h; exact ⟨xs, e.trans q, r.keep k _ _⟩
  | dct ks vs => obtain ⟨u, q, r⟩ := h; exact ⟨u, e.trans q, r.keep k⟩
  | ins c fs => obtain ⟨dx, A, vs, q0, q, q2, r⟩ := h; exact ⟨dx, A, vs, q0, e.trans q, q2, r.keep k _ _⟩
  | gone => obtain ⟨od, u, q⟩ := h; exact ⟨od, u, e.trans q⟩
theorem ObR.some {a : Addr} {o : Ob} (h : ObR C H a o) : H a ≠ none := by
  cases o with
  | lst l => obtain ⟨xs, q, r⟩ := h; rw [q]; exact fun z => by cases z
  | dct ks vs => obtain ⟨u, q, r⟩ := h; rw [q]; exact fun z => by cases z
  | ins c fs => obtain ⟨dx, A, vs, q0, q, q2, r⟩ := h; rw [q]; exact fun z => by cases z
  | gone => obtain ⟨od, u, q⟩ := h; rw [q]; exact fun z => by cases z
theorem Wd.has {μ : List Addr} {st : St} (W : Wd C H μ st) {a : Addr} (h : a ∈ μ) : H a ≠ none := by
  obtain ⟨n, hn, e⟩ := List.mem_iff_getElem.mp h
  have h2 : n < st.length := by rw [← W.len]; exact hn
  exact (W.at_ n a st[n] (by simp [hn, e]) (by simp [h2])).some
theorem TabO.keep {μ : List Addr} (T : TabO C H μ) (r : ∀ b o, H b = some o → b ∉ μ → H' b = some o) : TabO C H' μ := fun p hp => by
  obtain ⟨ps, h1, h2, h3, h4⟩ := T p hp
  refine ⟨ps, r _ _ h1 h3, h2, h3, fun pos cv hc => ?_⟩
  obtain ⟨c, e1, e2, e3⟩ := h4 pos cv hc
  exact ⟨c, e1, r _ _ e2 e3, e3⟩
theorem TabO.sub {μ ν : List Addr} (T : TabO C H μ) (r : ∀ b o, H b = some o → b ∉ μ → b ∉ ν) : TabO C H ν := fun p hp => by
  obtain ⟨ps, h1, h2, h3, h4⟩ := T p hp
  refine ⟨ps, h1, h2, r _ _ h1 h3, fun pos cv hc => ?_⟩
  obtain ⟨c, e1, e2, e3⟩ := h4 pos cv hc
  exact ⟨c, e1, e2, r _ _ e2 e3⟩
/-- nothing of the store has changed -/
theorem Wd.keep {μ : List Addr} {st : St} (W : Wd C H μ st) (k : Keep H H') (e : ∀ a ∈ μ, H' a = H a) (r : TabO C H' μ) : Wd C H' μ st :=
  ⟨W.len, W.nd, r, fun n a o h1 h2 => (W.at_ n a o h1 h2).keep k (e a (List.mem_of_getElem? h1))⟩
/-- a new object that is not of the store -/
theorem Wd.fresh {μ : List Addr} {st : St} {p : Addr} {o : HO} (W : Wd C H μ st) (h : H p = none) : Wd C (upd H p o) μ st :=
  W.keep (Keep.new o h) (fun a m => upd_ne fun z => W.has m (by rw [z]; exact h)) (W.tab.keep fun b u e _ => by rw [upd_ne (ne_of_none e h)]; exact e)
theorem Nx.fresh {μ : List Addr} {p : Addr} {o : HO} (h : H p = none) : Nx μ H μ (upd H p o) := ⟨List.prefix_rfl, Keep.new o h, fun b u e _ _ => by rw [upd_ne (ne_of_none e h)]; exact e, fun b m n => absurd m n⟩
theorem Nx.push {μ : List Addr} {p : Addr} {o : HO} (h : H p = none) : Nx μ H (μ ++ [p]) (upd H p o) := ⟨List.prefix_append _ _, Keep.new o h, fun b u e _ _ => by rw [upd_ne (ne_of_none e h)]; exact e, fun b m n => by
  rcases List.mem_append.mp m with z | z
  · exact absurd z n
  · have : b = p := by simpa using z
    rw [this]; exact .inl h⟩
/-- a new place -/
theorem Wd.push {μ : List Addr} {st : St} {p : Addr} {o : HO} {ob : Ob} (W : Wd C H μ st) (h : H p = none) (q : ObR C (upd H p o) p ob) : Wd C (upd H p o) (μ ++ [p]) (st ++ [ob]) := by
  have W1 := W.fresh (o := o) h
  refine ⟨by rw [List.length_append, List.length_append, W.len]; rfl, ?_, (W.tab.sub (ν := μ ++ [p]) fun b u e n m => (List.mem_append.mp m).elim n fun z => by rw [List.mem_singleton.mp z, h] at e; cases e).keep (fun b u e _ => by rw [upd_ne (ne_of_none e h)]; exact e), fun n a o' h1 h2 => ?_⟩
  · rw [List.nodup_append]
    refine ⟨W.nd, by simp, fun a m b mb e => ?_⟩
    have : b = p := by simpa using mb
    subst this
    subst e
    exact W.has m h
  · by_cases hn : n < μ.length
    · rw [List.getElem?_append_left hn] at h1
      rw [List.getElem?_append_left (by rw [← W.len]; exact hn)] at h2
      exact W1.at_ n a o' h1 h2
    · rw [List.getElem?_append_right (by omega)] at h1
      rw [List.getElem?_append_right (by rw [← W.len]; omega)] at h2
      have e1 : n - μ.length = 0 := by
        have := (List.getElem?_eq_some_iff.mp h1).1
        simp at this; omega
      have e2 : n - st.length = 0 := by rw [← W.len]; exact e1
      rw [e1] at h1
      rw [e2] at h2
      simp at h1 h2
      subst h1 h2
      exact q
/-- a place is written -/
theorem Wd.set {μ : List Addr} {st : St} {n : Nat} {a : Addr} {u o : HO} {ob : Ob} (W : Wd C H μ st) (hn : μ[n]? = some a) (hu : H a = some u) (ni : ¬ Im u) (q : ObR C (upd H a o) a ob) : Wd C (upd H a o) μ (st.set n ob) := by
  have ha : a ∈ μ := List.mem_of_getElem? hn
  refine ⟨by rw [List.length_set]; exact W.len, W.nd, W.tab.keep (fun b u e m => by rw [upd_ne fun z : b = a => m (by rw [z]; exact ha)]; exact e), fun m b o' h1 h2 => ?_⟩
  by_cases e : n = m
  · subst e
    rw [hn] at h1
    cases h1
    have hl : n < st.length := by rw [← W.len]; exact (List.getElem?_eq_some_iff.mp hn).1
    rw [List.getElem?_set_self hl] at h2
    cases h2
    exact q
  · rw [List.getElem?_set_ne e] at h2
    have nb : b ≠ a := fun z => by
      subst z
      obtain ⟨l1, e1⟩ := List.getElem?_eq_some_iff.mp hn
      obtain ⟨l2, e2⟩ := List.getElem?_eq_some_iff.mp h1
      exact e ((List.getElem_inj W.nd).mp (e1.trans e2.symm))
    exact (W.at_ m b o' h1 h2).keep (Keep.mut o hu ni) (upd_ne nb)
theorem Nx.mut {μ : List Addr} {a : Addr} {u o : HO} (ha : a ∈ μ) (hu : H a = some u) (ni : ¬ Im u) : Nx μ H μ (upd H a o) := ⟨List.prefix_rfl, Keep.mut o hu ni, fun b w e n _ => by rw [upd_ne (fun z : b = a => n (by rw [z]; exact ha))]; exact e, fun b m n => absurd m n⟩
theorem Wd.take {μ : List Addr} {st : St} (W : Wd C H μ st) (k : Nat) : Wd C H (μ.take k) (st.take k) := by
  refine ⟨by rw [List.length_take, List.length_take, W.len], W.nd.sublist (List.take_sublist k μ), W.tab.sub (fun b u e n m => n (List.mem_of_mem_take m)), fun n a o h1 h2 => ?_⟩
  rw [List.getElem?_take] at h1 h2
  by_cases hn : n < k
  · rw [if_pos hn] at h1 h2; exact W.at_ n a o h1 h2
  · rw [if_neg hn] at h1; cases h1
theorem REn.set {μ : List Addr} {r : En} {σ : L2.St} {i : Nat} {d : D} {v : V} (h : REn C H μ r σ) (x : RD C H μ d v) : REn C H μ (r.set i (some d)) (σ.set i (some v)) := by
  refine ⟨by rw [List.length_set, List.length_set, h.len], fun j d' e => ?_⟩
  by_cases hj : i = j
  · subst hj
    by_cases hl : i < r.length
    · rw [List.getElem?_set_self hl] at e
      cases e
      exact ⟨v, List.getElem?_set_self (by rw [← h.len]; exact hl), x⟩
    · rw [List.getElem?_eq_none (by rw [List.length_set]; omega)] at e
      cases e
  · rw [List.getElem?_set_ne hj] at e
    rw [List.getElem?_set_ne hj]
    exact h.at_ j d' e
theorem REn.clear {μ : List Addr} {r : En} {σ : L2.St} {i : Nat} (h : REn C H μ r σ) : REn C H μ (r.set i none) σ := by
  refine ⟨by rw [List.length_set]; exact h.len, fun j d' e => ?_⟩
  by_cases hj : i = j
  · subst hj
    by_cases hl : i < r.length
    · rw [List.getElem?_set_self hl] at e
      cases e
    · rw [List.getElem?_eq_none (by rw [List.length_set]; omega)] at e
      cases e
  · rw [List.getElem?_set_ne hj] at e
    exact h.at_ j d' e
theorem REn.wipe {μ : List Addr} {r : En} {σ : L2.St} (h : REn C H μ r σ) : ∀ vs : List Nat, REn C H μ (wipeE r vs) (wipe σ vs)
  | [] => h
  | v :: vs => by
    have ih := REn.wipe h vs
    show REn C H μ ((wipeE r vs).set v none) ((L2.wipe σ vs).set v none)
    refine ⟨by rw [List.length_set, List.length_set, ih.len], fun j d' e => ?_⟩
    by_cases hj : v = j
    · subst hj
      by_cases hl : v < (wipeE r vs).length
      · rw [List.getElem?_set_self hl] at e
        cases e
      · rw [List.getElem?_eq_none (by rw [List.length_set]; omega)] at e
        cases e
    · rw [List.getElem?_set_ne hj] at e
      rw [List.getElem?_set_ne hj]
      exact ih.at_ j d' e
end
end Ev

set_option Elab.async false
set_option linter.all false
set_option maxRecDepth 100000
set_option maxHeartbeats 1000000
namespace Ev
open PySem PySem.Spec PyProof.Rows L2

theorem bind_ok {α β : Type} {r : R α} {f : α → St → R β} {b : β} {s : St} (h : r.bind f = .ok b s) : ∃ a s1, r = .ok a s1 ∧ f a s1 = .ok b s := by
  cases r with
  | ok a s1 => exact ⟨a, s1, rfl, h⟩
  | exc c fs s1 => cases h
  | bad => cases h
theorem noexc_ok {α : Type} {r : R α} {a : α} {s : St} (h : R.noexc r = .ok a s) : r = .ok a s := by
  cases r with
  | ok b s1 => exact h
  | exc c fs s1 => cases h
  | bad => cases h

theorem weak {X : Cx} {e : Expr} {t t' : TE} (h : PE X e t) (f : ∀ σ H Q, t' σ H Q → t σ H Q) : PE X e t' := ⟨fun pins s σ H Q I q => h.run pins s σ H Q I (f σ H Q q)⟩
theorem weakT {X : Cx} {e : Expr} {t t' : TT} (h : PT X e t) (f : ∀ σ H Q, t' σ H Q → t σ H Q) : PT X e t' := ⟨fun pins s σ H Q I q => h.run pins s σ H Q I (f σ H Q q)⟩
theorem weakW {X : Cx} {e : Expr} {t t' : TT} (h : PW X e t) (f : ∀ σ H Q, t' σ H Q → t σ H Q) : PW X e t' := ⟨fun wh pins s σ H Q I q => h.run wh pins s σ H Q I (f σ H Q q)⟩
theorem weakA {X : Cx} {e : List Expr} {t t' : TA} (h : PA X e t) (f : ∀ σ H Q, t' σ H Q → t σ H Q) : PA X e t' := ⟨fun p pins s σ H Q I q => h.run p pins s σ H Q I (f σ H Q q)⟩

section
variable {C : Gc} {X : Cx}
/-! ### a value as it is looked at -/
/-- v is seen as x -/
def VP (C : Gc) (H : Hp) : P → V → Prop
  | .lst l, v => ∃ a xs, v = .ref a ∧ Rd H a (.lst xs) ∧ RPs C H l xs
  | .dct ks vs, v => ∃ a u, v = .ref a ∧ Rd H a u ∧ RDc C H a ks vs u
  | x, v => RP C H x v
theorem VP.of {H : Hp} {x : P} {v : V} (h : RP C H x v) : VP C H x v := by
  cases x with
  | lst l =>
    obtain ⟨a, xs, e, i, r⟩ := RP.lst_iff.mp h
    exact ⟨a, xs, e, i.sq, r⟩
  | dct ks vs =>
    obtain ⟨a, o, u, e, i, r⟩ := RP.dct_iff.mp h
    exact ⟨a, u, e, .inr ⟨o, i⟩, r⟩
  | _ => exact h
theorem VP.int {H : Hp} {i : Int} {v : V} (h : VP C H (.int i) v) : v = .int i := RP.int_iff.mp (show RP C H (.int i) v from h)
theorem VP.bl {H : Hp} {i : Bool} {v : V} (h : VP C H (.bl i) v) : v = .bl i := RP.bl_iff.mp (show RP C H (.bl i) v from h)
theorem VP.str {H : Hp} {i : Str} {v : V} (h : VP C H (.str i) v) : v = .str i := RP.str_iff.mp (show RP C H (.str i) v from h)
theorem VP.non {H : Hp} {v : V} (h : VP C H .non v) : v = .non := RP.non_iff.mp (show RP C H .non v from h)
theorem VP.tup {H : Hp} {l : List P} {v : V} (h : VP C H (.tup l) v) : ∃ a xs, v = .ref a ∧ H a = some (.tup xs) ∧ RPs C H l xs := RP.tup_iff.mp (show RP C H (.tup l) v from h)
theorem view_ok {μ : List Addr} {st : St} {H : Hp} {d : D} {v : V} {x : P} (W : Wd C H μ st) (h : RD C H μ d v) (e : view st d = some x) : VP C H x v := by
  cases d with
  | p y => cases e; exact VP.of h
  | obj n =>
    obtain ⟨a, h1, h2⟩ := h
    have hn : n < st.length := by rw [← W.len]; exact (List.getElem?_eq_some_iff.mp h1).1
    have e2 : st[n]? = some st[n] := by simp [hn]
    have hw := W.at_ n a _ h1 e2
    dsimp only [view] at e
    rw [e2] at e
    cases q : st[n] with
    | lst l =>
      rw [q] at e hw
      cases e
      obtain ⟨xs, h3, h4⟩ := hw
      exact ⟨a, xs, h2, .inl h3, h4⟩
    | dct ks vs =>
      rw [q] at e hw
      cases e
      obtain ⟨u, h3, h4⟩ := hw
      exact ⟨a, u, h2, .inl h3, h4⟩
    | ins c fs => rw [q] at e; cases e
    | gone => rw [q] at e; cases e
/-- growth: all that was tracked stands -/
theorem Wd.same {μ : List Addr} {st : St} {H H' : Hp} (W : Wd C H μ st) (g : Same H H') : Wd C H' μ st :=
  W.keep (fun b o h _ => g b o h) (fun a m => by
    cases q : H a with
    | none => exact absurd q (W.has m)
    | some o => exact g a o q) (W.tab.keep fun b o h _ => g b o h)
theorem Nx.same {μ : List Addr} {H H' : Hp} (g : Same H H') : Nx μ H μ H' := ⟨List.prefix_rfl, fun b o h _ => g b o h, fun b o h _ _ => g b o h, fun b m n => absurd m n⟩
theorem Same.new {H : Hp} {p : Addr} {o : HO} (h : H p = none) : Same H (upd H p o) := fun b u e => by rw [upd_ne (ne_of_none e h)]; exact e

/-! ### operations by values -/
def rU (C : Gc) (ev : P → Option P) : List V → Hp → VK → Prop := fun vs H Q => ∃ v x y, vs = [v] ∧ VP C H x v ∧ ev x = some y ∧ ∀ H' v', Same H H' → RP C H' y v' → Q v' H'
def rB (C : Gc) (ev : P → P → Option P) : R2 := fun v w H Q => ∃ x y z, VP C H x v ∧ VP C H y w ∧ ev x y = some z ∧ ∀ H' v', Same H H' → RP C H' z v' → Q v' H'
def rC (C : Gc) (ev : P → P → Option Bool) : R2 := fun v w H Q => ∃ x y z, VP C H x v ∧ VP C H y w ∧ ev x y = some z ∧ Q (.bl z) H

theorem tupOf {H : Hp} {p : Addr} {l : List P} {xs : List V} (h : H p = none) (r : RPs C H l xs) : RP C (upd H p (.tup xs)) (.tup l) (.ref p) :=
  RP.tup_iff.mpr ⟨p, xs, rfl, upd_same, r.keep (Keep.new _ h) _ _⟩
theorem ints_of {H : Hp} : ∀ {l : List P} {xs : List V} {i : Int}, RPs C H l xs → sumI l = some i → ∃ ns : List Int, xs = ns.map V.int ∧ ns.sum = i
  | [], xs, i, h, e => by
    cases e
    exact ⟨[], h.of_nil, rfl⟩
  | x :: l, xs, i, h, e => by
    obtain ⟨v, r, e1, h1, h2⟩ := h.of_cons
    subst e1
    cases x with
    | int j =>
      rw [sumI] at e
      cases q : sumI l with
      | none => rw [q] at e; cases e
      | some k =>
        rw [q] at e
        cases e
        obtain ⟨ns, e2, e3⟩ := ints_of h2 q
        rw [RP.int_iff.mp h1]
        exact ⟨j :: ns, by rw [e2]; rfl, by rw [List.sum_cons, e3]⟩
    | _ => simp [sumI] at e
theorem bls_all {H : Hp} : ∀ {l : List P} {xs : List V} {b : Bool}, RPs C H l xs → allB l = some b → ∃ bs : List Bool, xs = bs.map V.bl ∧ bs.all id = b
  | [], xs, b, h, e => by
    cases e
    exact ⟨[], h.of_nil, rfl⟩
  | x :: l, xs, b, h, e => by
    obtain ⟨v, r, e1, h1, h2⟩ := h.of_cons
    subst e1
    cases x with
    | bl j =>
      rw [allB] at e
      cases q : allB l with
      | none => rw [q] at e; cases e
      | some k =>
        rw [q] at e
        cases e
        obtain ⟨ns, e2, e3⟩ := bls_all h2 q
        rw [RP.bl_iff.mp h1]
        exact ⟨j :: ns, by rw [e2]; rfl, by rw [List.all_cons, e3]; rfl⟩
    | _ => simp [allB] at e
theorem bls_any {H : Hp} : ∀ {l : List P} {xs : List V} {b : Bool}, RPs C H l xs → anyB l = some b → ∃ bs : List Bool, xs = bs.map V.bl ∧ bs.any id = b
  | [], xs, b, h, e => by
    cases e
    exact ⟨[], h.of_nil, rfl⟩
  | x :: l, xs, b, h, e => by
    obtain ⟨v, r, e1, h1, h2⟩ := h.of_cons
    subst e1
    cases x with
    | bl j =>
      rw [anyB] at e
      cases q : anyB l with
      | none => rw [q] at e; cases e
      | some k =>
        rw [q] at e
        cases e
        obtain ⟨ns, e2, e3⟩ := bls_any h2 q
        rw [RP.bl_iff.mp h1]
        exact ⟨j :: ns, by rw [e2]; rfl, by rw [List.any_cons, e3]; rfl⟩
    | _ => simp [anyB] at e
theorem cr_sumT (hc : X.calm = true) : CallR X (.builtin "sum") (fun vs H Q => ∃ (a : Addr) (ns : List Int), vs = [V.ref a] ∧ SqT X.K H a (ns.map V.int) ∧ Q (.int ns.sum) H) := by
  intro pins s σ H vs us Q I r h
  obtain ⟨a, ns, rfl, hs, q⟩ := h
  obtain ⟨its, rv, hl, _⟩ := I.tuple hs
  rw [Vals.ref1 r]
  have hi := rv.ints
  obtain ⟨xs, e⟩ := hi.allInts.items
  have hn : numsOf (intItems xs).toList = ns := by rw [← e]; exact hi.numsOf
  rw [nums_intItems] at hn
  rw [e] at hl
  refine PySem.W.ktm_sumG (I.ok.hd hc) (show s.heap.IsTuple a (intItems xs) from hl) fun h' tk t' hk => ?_
  rw [preSum_eq, List.take_of_length_le (by simp), hn]
  exact ⟨.int _, H, I.kept hk, ⟨_, rfl⟩, q⟩
end
end Ev

set_option Elab.async false
set_option linter.all false
set_option maxRecDepth 100000
set_option maxHeartbeats 1000000
namespace Ev
open PySem PySem.Spec PyProof.Rows L2

section
variable {C : Gc} {X : Cx}
theorem lenD_rd : CallR X (.builtin "len") (fun xs H Q => ∃ a kvs, xs = [V.ref a] ∧ Rd H a (.dK kvs) ∧ Q (.int kvs.length) H) := by
  intro pins s σ H xs us Q I r h
  obtain ⟨a, kvs, rfl, ha, q⟩ := h
  obtain ⟨u, rfl, ru⟩ := vals1 r
  cases ru
  exact d_len I ha fun t s' I' => ⟨.int kvs.length, H, I', ⟨t, rfl⟩, q⟩
theorem dx_rd {pins : List (Addr × Obj)} {σ : L2.St} {H : Hp} {s : Shared} {a : Addr} {xs : List (NestedKey × Addr × Value)} (I : Inv X pins σ H s) (h : Rd H a (DX C a xs)) :
    ∃ o es ep, s.heap.get? a = some o ∧ o.ExactDict ∧ o.data = .dict es ep ∧ es.toList = xs.map (entryOfKey (nestedKind C.P C.w)) := by
  have := h.ok I.hok
  exact this.1
theorem lenX_rd (hP : X.prog = C.P) (hw : X.w = C.w) : CallR X (.builtin "len") (fun vs H Q => ∃ a xs, vs = [V.ref a] ∧ Rd H a (DX C a xs) ∧ xs.length ≤ sizeLine ∧ (a == sysModules) = false ∧ Q (.int xs.length) H) := by
  intro pins s σ H xs us Q I r h
  obtain ⟨a, kvs, rfl, ha, hz, hs, q⟩ := h
  obtain ⟨u, rfl, ru⟩ := vals1 r
  cases ru
  obtain ⟨o, es, ep, h1, h2, h3, h4⟩ := dx_rd I ha
  have e : es.size = kvs.length := by rw [← Array.length_toList, h4, List.length_map]
  have hl := line63
  have e2 : sizeLine = 16777216 := sizeLine_eq
  refine PyProof.Rows.call_len_slot (n := kvs.length) (T := "dict") ⟨o, h1, h2.1⟩ F.slot_dict_len (fun Q' hq => call_len_raw (es := es) hs ⟨o, h1, h2, h3⟩ (by rw [e]; exact hq)) (by omega) (by omega) ⟨.int kvs.length, H, I.tok _, ⟨_, rfl⟩, q⟩
theorem nks_len : ∀ {l : List P} {ks : List NestedKey}, nks l = some ks → l.length = ks.length
  | [], ks, h => by cases h; rfl
  | a :: l, ks, h => by
    rw [nks] at h
    cases q : nk a with
    | none => rw [q] at h; cases h
    | some k =>
      rw [q] at h
      cases q2 : nks l with
      | none => rw [q2] at h; cases h
      | some ks' =>
        rw [q2] at h
        cases h
        rw [List.length_cons, List.length_cons, nks_len q2]
theorem pairedRK_len {ks : List P} {l : List Key} (h : Paired RK ks l) : ks.length = l.length := Paired.length h
/-- len -/
theorem u_len (hP : X.prog = C.P) (hw : X.w = C.w) (hK : X.K = C.K) : CallR X (.builtin "len") (rU C (evU .len)) := by
  intro pins s σ H vs us Q I r h
  obtain ⟨v, x, y, rfl, vp, e, q⟩ := h
  cases x with
  | tup l =>
    cases e
    obtain ⟨a, xs, rfl, e2, r2⟩ := vp.tup
    exact call_len_seq pins s σ H _ us Q I r ⟨a, xs, rfl, .inr (SqT.of e2), q H _ (Same.refl H) (RP.int_iff.mpr (by rw [r2.length]))⟩
  | lst l =>
    cases e
    obtain ⟨a, xs, rfl, e2, r2⟩ := vp
    exact call_len_seq pins s σ H _ us Q I r ⟨a, xs, rfl, .inl (.inl e2), q H _ (Same.refl H) (RP.int_iff.mpr (by rw [r2.length]))⟩
  | dct ks ws =>
    cases e
    obtain ⟨a, u, rfl, e2, r2⟩ := vp
    rcases r2 with ⟨kvs, rfl, e3, _⟩ | ⟨xs, ws', _, rfl, hz, hs, _, _, e7, _⟩
    · have := pairedRK_len e3
      rw [List.length_map] at this
      exact lenD_rd pins s σ H _ us Q I r ⟨a, kvs, rfl, e2, q H _ (Same.refl H) (RP.int_iff.mpr (by rw [this]))⟩
    · have := nks_len e7
      rw [List.length_map] at this
      exact lenX_rd hP hw pins s σ H _ us Q I r ⟨a, xs, rfl, e2, hz, hs, q H _ (Same.refl H) (RP.int_iff.mpr (by rw [this]))⟩
  | _ => cases e
theorem u_abs : CallR X (.builtin "abs") (rU C (evU .abs)) := by
  intro pins s σ H vs us Q I r h
  obtain ⟨v, x, y, rfl, vp, e, q⟩ := h
  cases x with
  | int i =>
    cases e
    have : v = .int i := vp.int
    subst this
    exact call_abs pins s σ H _ us Q I r ⟨i, rfl, q H _ (Same.refl H) (RP.int_iff.mpr rfl)⟩
  | _ => cases e
theorem u_int : CallR X (.type "int") (rU C (evU .int)) := by
  intro pins s σ H vs us Q I r h
  obtain ⟨v, x, y, rfl, vp, e, q⟩ := h
  cases x with
  | int i =>
    cases e
    have : v = .int i := vp.int
    subst this
    exact call_int1 pins s σ H _ us Q I r (.inl ⟨i, rfl, q H _ (Same.refl H) (RP.int_iff.mpr rfl)⟩)
  | _ => cases e
theorem u_sum (hK : X.K = C.K) (hc : X.calm = true) : CallR X (.builtin "sum") (rU C (evU .sum)) := by
  intro pins s σ H vs us Q I r h
  obtain ⟨v, x, y, rfl, vp, e, q⟩ := h
  cases x with
  | tup l =>
    have e : (match sumI l with | some i => some (P.int i) | none => none) = some y := e
    obtain ⟨a, xs, rfl, e2, r2⟩ := vp.tup
    cases hz : sumI l with
    | none => rw [hz] at e; cases e
    | some i =>
      rw [hz] at e; cases e
      obtain ⟨ns, rfl, e3⟩ := ints_of r2 hz
      exact cr_sumT hc pins s σ H _ us Q I r ⟨a, ns, rfl, SqT.of e2, q H _ (Same.refl H) (RP.int_iff.mpr (by rw [e3]))⟩
  | lst l =>
    have e : (match sumI l with | some i => some (P.int i) | none => none) = some y := e
    obtain ⟨a, xs, rfl, e2, r2⟩ := vp
    cases hz : sumI l with
    | none => rw [hz] at e; cases e
    | some i =>
      rw [hz] at e; cases e
      obtain ⟨ns, rfl, e3⟩ := ints_of r2 hz
      exact cr_sum hc pins s σ H _ us Q I r ⟨a, ns, rfl, .inl e2, q H _ (Same.refl H) (RP.int_iff.mpr (by rw [e3]))⟩
  | _ => cases e
theorem u_all (hK : X.K = C.K) (hc : X.calm = true) : CallR X (.builtin "all") (rU C (evU .all)) := by
  intro pins s σ H vs us Q I r h
  obtain ⟨v, x, y, rfl, vp, e, q⟩ := h
  cases x with
  | lst l =>
    have e : (match allB l with | some i => some (P.bl i) | none => none) = some y := e
    obtain ⟨a, xs, rfl, e2, r2⟩ := vp
    cases hz : allB l with
    | none => rw [hz] at e; cases e
    | some i =>
      rw [hz] at e; cases e
      obtain ⟨ns, rfl, e3⟩ := bls_all r2 hz
      exact cr_all hc pins s σ H _ us Q I r ⟨a, ns, rfl, .inl e2, q H _ (Same.refl H) (RP.bl_iff.mpr (by rw [e3]))⟩
  | _ => cases e
theorem u_any (hK : X.K = C.K) (hc : X.calm = true) : CallR X (.builtin "any") (rU C (evU .any)) := by
  intro pins s σ H vs us Q I r h
  obtain ⟨v, x, y, rfl, vp, e, q⟩ := h
  cases x with
  | lst l =>
    have e : (match anyB l with | some i => some (P.bl i) | none => none) = some y := e
    obtain ⟨a, xs, rfl, e2, r2⟩ := vp
    cases hz : anyB l with
    | none => rw [hz] at e; cases e
    | some i =>
      rw [hz] at e; cases e
      obtain ⟨ns, rfl, e3⟩ := bls_any r2 hz
      exact cr_any hc pins s σ H _ us Q I r ⟨a, ns, rfl, .inl e2, q H _ (Same.refl H) (RP.bl_iff.mpr (by rw [e3]))⟩
  | _ => cases e
theorem u_tuple (hK : X.K = C.K) : CallR X (.type "tuple") (rU C (evU .tuple)) := by
  intro pins s σ H vs us Q I r h
  obtain ⟨v, x, y, rfl, vp, e, q⟩ := h
  cases x with
  | tup l =>
    cases e
    obtain ⟨a, xs, rfl, e2, r2⟩ := vp.tup
    exact call_tuple_of pins s σ H _ us Q I r ⟨a, xs, rfl, .inr ⟨SqT.of e2, q H _ (Same.refl H) (RP.tup_iff.mpr ⟨a, xs, rfl, e2, r2⟩)⟩⟩
  | lst l =>
    cases e
    obtain ⟨a, xs, rfl, e2, r2⟩ := vp
    exact call_tuple_of pins s σ H _ us Q I r ⟨a, xs, rfl, .inl ⟨.inl e2, fun p hp => q _ _ (Same.new hp) (tupOf hp r2)⟩⟩
  | _ => cases e
/-- the type of a value -/
theorem ty_of {H : Hp} {x : P} {v : V} (h : VP C H x v) : match x with
    | .non => TyX C.K H v (.type "NoneType") | .bl _ => TyX C.K H v (.type "bool") | .int _ => TyX C.K H v (.type "int") | .str _ => TyX C.K H v (.type "str")
    | .tup _ => TyX C.K H v (.type "tuple") | .lst _ => TyX C.K H v (.type "list") | _ => True := by
  cases x with
  | non => have : v = .non := h.non; subst this; exact .base .non
  | bl b => have : v = .bl b := h.bl; subst this; exact .base (.bl b)
  | int b => have : v = .int b := h.int; subst this; exact .base (.int b)
  | str b => have : v = .str b := h.str; subst this; exact .base (.str b)
  | tup l =>
    obtain ⟨a, xs, rfl, e2, r2⟩ := h.tup
    exact .base (.tup e2)
  | lst l =>
    obtain ⟨a, xs, rfl, e2, r2⟩ := h
    rcases e2 with e2 | ⟨o, e2⟩
    · exact .base (.lst e2)
    · exact .base (.frz e2)
  | _ => trivial
def isiOf (t : String) : P → Option Bool
  | .non => kitB "NoneType" t | .bl _ => kitB "bool" t | .int _ => kitB "int" t | .str _ => kitB "str" t | .tup _ => kitB "tuple" t | .lst _ => kitB "list" t | _ => none
theorem u_isi (hK : X.K = C.K) (t : String) : CallR X (.builtin "isinstance") (fun vs H Q => ∃ v x b, vs = [v, .ty t] ∧ VP C H x v ∧ isiOf t x = some b ∧ Q (.bl b) H) := by
  intro pins s σ H vs us Q I r h
  obtain ⟨v, x, b, rfl, vp, e, q⟩ := h
  have ty := ty_of vp
  rw [← hK] at ty
  have go : ∀ T, TyX X.K H v (.type T) → kitB T t = some b → wpAny (model X.prog X.w) X.A (call (.builtin "isinstance") us) (EP X pins σ Q) X.xe s := fun T h1 h2 =>
    call_isi pins s σ H _ us Q I r ⟨v, .ty t, .type T, .type t, b, rfl, .ty t, h1, kit_ty h2, q⟩
  cases x with
  | non => exact go _ ty e
  | bl _ => exact go _ ty e
  | int _ => exact go _ ty e
  | str _ => exact go _ ty e
  | tup _ => exact go _ ty e
  | lst _ => exact go _ ty e
  | _ => cases e
theorem isi_int {x : P} {y : P} (h : evU .isInt x = some y) : ∃ b, isiOf "int" x = some b ∧ y = .bl b := by
  cases x <;> simp only [evU, Option.some.injEq, reduceCtorEq] at h <;> subst h <;> exact ⟨_, by simp only [isiOf]; decide +kernel, rfl⟩
theorem isi_bool {x : P} {y : P} (h : evU .isBool x = some y) : ∃ b, isiOf "bool" x = some b ∧ y = .bl b := by
  cases x <;> simp only [evU, Option.some.injEq, reduceCtorEq] at h <;> subst h <;> exact ⟨_, by simp only [isiOf]; decide +kernel, rfl⟩
theorem isi_tup {x : P} {y : P} (h : evU .isTup x = some y) : ∃ b, isiOf "tuple" x = some b ∧ y = .bl b := by
  cases x <;> simp only [evU, Option.some.injEq, reduceCtorEq] at h <;> subst h <;> exact ⟨_, by simp only [isiOf]; decide +kernel, rfl⟩
theorem isi_str {x : P} {y : P} (h : evU .isStr x = some y) : ∃ b, isiOf "str" x = some b ∧ y = .bl b := by
  cases x <;> simp only [evU, Option.some.injEq, reduceCtorEq] at h <;> subst h <;> exact ⟨_, by simp only [isiOf]; decide +kernel, rfl⟩
end
end Ev

set_option Elab.async false
set_option linter.all false
set_option maxRecDepth 100000
set_option maxHeartbeats 1000000
namespace Ev
open PySem PySem.Spec PyProof.Rows L2

/-! ### keys -/
mutual
theorem nk_inj : ∀ (x y : P) (k : NestedKey), nk x = some k → nk y = some k → x = y
  | .non, y, k, h, g => by
    cases h
    cases y with
    | non => rfl
    | tup l => rw [nk] at g; split at g <;> cases g
    | _ => cases g
  | .int i, y, k, h, g => by
    cases h
    cases y with
    | int j => cases g; rfl
    | tup l => rw [nk] at g; split at g <;> cases g
    | _ => cases g
  | .str i, y, k, h, g => by
    cases h
    cases y with
    | str j => cases g; rfl
    | tup l => rw [nk] at g; split at g <;> cases g
    | _ => cases g
  | .tup l, y, k, h, g => by
    rw [nk] at h
    split at h
    · rename_i ks e
      cases h
      cases y with
      | tup m =>
        rw [nk] at g
        split at g
        · rename_i ks' e'
          cases g
          rw [nks_inj l m ks e e']
        · cases g
      | _ => cases g
    · cases h
  | .bl _, _, _, h, _ => by cases h
  | .lst _, _, _, h, _ => by cases h
  | .dct _ _, _, _, h, _ => by cases h
  | .rng _ _, _, _, h, _ => by cases h
  | .glo _, _, _, h, _ => by cases h
theorem nks_inj : ∀ (l m : List P) (ks : List NestedKey), nks l = some ks → nks m = some ks → l = m
  | [], m, ks, h, g => by
    cases h
    cases m with
    | nil => rfl
    | cons b m =>
      rw [nks] at g
      split at g
      · split at g <;> cases g
      · cases g
  | a :: l, m, ks, h, g => by
    rw [nks] at h
    split at h
    · rename_i k e1
      split at h
      · rename_i ks' e2
        cases h
        cases m with
        | nil => cases g
        | cons b m =>
          rw [nks] at g
          split at g
          · rename_i k2 e3
            split at g
            · rename_i ks2 e4
              cases g
              rw [nk_inj a b _ e1 e3, nks_inj l m _ e2 e4]
            · cases g
          · cases g
      · cases h
    · cases h
end
mutual
theorem nk_some : ∀ (n : Nat) (x : P), P.isKey n x = true → ∃ k, nk x = some k ∧ k.depth ≤ n
  | n, .non, _ => ⟨_, rfl, Nat.zero_le _⟩
  | n, .int _, _ => ⟨_, rfl, Nat.zero_le _⟩
  | n, .str _, _ => ⟨_, rfl, Nat.zero_le _⟩
  | 0, .tup l, h => by simp [P.isKey] at h
  | n + 1, .tup l, h => by
    rw [P.isKey] at h
    obtain ⟨ks, e, d⟩ := nks_some n l h
    refine ⟨.tup ks, by rw [nk, e], ?_⟩
    rw [NestedKey.depth]
    omega
  | n, .bl _, h => by simp [P.isKey] at h
  | n, .lst _, h => by simp [P.isKey] at h
  | n, .dct _ _, h => by simp [P.isKey] at h
  | n, .rng _ _, h => by simp [P.isKey] at h
  | n, .glo _, h => by simp [P.isKey] at h
theorem nks_some : ∀ (n : Nat) (l : List P), P.areKeys n l = true → ∃ ks, nks l = some ks ∧ NestedKey.depthAll ks ≤ n
  | n, [], _ => ⟨[], rfl, Nat.zero_le _⟩
  | n, a :: l, h => by
    rw [P.areKeys, Bool.and_eq_true] at h
    obtain ⟨k, e1, d1⟩ := nk_some n a h.1
    obtain ⟨ks, e2, d2⟩ := nks_some n l h.2
    refine ⟨k :: ks, by rw [nks, e1, e2], ?_⟩
    rw [NestedKey.depthAll]
    exact Nat.max_le.mpr ⟨d1, d2⟩
end
section
variable {C : Gc} {X : Cx} {pins : List (Addr × Obj)} {σ : L2.St} {H : Hp} {s : Shared}
mutual
theorem nis (I : Inv X pins σ H s) : ∀ (x : P) (v : V) (u : Value) (k : NestedKey), RP C H x v → RelV v u → nk x = some k → NestedIs s.heap k u
  | .non, v, u, k, h, r, e => by
    cases e
    rw [RP.non_iff.mp h] at r
    cases r
    exact .none
  | .int i, v, u, k, h, r, e => by
    cases e
    rw [RP.int_iff.mp h] at r
    obtain ⟨t, rfl⟩ := r
    exact .int i t
  | .str i, v, u, k, h, r, e => by
    cases e
    rw [RP.str_iff.mp h] at r
    obtain ⟨t, rfl⟩ := r
    exact .text i t
  | .tup l, v, u, k, h, r, e => by
    obtain ⟨a, xs, rfl, e2, r2⟩ := RP.tup_iff.mp h
    cases r
    rw [nk] at e
    split at e
    · rename_i ks q
      cases e
      obtain ⟨its, rv, ⟨o, ho, hc, n, hd⟩, _⟩ := I.tuple (SqT.of e2)
      refine .tup ho hc hd ?_
      simpa using nisAll I l xs its ks r2 rv q
    · cases e
  | .bl _, _, _, _, _, _, e => by cases e
  | .lst _, _, _, _, _, _, e => by cases e
  | .dct _ _, _, _, _, _, _, e => by cases e
  | .rng _ _, _, _, _, _, _, e => by cases e
  | .glo _, _, _, _, _, _, e => by cases e
theorem nisAll (I : Inv X pins σ H s) : ∀ (l : List P) (vs : List V) (us : List Value) (ks : List NestedKey), RPs C H l vs → Vals vs us → nks l = some ks → NestedAll s.heap ks us
  | [], vs, us, ks, h, r, e => by
    cases e
    rw [h.of_nil] at r
    cases r
    exact .nil
  | x :: l, vs, us, ks, h, r, e => by
    obtain ⟨v, w, rfl, h1, h2⟩ := h.of_cons
    cases r with
    | cons r1 r2 =>
      rw [nks] at e
      split at e
      · rename_i k e1
        split at e
        · rename_i ks' e2
          cases e
          exact .cons (nis I x v _ k h1 r1 e1) (nisAll I l w _ ks' h2 r2 e2)
        · cases e
      · cases e
end
/-- a dict with tuple keys, in the heap -/
structure XD (C : Gc) (H : Hp) (h : Heap) (a : Addr) (ks vs : List P) (xs : List (NestedKey × Addr × Value)) (ws : List V) : Prop where
  dict : h.DictOfH (nestedKind C.P C.w) a xs
  size : xs.length ≤ sizeLine
  nsys : (a == sysModules) = false
  keys : nks ks = some (xs.map (·.1))
  are : P.areKeys 8 ks = true
  rk : RPs C H ks (xs.map fun x => .ref x.2.1)
  vals : Vals ws (xs.map (·.2.2))
  rv : RPs C H vs ws
theorem keys_is (I : Inv X pins σ H s) : ∀ {ks : List P} {xs : List (NestedKey × Addr × Value)}, nks ks = some (xs.map (·.1)) → P.areKeys 8 ks = true → RPs C H ks (xs.map fun x => .ref x.2.1) →
    ∀ x ∈ xs, (nestedKind C.P C.w).is s.heap x.1 x.2.1
  | [], xs, e, d, r => by
    have := r.of_nil
    rw [List.map_eq_nil_iff] at this
    subst this
    intro x hx
    cases hx
  | k :: ks, [], e, d, r => by
    intro x hx
    cases hx
  | k :: ks, y :: xs, e, d, r => by
    rw [P.areKeys, Bool.and_eq_true] at d
    obtain ⟨v, w, e1, h1, h2⟩ := r.of_cons
    rw [List.map_cons] at e1
    obtain ⟨rfl, rfl⟩ := List.cons.inj e1
    rw [nks] at e
    split at e
    · rename_i k' e2
      split at e
      · rename_i ks' e3
        rw [List.map_cons] at e
        obtain ⟨e4, e5⟩ := List.cons.inj (Option.some.inj e)
        intro x hx
        rcases List.mem_cons.mp hx with rfl | hx
        · obtain ⟨k2, q1, q2⟩ := nk_some 8 k d.1
          rw [e2] at q1
          cases q1
          rw [← e4]
          exact ⟨nis I k _ _ _ h1 rfl e2, q2⟩
        · exact keys_is I (by rw [e3, e5]) d.2 h2 x hx
      · cases e
    · cases e
theorem xd_of (I : Inv X pins σ H s) (hP : X.prog = C.P) (hw : X.w = C.w) {a : Addr} {ks vs : List P} {u : HO} (hu : Rd H a u) (r : RDc C H a ks vs u) (ht : ks = [] ∨ ∃ l r, ks = .tup l :: r) : ∃ xs ws, XD C H s.heap a ks vs xs ws := by
  rcases r with ⟨kvs, rfl, e3, rv⟩ | ⟨xs, ws, h0, rfl, h1, h2, h3, h4, h5, h6, h7, h8⟩
  · have hks : ks = [] := by
      rcases ht with e | ⟨l, r, e⟩
      · exact e
      · subst e
        cases kvs with
        | nil => cases e3
        | cons p kvs =>
          cases e3 with
          | cons q _ =>
            obtain ⟨k, v⟩ := p
            cases k <;> exact absurd q (by simp [RK])
    subst hks
    cases kvs with
    | cons p kvs => cases e3
    | nil =>
      have : vs = [] := by
        have := rv.length
        simpa using this
      subst this
      obtain ⟨hz, hd, vs', rel, o, es, ep, q1, q2, q3, q4, q5, q6⟩ := dk_rd I.hok hu
      cases rel
      have q7 := q5.length
      have q8 : es.toList = [] := List.eq_nil_of_length_eq_zero q7
      exact ⟨[], [], ⟨⟨o, es, ep, q1, q2, q3, by rw [q8]; rfl, ⟨fun x hx => (nomatch hx), List.nodup_nil⟩⟩, Nat.zero_le _, hd, rfl, rfl, .nil, .nil, .nil⟩⟩
  · obtain ⟨o, es, ep, q1, q2, q3, q4⟩ := dx_rd I hu
    exact ⟨xs, ws, ⟨o, es, ep, q1, q2, q3, q4, keys_is I h5 h6 h7, h3⟩, h1, h2, h5, h6, h7, h4, h8⟩
theorem atKey_nil {k : NestedKey} : atKey ([] : List (NestedKey × Addr × Value)) k = none := rfl
theorem atKey_cons {x : NestedKey × Addr × Value} {xs : List (NestedKey × Addr × Value)} {k : NestedKey} : atKey (x :: xs) k = if x.1 = k then some x.2 else atKey xs k := by
  unfold atKey
  rw [List.find?_cons]
  by_cases h : x.1 = k
  · simp [h]
  · simp [h]
/-- what is found -/
theorem xd_get : ∀ {ks vs : List P} {xs : List (NestedKey × Addr × Value)} {ws : List V} {k : P} {κ : NestedKey}, nks ks = some (xs.map (·.1)) → Vals ws (xs.map (·.2.2)) → RPs C H vs ws → nk k = some κ →
    (∀ x, dget ks vs k = some x → ∃ b v w, atKey xs κ = some (b, w) ∧ RelV v w ∧ RP C H x v) ∧ (dget ks vs k = none → atKey xs κ = none)
  | [], vs, xs, ws, k, κ, e, hv, rv, hk => by
    have : xs = [] := by
      have e' := Option.some.inj e
      simpa using e'.symm
    subst this
    exact ⟨fun x h => (by cases vs <;> cases h), fun _ => rfl⟩
  | k' :: ks, vs, [], ws, k, κ, e, hv, rv, hk => by
    have := nks_len e
    simp at this
  | k' :: ks, vs, y :: xs, ws, k, κ, e, hv, rv, hk => by
    rw [List.map_cons] at hv
    cases hv with
    | @cons v _ ws _ r1 r2 =>
      cases vs with
      | nil => exact absurd rv.length (by simp)
      | cons z vs =>
        obtain ⟨v', w', e1, h1, h2⟩ := rv.of_cons
        obtain ⟨rfl, rfl⟩ := List.cons.inj e1
        rw [nks] at e
        split at e
        · rename_i κ' q1
          split at e
          · rename_i κs q2
            rw [List.map_cons] at e
            obtain ⟨e4, e5⟩ := List.cons.inj (Option.some.inj e)
            have ih := xd_get (ks := ks) (vs := vs) (xs := xs) (k := k) (κ := κ) (by rw [q2, e5]) r2 h2 hk
            rw [dget, atKey_cons]
            by_cases hb : P.beq k' k = true
            · have : k' = k := P.eq_of_beq _ _ hb
              subst this
              rw [q1] at hk
              cases hk
              rw [if_pos hb, if_pos e4.symm]
              exact ⟨fun x h => by cases h; exact ⟨y.2.1, v, y.2.2, rfl, r1, h1⟩, fun h => by cases h⟩
            · have hne : ¬ y.1 = κ := fun z => by
                rw [← e4] at z
                subst z
                exact hb (by rw [nk_inj _ _ _ q1 hk]; exact P.beq_self _)
              rw [if_neg hb, if_neg hne]
              exact ih
          · cases e
        · cases e
/-- flat dicts -/
def keyP : P → Option Key
  | .int i => some (.inl i)
  | .str x => some (.inr x)
  | _ => none
theorem RK.key {x : P} {k : Key} (h : RK x k) : keyP x = some k := by
  cases x <;> cases k <;> first | (cases h; rfl) | exact h.elim
theorem keyP_inj {x y : P} {k : Key} (h : keyP x = some k) (g : keyP y = some k) : x = y := by
  cases x <;> cases y <;> first | (cases h; cases g; rfl) | (cases h; done) | (cases h; cases g; done) | (cases g; done)
theorem keyP_V {x : P} {k : Key} {v : V} (h : keyP x = some k) (r : RP C H x v) : v = kV k := by
  cases x with
  | int i => cases h; exact RP.int_iff.mp r
  | str i => cases h; exact RP.str_iff.mp r
  | _ => cases h
theorem fd_get : ∀ {ks vs : List P} {kvs : List (Key × V)} {k : P} {κ : Key}, Paired RK ks (kvs.map (·.1)) → RPs C H vs (kvs.map (·.2)) → keyP k = some κ →
    (∀ x, dget ks vs k = some x → ∃ v, valV kvs κ = some v ∧ RP C H x v) ∧ (dget ks vs k = none → valV kvs κ = none)
  | [], vs, kvs, k, κ, e, rv, hk => by
    cases kvs with
    | cons p r => cases e
    | nil => exact ⟨fun x h => (by cases vs <;> cases h), fun _ => rfl⟩
  | k' :: ks, vs, [], k, κ, e, rv, hk => by cases e
  | k' :: ks, vs, p :: kvs, k, κ, e, rv, hk => by
    cases e with
    | cons q1 q2 =>
      rw [List.map_cons] at rv
      cases vs with
      | nil => exact absurd rv.length (by simp)
      | cons z vs =>
        obtain ⟨v', w', e1, h1, h2⟩ := rv.of_cons
        obtain ⟨rfl, rfl⟩ := List.cons.inj e1
        have ih := fd_get (ks := ks) (vs := vs) (kvs := kvs) (k := k) (κ := κ) q2 h2 hk
        rw [dget]
        by_cases hb : P.beq k' k = true
        · have : k' = k := P.eq_of_beq _ _ hb
          subst this
          have e2 := q1.key
          rw [hk] at e2
          have e2 : κ = p.1 := Option.some.inj e2
          rw [if_pos hb, valV_pos e2.symm]
          exact ⟨fun x h => by cases h; exact ⟨p.2, rfl, h1⟩, fun h => by cases h⟩
        · have hne : ¬ p.1 = κ := fun z => by
            have e2 : keyP k' = some p.1 := q1.key
            rw [z] at e2
            exact hb (by rw [keyP_inj e2 hk]; exact P.beq_self _)
          rw [if_neg hb, valV_neg hne]
          exact ih
/-- which kind of dict a key goes to -/
theorem kind_of {ks : List P} {k : P} (h : keyOk ks k = true) : (∃ κ, keyP k = some κ ∧ (ks = [] ∨ ∃ x r, ks = x :: r ∧ (keyP x).isSome = true)) ∨ (∃ l, k = .tup l ∧ (ks = [] ∨ ∃ m r, ks = .tup m :: r)) := by
  unfold keyOk at h
  rw [Bool.and_eq_true] at h
  obtain ⟨h1, h2⟩ := h
  cases ks with
  | nil =>
    cases k <;> first
      | exact .inl ⟨_, rfl, .inl rfl⟩
      | exact .inr ⟨_, rfl, .inl rfl⟩
      | simp [sameKind] at h1
  | cons x r =>
    cases k <;> cases x <;> first
      | exact .inl ⟨_, rfl, .inr ⟨_, _, rfl, rfl⟩⟩
      | exact .inr ⟨_, rfl, .inr ⟨_, _, rfl⟩⟩
      | simp [sameKind] at h1
theorem flat_of {a : Addr} {ks vs : List P} {u : HO} (r : RDc C H a ks vs u) (h : ks = [] ∨ ∃ x r, ks = x :: r ∧ (keyP x).isSome = true) : ∃ kvs : List (Key × V), u = .dK kvs ∧ Paired RK ks (kvs.map (·.1)) ∧ RPs C H vs (kvs.map (·.2)) := by
  rcases r with r | ⟨xs, ws, h0, h1, h2, h3, h4, h5, h6, h7, h8, _⟩
  · exact r
  · rcases h with h | ⟨x, r, rfl, hx⟩
    · exact absurd h h0
    · obtain ⟨v, w, e, q, _⟩ := h8.of_cons
      cases x with
      | int i =>
        have := RP.int_iff.mp q
        subst this
        cases xs <;> cases e
      | str i =>
        have := RP.str_iff.mp q
        subst this
        cases xs <;> cases e
      | _ => cases hx
end
end Ev

set_option Elab.async false
set_option linter.all false
set_option maxRecDepth 100000
set_option maxHeartbeats 1000000
namespace Ev
open PySem PySem.Spec PyProof.Rows L2

/-! ### == and < on data -/
theorem py_tup {l : List P} {d : PyData} (h : (P.tup l).py = some d) : ∃ ds, P.pys l = some ds ∧ d = .tuple ds := by
  rw [P.py] at h
  split at h
  · rename_i ds e; exact ⟨ds, e, (Option.some.inj h).symm⟩
  · cases h
theorem py_lst {l : List P} {d : PyData} (h : (P.lst l).py = some d) : ∃ ds, P.pys l = some ds ∧ d = .list ds := by
  rw [P.py] at h
  split at h
  · rename_i ds e; exact ⟨ds, e, (Option.some.inj h).symm⟩
  · cases h
theorem pys_cons {x : P} {l : List P} {ds : List PyData} (h : P.pys (x :: l) = some ds) : ∃ d r, x.py = some d ∧ P.pys l = some r ∧ ds = d :: r := by
  rw [P.pys] at h
  split at h
  · rename_i d e
    split at h
    · rename_i r e2; exact ⟨d, r, e, e2, (Option.some.inj h).symm⟩
    · cases h
  · cases h
mutual
theorem alike_beq : ∀ (a b : P) (x y : PyData), a.py = some x → b.py = some y → PySem.W.alike x y = true → PyData.eqv x y = P.beq a b
  | .non, b, x, y, h, g, k => by
    cases h
    cases b with
    | non => cases g; rfl
    | tup l => obtain ⟨ds, _, rfl⟩ := py_tup g; exact absurd k (by simp [PySem.W.alike])
    | lst l => obtain ⟨ds, _, rfl⟩ := py_lst g; exact absurd k (by simp [PySem.W.alike])
    | _ => cases g <;> exact absurd k (by simp [PySem.W.alike])
  | .bl i, b, x, y, h, g, k => by
    cases h
    cases b with
    | bl j => cases g; simp [PyData.eqv, P.beq]
    | tup l => obtain ⟨ds, _, rfl⟩ := py_tup g; exact absurd k (by simp [PySem.W.alike])
    | lst l => obtain ⟨ds, _, rfl⟩ := py_lst g; exact absurd k (by simp [PySem.W.alike])
    | _ => cases g <;> exact absurd k (by simp [PySem.W.alike])
  | .int i, b, x, y, h, g, k => by
    cases h
    cases b with
    | int j => cases g; rw [PyData.eqv, P.beq]; rfl
    | tup l => obtain ⟨ds, _, rfl⟩ := py_tup g; exact absurd k (by simp [PySem.W.alike])
    | lst l => obtain ⟨ds, _, rfl⟩ := py_lst g; exact absurd k (by simp [PySem.W.alike])
    | _ => cases g <;> exact absurd k (by simp [PySem.W.alike])
  | .str i, b, x, y, h, g, k => by
    cases h
    cases b with
    | str j => cases g; rw [PyData.eqv, P.beq]; rfl
    | tup l => obtain ⟨ds, _, rfl⟩ := py_tup g; exact absurd k (by simp [PySem.W.alike])
    | lst l => obtain ⟨ds, _, rfl⟩ := py_lst g; exact absurd k (by simp [PySem.W.alike])
    | _ => cases g <;> exact absurd k (by simp [PySem.W.alike])
  | .tup l, b, x, y, h, g, k => by
    obtain ⟨ds, e, rfl⟩ := py_tup h
    cases b with
    | tup m =>
      obtain ⟨ds', e', rfl⟩ := py_tup g
      rw [PySem.W.alike] at k
      rw [PyData.eqv, P.beq]
      exact alikes_beq l m ds ds' e e' k
    | lst l => obtain ⟨ds, _, rfl⟩ := py_lst g; exact absurd k (by simp [PySem.W.alike])
    | _ => cases g <;> exact absurd k (by simp [PySem.W.alike])
  | .lst l, b, x, y, h, g, k => by
    obtain ⟨ds, e, rfl⟩ := py_lst h
    cases b with
    | lst m =>
      obtain ⟨ds', e', rfl⟩ := py_lst g
      rw [PySem.W.alike] at k
      rw [PyData.eqv, P.beq]
      exact alikes_beq l m ds ds' e e' k
    | tup l => obtain ⟨ds, _, rfl⟩ := py_tup g; exact absurd k (by simp [PySem.W.alike])
    | _ => cases g <;> exact absurd k (by simp [PySem.W.alike])
  | .dct _ _, _, _, _, h, _, _ => by simp [P.py] at h
  | .rng _ _, _, _, _, h, _, _ => by simp [P.py] at h
  | .glo _, _, _, _, h, _, _ => by simp [P.py] at h
theorem alikes_beq : ∀ (l m : List P) (x y : List PyData), P.pys l = some x → P.pys m = some y → PySem.W.alikeAll x y = true → PyData.eqvAll x y = P.beqs l m
  | [], [], x, y, h, g, k => by cases h; cases g; rfl
  | [], b :: m, x, y, h, g, k => by
    cases h
    obtain ⟨d, r, _, _, rfl⟩ := pys_cons g
    rfl
  | a :: l, [], x, y, h, g, k => by
    cases g
    obtain ⟨d, r, _, _, rfl⟩ := pys_cons h
    rfl
  | a :: l, b :: m, x, y, h, g, k => by
    obtain ⟨d, r, e1, e2, rfl⟩ := pys_cons h
    obtain ⟨d', r', e3, e4, rfl⟩ := pys_cons g
    obtain ⟨k1, k2⟩ := PySem.W.alike_all_cons k
    rw [PySem.W.eqv_all_cons, P.beqs, alike_beq a b d d' e1 e3 k1, alikes_beq l m r r' e2 e4 k2]
end
mutual
theorem ltb_data : ∀ (a b : P) (x y : PyData), a.py = some x → b.py = some y → PySem.W.alike x y = true → PySem.W.dataLt x y = P.ltb a b
  | .non, b, x, y, h, g, k => by
    cases h
    cases b with
    | non => cases g; decide +kernel
    | tup l => obtain ⟨ds, _, rfl⟩ := py_tup g; exact absurd k (by simp [PySem.W.alike])
    | lst l => obtain ⟨ds, _, rfl⟩ := py_lst g; exact absurd k (by simp [PySem.W.alike])
    | _ => cases g <;> exact absurd k (by simp [PySem.W.alike])
  | .bl i, b, x, y, h, g, k => by
    cases h
    cases b with
    | bl j => cases g; rw [PySem.W.dataLt_bool, P.ltb]; cases i <;> cases j <;> decide +kernel
    | tup l => obtain ⟨ds, _, rfl⟩ := py_tup g; exact absurd k (by simp [PySem.W.alike])
    | lst l => obtain ⟨ds, _, rfl⟩ := py_lst g; exact absurd k (by simp [PySem.W.alike])
    | _ => cases g <;> exact absurd k (by simp [PySem.W.alike])
  | .int i, b, x, y, h, g, k => by
    cases h
    cases b with
    | int j => cases g; rw [PySem.W.dataLt_int, P.ltb]
    | tup l => obtain ⟨ds, _, rfl⟩ := py_tup g; exact absurd k (by simp [PySem.W.alike])
    | lst l => obtain ⟨ds, _, rfl⟩ := py_lst g; exact absurd k (by simp [PySem.W.alike])
    | _ => cases g <;> exact absurd k (by simp [PySem.W.alike])
  | .str i, b, x, y, h, g, k => by
    cases h
    cases b with
    | str j => cases g; rw [PySem.W.dataLt_str, P.ltb]
    | tup l => obtain ⟨ds, _, rfl⟩ := py_tup g; exact absurd k (by simp [PySem.W.alike])
    | lst l => obtain ⟨ds, _, rfl⟩ := py_lst g; exact absurd k (by simp [PySem.W.alike])
    | _ => cases g <;> exact absurd k (by simp [PySem.W.alike])
  | .tup l, b, x, y, h, g, k => by
    obtain ⟨ds, e, rfl⟩ := py_tup h
    cases b with
    | tup m =>
      obtain ⟨ds', e', rfl⟩ := py_tup g
      rw [PySem.W.alike] at k
      rw [PySem.W.dataLt_tuple, P.ltb]
      exact ltbs_data l m ds ds' e e' k
    | lst l => obtain ⟨ds, _, rfl⟩ := py_lst g; exact absurd k (by simp [PySem.W.alike])
    | _ => cases g <;> exact absurd k (by simp [PySem.W.alike])
  | .lst l, b, x, y, h, g, k => by
    obtain ⟨ds, e, rfl⟩ := py_lst h
    cases b with
    | lst m =>
      obtain ⟨ds', e', rfl⟩ := py_lst g
      rw [PySem.W.alike] at k
      rw [PySem.W.dataLt_list, P.ltb]
      exact ltbs_data l m ds ds' e e' k
    | tup l => obtain ⟨ds, _, rfl⟩ := py_tup g; exact absurd k (by simp [PySem.W.alike])
    | _ => cases g <;> exact absurd k (by simp [PySem.W.alike])
  | .dct _ _, _, _, _, h, _, _ => by simp [P.py] at h
  | .rng _ _, _, _, _, h, _, _ => by simp [P.py] at h
  | .glo _, _, _, _, h, _, _ => by simp [P.py] at h
theorem ltbs_data : ∀ (l m : List P) (x y : List PyData), P.pys l = some x → P.pys m = some y → PySem.W.alikeAll x y = true → PyProof.Rows.lexLt itemOrd (PySem.W.keyToksAll x) (PySem.W.keyToksAll y) = P.ltbs l m
  | [], [], x, y, h, g, k => by cases h; cases g; decide +kernel
  | [], b :: m, x, y, h, g, k => by
    cases h
    obtain ⟨d, r, _, _, rfl⟩ := pys_cons g
    rw [PySem.W.toks_all_cons, P.ltbs]
    show lexLt itemOrd (PySem.W.keyToksAll []) _ = true
    rfl
  | a :: l, [], x, y, h, g, k => by
    cases g
    obtain ⟨d, r, _, _, rfl⟩ := pys_cons h
    rw [PySem.W.toks_all_cons, P.ltbs]
    show lexLt itemOrd _ (PySem.W.keyToksAll []) = false
    rfl
  | a :: l, b :: m, x, y, h, g, k => by
    obtain ⟨d, r, e1, e2, rfl⟩ := pys_cons h
    obtain ⟨d', r', e3, e4, rfl⟩ := pys_cons g
    obtain ⟨k1, k2⟩ := PySem.W.alike_all_cons k
    have q := alike_beq a b d d' e1 e3 k1
    rw [P.ltbs]
    by_cases hb : P.beq a b = true
    · rw [if_pos hb, PySem.W.dataLt_all_yes k1 (by rw [q, hb])]
      exact ltbs_data l m r r' e2 e4 k2
    · rw [if_neg hb, PySem.W.dataLt_all_no k1 (by rw [q]; simpa using hb)]
      exact ltb_data a b d d' e1 e3 k1
end
end Ev

set_option Elab.async false
set_option linter.all false
set_option maxRecDepth 100000
set_option maxHeartbeats 1000000
namespace Ev
open PySem PySem.Spec PyProof.Rows L2

section
variable {C : Gc} {X : Cx}
mutual
theorem dp_of {H : Hp} : ∀ (x : P) (v : V) (d : PyData), RP C H x v → x.py = some d → Dp C.K H v d
  | .non, v, d, h, e => by cases e; rw [RP.non_iff.mp h]; exact .non
  | .bl _, v, d, h, e => by cases e; rw [RP.bl_iff.mp h]; exact .bl _
  | .int _, v, d, h, e => by cases e; rw [RP.int_iff.mp h]; exact .int _
  | .str _, v, d, h, e => by cases e; rw [RP.str_iff.mp h]; exact .str _
  | .tup l, v, d, h, e => by
    obtain ⟨ds, e2, rfl⟩ := py_tup e
    obtain ⟨a, xs, rfl, e3, r⟩ := RP.tup_iff.mp h
    exact .tup (SqT.of e3) (dps_of l xs ds r e2)
  | .lst l, v, d, h, e => by
    obtain ⟨ds, e2, rfl⟩ := py_lst e
    obtain ⟨a, xs, rfl, e3, r⟩ := RP.lst_iff.mp h
    exact .lst (.inl e3.sq) (dps_of l xs ds r e2)
  | .dct _ _, _, _, _, e => by simp [P.py] at e
  | .rng _ _, _, _, _, e => by simp [P.py] at e
  | .glo _, _, _, _, e => by simp [P.py] at e
theorem dps_of {H : Hp} : ∀ (l : List P) (vs : List V) (ds : List PyData), RPs C H l vs → P.pys l = some ds → DpAll C.K H vs ds
  | [], vs, ds, h, e => by cases e; rw [h.of_nil]; exact .nil
  | x :: l, vs, ds, h, e => by
    obtain ⟨v, r, rfl, h1, h2⟩ := h.of_cons
    obtain ⟨d, ds', e1, e2, rfl⟩ := pys_cons e
    exact .cons (dp_of x v d h1 e1) (dps_of l r ds' h2 e2)
end
theorem VP.dp {H : Hp} {x : P} {v : V} {d : PyData} (h : VP C H x v) (e : x.py = some d) : Dp C.K H v d := by
  cases x with
  | lst l =>
    obtain ⟨ds, e2, rfl⟩ := py_lst e
    obtain ⟨a, xs, rfl, e3, r⟩ := h
    exact .lst (.inl e3) (dps_of l xs ds r e2)
  | dct _ _ => simp [P.py] at e
  | non => exact dp_of _ v d h e
  | bl _ => exact dp_of _ v d h e
  | int _ => exact dp_of _ v d h e
  | str _ => exact dp_of _ v d h e
  | tup _ => exact dp_of _ v d h e
  | rng _ _ => simp [P.py] at e
  | glo _ => simp [P.py] at e
theorem peq_of {a b : P} {c : Bool} (h : peq a b = some c) : ∃ x y, a.py = some x ∧ b.py = some y ∧ SeqAt.shaped x = true ∧ SeqAt.shaped y = true ∧ PyData.eqv x y = c := by
  unfold peq at h
  split at h
  · rename_i x y e1 e2
    split at h
    · rename_i q
      rw [Bool.and_eq_true] at q
      exact ⟨x, y, e1, e2, q.1, q.2, Option.some.inj h⟩
    · cases h
  · cases h
theorem c_eq (hK : X.K = C.K) (hu : X.A.units + 65 < cLine) : OpR X (compareOp .Eq) (rC C (evC .eq)) := by
  intro pins s σ H v w u1 u2 Q I rx ry h
  obtain ⟨x, y, z, h1, h2, e, q⟩ := h
  obtain ⟨d, d', e1, e2, s1, s2, rfl⟩ := peq_of e
  exact op_eqD (by omega) pins s σ H v w u1 u2 Q I rx ry ⟨d, d', by rw [hK]; exact h1.dp e1, by rw [hK]; exact h2.dp e2, s1, s2, q⟩
theorem c_ne (hK : X.K = C.K) (hu : X.A.units + 65 < cLine) : OpR X (compareOp .NotEq) (rC C (evC .ne)) := by
  intro pins s σ H v w u1 u2 Q I rx ry h
  obtain ⟨x, y, z, h1, h2, e, q⟩ := h
  have e : (match peq x y with | some c => some (!c) | none => none) = some z := e
  cases e0 : peq x y with
  | none => rw [e0] at e; cases e
  | some c =>
    rw [e0] at e
    cases e
    obtain ⟨d, d', e1, e2, s1, s2, rfl⟩ := peq_of e0
    exact op_neD (by omega) pins s σ H v w u1 u2 Q I rx ry ⟨d, d', by rw [hK]; exact h1.dp e1, by rw [hK]; exact h2.dp e2, s1, s2, q⟩
theorem inSeq_of {a : P} {l : List P} {c : Bool} (h : inSeq a l = some c) : ∃ x ds, a.py = some x ∧ P.pys l = some ds ∧ SeqAt.shaped x = true ∧ SeqAt.shaped (.list ds) = true ∧ (ds.any fun z => PyData.eqv z x) = c := by
  unfold inSeq at h
  split at h
  · rename_i x y e1 e2
    split at h
    · rename_i q
      rw [Bool.and_eq_true] at q
      exact ⟨x, y, e1, e2, q.1, q.2, Option.some.inj h⟩
    · cases h
  · cases h
theorem canAll {ds : List PyData} (h : SeqAt.shaped (.list ds) = true) : PyData.canLayAll0 ds = true := SeqAt.canLay_of_shaped h
theorem room_in {A : Around} {ds : List PyData} {d : PyData} (h : SeqAt.shaped d = true) (hu : A.units + 65 < cLine) : A.units + 1 + min (PyData.depthAll ds) d.depth < cLine := by
  have h1 := SeqAt.depth_of_shaped h
  have h2 : min (PyData.depthAll ds) d.depth ≤ d.depth := Nat.min_le_right _ _
  omega
/-- x in d, by the dict's content -/
theorem dct_in (hP : X.prog = C.P) (hw : X.w = C.w) (hu : X.A.units + 65 < cLine) {pins : List (Addr × Obj)} {σ : L2.St} {H : Hp} {s : Shared} {E : Value → Shared → Prop} {Q : Value → Shared → Prop} {a : Addr} {u : HO} {ks vs : List P} {k : P} {y : V} {v : Value} (I : Inv X pins σ H s)
    (hd : Rd H a u) (r : RDc C H a ks vs u) (hk : keyOk ks k = true) (ry : RP C H k y) (rv : RelV y v) :
    ((∀ s', Inv X pins σ H s' → Q (.bool (dget ks vs k).isSome) s') → wpAny (model X.prog X.w) X.A (compareOp .In v (.ref a)) Q E s) ∧ ((∀ s', Inv X pins σ H s' → Q (.bool (!(dget ks vs k).isSome)) s') → wpAny (model X.prog X.w) X.A (compareOp .NotIn v (.ref a)) Q E s) := by
  rcases kind_of hk with ⟨κ, hκ, hf⟩ | ⟨l, rfl, hf⟩
  · obtain ⟨kvs, rfl, e1, e2⟩ := flat_of r hf
    obtain ⟨z, hs, vs', rel, dd⟩ := dk_rd I.hok hd
    have ey := keyP_V hκ ry
    subst ey
    have g := fd_get e1 e2 hκ
    have e3 : (dget ks vs k).isSome = (valueAt vs' κ).isSome := by
      rw [← (rel.val κ).isSome_eq]
      cases q : dget ks vs k with
      | none => rw [g.2 q] <;> rfl
      | some x => obtain ⟨w, e4, _⟩ := g.1 x q; rw [e4]; rfl
    refine ⟨fun h => wpAny_in_of (kV_is rv) hs dd.mapOf ?_, fun h => wpAny_notIn_of (kV_is rv) hs dd.mapOf ?_⟩
    · rw [← e3]; exact h _ (I.tok _)
    · rw [← e3]; exact h _ (I.tok _)
  · obtain ⟨xs, ws, D⟩ := xd_of I hP hw hd r (by rcases hf with h | ⟨m, r, h⟩; exact .inl h; exact .inr ⟨m, r, h⟩)
    have hk8 : P.isKey 8 (.tup l) = true := by unfold keyOk at hk; rw [Bool.and_eq_true] at hk; exact hk.2
    obtain ⟨κ, e1, d1⟩ := nk_some 8 _ hk8
    obtain ⟨b, ys, rfl, eb, rl⟩ := RP.tup_iff.mp ry
    cases rv
    have ki : (nestedKind C.P C.w).is s.heap κ b := ⟨nis I _ _ _ _ ry rfl e1, d1⟩
    have g := xd_get D.keys D.vals D.rv e1
    have e3 : (dget ks vs (.tup l)).isSome = (atKey xs κ).isSome := by
      cases q : dget ks vs (.tup l) with
      | none => rw [g.2 q] <;> rfl
      | some x => obtain ⟨b', v', w', e4, _⟩ := g.1 x q; rw [e4]; rfl
    have room : (nestedKind C.P C.w).room X.A.in1 := by show X.A.units + 1 + 8 < cLine; omega
    rw [hP, hw]
    refine ⟨fun h => wpAny_in_heap room ki D.nsys D.dict ?_, fun h => wpAny_notIn_heap room ki D.nsys D.dict ?_⟩
    · rw [← e3]; exact h _ (I.tok _)
    · rw [← e3]; exact h _ (I.tok _)
/-- d[x], there -/
theorem dct_get (hP : X.prog = C.P) (hw : X.w = C.w) (hu : X.A.units + 65 < cLine) {A : Around} (hA : A.units ≤ X.A.units + 2) {pins : List (Addr × Obj)} {σ : L2.St} {H : Hp} {s : Shared} {E : Value → Shared → Prop} {Q : Value → Shared → Prop} {a : Addr} {u : HO} {ks vs : List P} {k x : P} {y : V} {v : Value} (I : Inv X pins σ H s)
    (hd : Rd H a u) (r : RDc C H a ks vs u) (hk : keyOk ks k = true) (ry : RP C H k y) (rv : RelV y v) (hx : dget ks vs k = some x) (h : ∀ s' z w, Inv X pins σ H s' → RP C H x z → RelV z w → Q w s') :
    wpAny (model X.prog X.w) A (getItem (.ref a) v) Q E s := by
  rcases kind_of hk with ⟨κ, hκ, hf⟩ | ⟨l, rfl, hf⟩
  · obtain ⟨kvs, rfl, e1, e2⟩ := flat_of r hf
    obtain ⟨z, hs, vs', rel, dd⟩ := dk_rd I.hok hd
    have ey := keyP_V hκ ry
    subst ey
    obtain ⟨w, e4, rw4⟩ := (fd_get e1 e2 hκ).1 x hx
    obtain ⟨w', hw', rw'⟩ := RelO.some_of (v := w) (o := valueAt vs' κ) (by rw [← e4]; exact rel.val κ)
    exact wpAny_getItem_of (kV_is rv) dd.mapOf hw' (h _ w w' (I.tok _) rw4 rw')
  · obtain ⟨xs, ws, D⟩ := xd_of I hP hw hd r (by rcases hf with h | ⟨m, r, h⟩; exact .inl h; exact .inr ⟨m, r, h⟩)
    have hk8 : P.isKey 8 (.tup l) = true := by unfold keyOk at hk; rw [Bool.and_eq_true] at hk; exact hk.2
    obtain ⟨κ, e1, d1⟩ := nk_some 8 _ hk8
    obtain ⟨b, ys, rfl, eb, rl⟩ := RP.tup_iff.mp ry
    cases rv
    have ki : (nestedKind C.P C.w).is s.heap κ b := ⟨nis I _ _ _ _ ry rfl e1, d1⟩
    obtain ⟨b', v', w', e4, rv', rp'⟩ := (xd_get D.keys D.vals D.rv e1).1 x hx
    have room : (nestedKind C.P C.w).room A.in1 := by show A.units + 1 + 8 < cLine; omega
    rw [hP, hw]
    exact wpAny_getItem_heap room ki D.dict e4 (h _ v' w' (I.tok _) rp' rv')
theorem dct_type {pins : List (Addr × Obj)} {σ : L2.St} {H : Hp} {s : Shared} {a : Addr} {u : HO} {ks vs : List P} (I : Inv X pins σ H s) (hd : Rd H a u) (r : RDc C H a ks vs u) : ∃ o, s.heap.get? a = some o ∧ o.ExactDict := by
  rcases r with ⟨kvs, rfl, _⟩ | ⟨xs, ws, _, rfl, _⟩
  · obtain ⟨z, hs, vs', rel, o, es, ep, h1, h2, _⟩ := dk_rd I.hok hd
    exact ⟨o, h1, h2⟩
  · obtain ⟨o, es, ep, h1, h2, _⟩ := dx_rd I hd
    exact ⟨o, h1, h2⟩
theorem keyOk_rp {H : Hp} {ks : List P} {k : P} {y : V} (hk : keyOk ks k = true) (h : VP C H k y) : RP C H k y := by
  cases k with
  | lst l => rcases kind_of hk with ⟨κ, e, _⟩ | ⟨l, e, _⟩ <;> cases e
  | dct a b => rcases kind_of hk with ⟨κ, e, _⟩ | ⟨l, e, _⟩ <;> cases e
  | _ => exact h
theorem c_in (hP : X.prog = C.P) (hw : X.w = C.w) (hK : X.K = C.K) (hu : X.A.units + 65 < cLine) : OpR X (compareOp .In) (rC C (evC .isin)) := by
  intro pins s σ H v w u1 u2 Q I rx ry h
  obtain ⟨x, y, z, h1, h2, e, q⟩ := h
  cases y with
  | tup l =>
    obtain ⟨d, ds, e1, e2, s1, s2, rfl⟩ := inSeq_of (show inSeq x l = some z from e)
    obtain ⟨a, xs, rfl, e3, r⟩ := h2.tup
    obtain ⟨as, r1⟩ := Dp.reads I d v u1 (by rw [hK]; exact h1.dp e1) rx
    obtain ⟨bs, r2⟩ := Dp.reads I (.tuple ds) (.ref a) u2 (.tup (SqT.of e3) (by rw [hK]; exact dps_of l xs ds r e2)) ry
    exact SeqAt.in_tuple_reads r2 r1 (canAll s2) (SeqAt.canLay_of_shaped s1) (room_in s1 hu) ⟨.bl _, H, I, rfl, q⟩
  | lst l =>
    obtain ⟨d, ds, e1, e2, s1, s2, rfl⟩ := inSeq_of (show inSeq x l = some z from e)
    obtain ⟨a, xs, rfl, e3, r⟩ := h2
    obtain ⟨as, r1⟩ := Dp.reads I d v u1 (by rw [hK]; exact h1.dp e1) rx
    obtain ⟨bs, r2⟩ := Dp.reads I (.list ds) (.ref a) u2 (.lst (.inl e3) (by rw [hK]; exact dps_of l xs ds r e2)) ry
    exact SeqAt.in_list_reads r2 r1 (canAll s2) (SeqAt.canLay_of_shaped s1) (room_in s1 hu) ⟨.bl _, H, I, rfl, q⟩
  | dct ks vs =>
    have e : (if keyOk ks x then some (dget ks vs x).isSome else none) = some z := e
    split at e
    · rename_i hk
      cases e
      obtain ⟨a, u, rfl, e2, r⟩ := h2
      cases ry
      exact (dct_in hP hw hu I e2 r hk (keyOk_rp hk h1) rx).1 fun s' I' => ⟨.bl _, H, I', rfl, q⟩
    · cases e
  | _ => cases e
theorem c_notin (hP : X.prog = C.P) (hw : X.w = C.w) (hK : X.K = C.K) (hu : X.A.units + 65 < cLine) : OpR X (compareOp .NotIn) (rC C (evC .notin)) := by
  intro pins s σ H v w u1 u2 Q I rx ry h
  obtain ⟨x, y, z, h1, h2, e, q⟩ := h
  cases y with
  | tup l =>
    have e : (match inSeq x l with | some c => some (!c) | none => none) = some z := e
    cases e0 : inSeq x l with
    | none => rw [e0] at e; cases e
    | some c =>
      rw [e0] at e
      cases e
      obtain ⟨d, ds, e1, e2, s1, s2, rfl⟩ := inSeq_of e0
      obtain ⟨a, xs, rfl, e3, r⟩ := h2.tup
      obtain ⟨as, r1⟩ := Dp.reads I d v u1 (by rw [hK]; exact h1.dp e1) rx
      obtain ⟨bs, r2⟩ := Dp.reads I (.tuple ds) (.ref a) u2 (.tup (SqT.of e3) (by rw [hK]; exact dps_of l xs ds r e2)) ry
      exact SeqAt.notIn_tuple_reads r2 r1 (canAll s2) (SeqAt.canLay_of_shaped s1) (room_in s1 hu) ⟨.bl _, H, I, rfl, q⟩
  | lst l =>
    have e : (match inSeq x l with | some c => some (!c) | none => none) = some z := e
    cases e0 : inSeq x l with
    | none => rw [e0] at e; cases e
    | some c =>
      rw [e0] at e
      cases e
      obtain ⟨d, ds, e1, e2, s1, s2, rfl⟩ := inSeq_of e0
      obtain ⟨a, xs, rfl, e3, r⟩ := h2
      obtain ⟨as, r1⟩ := Dp.reads I d v u1 (by rw [hK]; exact h1.dp e1) rx
      obtain ⟨bs, r2⟩ := Dp.reads I (.list ds) (.ref a) u2 (.lst (.inl e3) (by rw [hK]; exact dps_of l xs ds r e2)) ry
      exact SeqAt.notIn_list_reads r2 r1 (canAll s2) (SeqAt.canLay_of_shaped s1) (room_in s1 hu) ⟨.bl _, H, I, rfl, q⟩
  | dct ks vs =>
    have e : (if keyOk ks x then some (!(dget ks vs x).isSome) else none) = some z := e
    split at e
    · rename_i hk
      cases e
      obtain ⟨a, u, rfl, e2, r⟩ := h2
      cases ry
      exact (dct_in hP hw hu I e2 r hk (keyOk_rp hk h1) rx).2 fun s' I' => ⟨.bl _, H, I', rfl, q⟩
    · cases e
  | _ => cases e
theorem c_lt (hK : X.K = C.K) (hu : X.A.units + 65 < cLine) : OpR X (compareOp .Lt) (rC C (evC .lt)) := by
  intro pins s σ H v w u1 u2 Q I rx ry h
  obtain ⟨x, y, z, h1, h2, e, q⟩ := h
  cases x with
  | int i =>
    cases y with
    | int j =>
      cases e
      have := h1.int; subst this
      have := h2.int; subst this
      exact op_lt pins s σ H _ _ u1 u2 Q I rx ry ⟨i, j, rfl, rfl, q⟩
    | _ => cases e
  | tup l =>
    cases y with
    | tup m =>
      have e : (match P.pys l, P.pys m with
        | some x, some y => if PySem.W.alike (.tuple x) (.tuple y) && SeqAt.shaped (.tuple x) then some (P.ltbs l m) else none
        | _, _ => none) = some z := e
      split at e
      · rename_i x y e1 e2
        split at e
        · rename_i hh
          rw [Bool.and_eq_true] at hh
          cases e
          obtain ⟨as, r1⟩ := Dp.reads I (.tuple x) v u1 (by rw [hK]; exact h1.dp (by rw [P.py, e1])) rx
          obtain ⟨bs, r2⟩ := Dp.reads I (.tuple y) w u2 (by rw [hK]; exact h2.dp (by rw [P.py, e2])) ry
          have hd := SeqAt.depth_of_shaped hh.2
          have hm : min (PyData.tuple x).depth (PyData.tuple y).depth ≤ (PyData.tuple x).depth := Nat.min_le_left _ _
          refine PySem.W.lt_data r1 r2 hh.1 (fun z => by cases z) (by omega) ⟨.bl _, H, I, rfl, ?_⟩
          rw [PySem.W.dataLt_tuple, ltbs_data l m x y e1 e2 (by have := hh.1; rwa [PySem.W.alike] at this)]
          exact q
        · cases e
      · cases e
    | _ => cases e
  | _ => cases e
theorem c_le : OpR X (compareOp .LtE) (rC C (evC .le)) := by
  intro pins s σ H v w u1 u2 Q I rx ry h
  obtain ⟨x, y, z, h1, h2, e, q⟩ := h
  cases x with
  | int i =>
    cases y with
    | int j =>
      cases e
      have := h1.int; subst this
      have := h2.int; subst this
      exact op_le pins s σ H _ _ u1 u2 Q I rx ry ⟨i, j, rfl, rfl, q⟩
    | _ => cases e
  | _ => cases e
theorem c_gt : OpR X (compareOp .Gt) (rC C (evC .gt)) := by
  intro pins s σ H v w u1 u2 Q I rx ry h
  obtain ⟨x, y, z, h1, h2, e, q⟩ := h
  cases x with
  | int i =>
    cases y with
    | int j =>
      cases e
      have := h1.int; subst this
      have := h2.int; subst this
      exact op_gt pins s σ H _ _ u1 u2 Q I rx ry ⟨i, j, rfl, rfl, q⟩
    | _ => cases e
  | _ => cases e
theorem c_ge : OpR X (compareOp .GtE) (rC C (evC .ge)) := by
  intro pins s σ H v w u1 u2 Q I rx ry h
  obtain ⟨x, y, z, h1, h2, e, q⟩ := h
  cases x with
  | int i =>
    cases y with
    | int j =>
      cases e
      have := h1.int; subst this
      have := h2.int; subst this
      exact op_ge pins s σ H _ _ u1 u2 Q I rx ry ⟨i, j, rfl, rfl, q⟩
    | _ => cases e
  | _ => cases e
def isNonP : P → Bool
  | .non => true
  | _ => false
theorem VP.isNon {H : Hp} {x : P} {v : V} (h : VP C H x v) : decide (v = .non) = isNonP x := by
  cases x with
  | non => rw [h.non]; rfl
  | bl _ => rw [h.bl]; rfl
  | int _ => rw [h.int]; rfl
  | str _ => rw [h.str]; rfl
  | tup _ => obtain ⟨a, xs, rfl, _⟩ := h.tup; rfl
  | lst _ => obtain ⟨a, xs, rfl, _⟩ := h; rfl
  | dct _ _ => obtain ⟨a, xs, rfl, _⟩ := h; rfl
  | rng _ _ => obtain ⟨a, rfl, _⟩ := RP.rng_iff.mp (show RP C H _ v from h); rfl
  | glo _ => obtain ⟨a, _, rfl⟩ := RP.glo_iff.mp (show RP C H _ v from h); rfl
theorem c_isNone : OpR X (compareOp .Is) (rC C (evC .isNone)) := by
  intro pins s σ H v w u1 u2 Q I rx ry h
  obtain ⟨x, y, z, h1, h2, e, q⟩ := h
  cases y with
  | non =>
    have := h2.non; subst this
    refine op_isN pins s σ H _ _ u1 u2 Q I rx ry ⟨rfl, ?_⟩
    rw [h1.isNon]
    have e2 : z = isNonP x := by
      have := (Option.some.inj e).symm
      rw [this]; cases x <;> rfl
    rw [← e2]; exact q
  | _ => cases e
theorem c_notNone : OpR X (compareOp .IsNot) (rC C (evC .notNone)) := by
  intro pins s σ H v w u1 u2 Q I rx ry h
  obtain ⟨x, y, z, h1, h2, e, q⟩ := h
  cases y with
  | non =>
    have := h2.non; subst this
    refine op_notN pins s σ H _ _ u1 u2 Q I rx ry ⟨rfl, ?_⟩
    rw [h1.isNon]
    have e2 : z = !isNonP x := by
      have := (Option.some.inj e).symm
      rw [this]; cases x <;> rfl
    rw [← e2]; exact q
  | _ => cases e
end
end Ev

set_option Elab.async false
set_option linter.all false
set_option maxRecDepth 100000
set_option maxHeartbeats 4000000
namespace Ev
open PySem PySem.Spec PyProof.Rows L2

/-! ### a tuple once -/
theorem tup_once (l : Addr) (items : Array Value) (n : Nat) (dd : Option Addr) (sl : Array (Option Value)) (u : Tok) :
    Meets (Builtin.«tuple.__mul__» ⟨[.ref l, .int 1 u], []⟩) (fun _ R s => s.heap.get? l = some { cls := .type "tuple", dict := dd, data := .seq items n, slots := sl } ∧ R (.ok (.ret (Value.ref l))) s) :=
  .of_wp fun prog w A R s h => by
    obtain ⟨hp, g, d, tk, os⟩ := s
    obtain ⟨hl, h⟩ := h
    have f1 := AutoSeq1.idx_int
    wp_walk using wpAny_loadPart' hl
    exact ⟨_, rfl, h⟩
section
variable {X : Cx}
theorem op_once : OpR X (binaryOp .Mult) (fun x y H Q => ∃ l xs, x = .ref l ∧ y = .int 1 ∧ SqT X.K H l xs ∧ Q (.ref l) H) := by
  intro pins s σ H x y v u Q I rx ry h
  obtain ⟨l, xs, rfl, rfl, hT, q⟩ := h
  cases rx
  obtain ⟨t, rfl⟩ := ry
  obtain ⟨its, r, ⟨⟨cls, dd, data, sl⟩, ho, hc, n, hd⟩, hs⟩ := I.tuple hT
  simp only at hc hd
  subst hc hd
  exact wpAny_binaryOp_repeat_ref (T := "tuple") (U := "int") (by decide) ⟨_, ho, rfl⟩ (fun s' => typeIs_int s' 1 t) noFill_tuple_mul F.fills_int_mul F.slot_int_rmul repeat_tuple F.slot_int_index.lookup
    (call_meets F.slot_int_rmul (typeIs_int s 1 t) F.entry_int_rmul (F.args_int_rmul_2 _ _) (int_rmul_tuple 1 t l its.toArray n dd sl)
      ⟨ho, rfl, ⟨_, ho, rfl⟩, call_meets F.slot_tuple_mul ⟨_, ho, rfl⟩ F.entry_tuple_mul (F.args_tuple_mul_2 _ _) (tup_once l its.toArray n dd sl t) ⟨ho, ⟨.ref l, H, I, rfl, q⟩⟩⟩)
end
end Ev

set_option Elab.async false
set_option linter.all false
set_option maxRecDepth 100000
set_option maxHeartbeats 1000000
namespace Ev
open PySem PySem.Spec PyProof.Rows L2

section
variable {C : Gc} {X : Cx}
/-! ### is True and the like -/
def isBlP (b : Bool) : P → Bool
  | .bl c => c == b
  | _ => false
theorem VP.plainBl {H : Hp} {x : P} {v : V} {u : Value} (h : VP C H x v) (r : RelV v u) (b : Bool) : plainIs u (.bool b) = true ∧ (u == Value.bool b) = isBlP b x := by
  cases x with
  | non => rw [h.non] at r; cases r; exact ⟨rfl, by simp [isBlP]⟩
  | bl c => rw [h.bl] at r; cases r; exact ⟨rfl, by cases b <;> cases c <;> decide⟩
  | int _ => rw [h.int] at r; obtain ⟨t, rfl⟩ := r; exact ⟨rfl, by simp [isBlP]⟩
  | str _ => rw [h.str] at r; obtain ⟨t, rfl⟩ := r; exact ⟨rfl, by simp [isBlP]⟩
  | tup _ => obtain ⟨a, xs, rfl, _⟩ := h.tup; cases r; exact ⟨rfl, by simp [isBlP]⟩
  | lst _ => obtain ⟨a, xs, rfl, _⟩ := h; cases r; exact ⟨rfl, by simp [isBlP]⟩
  | dct _ _ => obtain ⟨a, xs, rfl, _⟩ := h; cases r; exact ⟨rfl, by simp [isBlP]⟩
  | rng _ _ => obtain ⟨a, rfl, _⟩ := RP.rng_iff.mp (show RP C H _ v from h); cases r; exact ⟨rfl, by simp [isBlP]⟩
  | glo _ => obtain ⟨a, _, rfl⟩ := RP.glo_iff.mp (show RP C H _ v from h); cases r; exact ⟨rfl, by simp [isBlP]⟩
theorem is_blP {b : Bool} {x : P} {z : Bool} (h : (match b with | true => evC .isTrue x (.bl true) | false => evC .isFalse x (.bl false)) = some z) : z = isBlP b x := by
  cases b <;> (have := (Option.some.inj h).symm; rw [this]; cases x <;> first | rfl | (rename_i q; cases q <;> rfl))
theorem c_isTrue : OpR X (compareOp .Is) (rC C (evC .isTrue)) := by
  intro pins s σ H v w u1 u2 Q I rx ry h
  obtain ⟨x, y, z, h1, h2, e, q⟩ := h
  cases y with
  | bl b =>
    cases b with
    | true =>
      have := h2.bl; subst this
      cases ry
      obtain ⟨p1, p2⟩ := h1.plainBl rx true
      exact wpAny_is_plain p1 ⟨.bl z, H, I, by rw [p2, is_blP (b := true) e]; rfl, q⟩
    | false => cases e
  | _ => cases e
theorem c_isFalse : OpR X (compareOp .Is) (rC C (evC .isFalse)) := by
  intro pins s σ H v w u1 u2 Q I rx ry h
  obtain ⟨x, y, z, h1, h2, e, q⟩ := h
  cases y with
  | bl b =>
    cases b with
    | false =>
      have := h2.bl; subst this
      cases ry
      obtain ⟨p1, p2⟩ := h1.plainBl rx false
      exact wpAny_is_plain p1 ⟨.bl z, H, I, by rw [p2, is_blP (b := false) e]; rfl, q⟩
    | true => cases e
  | _ => cases e
theorem not_blP {b : Bool} {x : P} {z : Bool} (h : (match b with | true => evC .notTrue x (.bl true) | false => evC .notFalse x (.bl false)) = some z) : z = !isBlP b x := by
  cases b <;> (have := (Option.some.inj h).symm; rw [this]; cases x <;> first | rfl | (rename_i q; cases q <;> rfl))
theorem c_notTrue : OpR X (compareOp .IsNot) (rC C (evC .notTrue)) := by
  intro pins s σ H v w u1 u2 Q I rx ry h
  obtain ⟨x, y, z, h1, h2, e, q⟩ := h
  cases y with
  | bl b =>
    cases b with
    | true =>
      have := h2.bl; subst this
      cases ry
      obtain ⟨p1, p2⟩ := h1.plainBl rx true
      exact wpAny_isNot_plain p1 ⟨.bl z, H, I, by rw [p2, not_blP (b := true) e]; rfl, q⟩
    | false => cases e
  | _ => cases e
theorem c_notFalse : OpR X (compareOp .IsNot) (rC C (evC .notFalse)) := by
  intro pins s σ H v w u1 u2 Q I rx ry h
  obtain ⟨x, y, z, h1, h2, e, q⟩ := h
  cases y with
  | bl b =>
    cases b with
    | false =>
      have := h2.bl; subst this
      cases ry
      obtain ⟨p1, p2⟩ := h1.plainBl rx false
      exact wpAny_isNot_plain p1 ⟨.bl z, H, I, by rw [p2, not_blP (b := false) e]; rfl, q⟩
    | true => cases e
  | _ => cases e

/-! ### two-place operations -/
theorem atP_at {H : Hp} {l : List P} {xs : List V} {i : Int} {x : P} (r : RPs C H l xs) (h : atP l i = some x) : ∃ v, L2.atI xs i = some v ∧ RP C H x v := by
  unfold atP at h
  have e : ixN l.length i = L2.ixN xs.length i := by rw [r.length]; rfl
  rw [e] at h
  unfold L2.atI
  cases q : L2.ixN xs.length i with
  | none => rw [q] at h; cases h
  | some j => rw [q] at h; exact r.get h
theorem big_line : big = sizeLine := sizeLine_eq.symm
theorem b_add (hK : X.K = C.K) : OpR X (binaryOp .Add) (rB C (evB .add)) := by
  intro pins s σ H v w u1 u2 Q I rx ry h
  obtain ⟨x, y, z, h1, h2, e, q⟩ := h
  cases x with
  | int i =>
    cases y with
    | int j =>
      cases e
      have := h1.int; subst this
      have := h2.int; subst this
      exact op_add pins s σ H _ _ u1 u2 Q I rx ry ⟨i, j, rfl, rfl, q H _ (Same.refl H) (RP.int_iff.mpr rfl)⟩
    | _ => cases e
  | tup l =>
    cases y with
    | tup m =>
      have e : (if decide (l.length + m.length ≤ big) then some (P.tup (l ++ m)) else none) = some z := e
      split at e
      · rename_i hz
        cases e
        have hz := of_decide_eq_true hz
        obtain ⟨a, xs, rfl, e3, r⟩ := h1.tup
        obtain ⟨b, ys, rfl, e4, r2⟩ := h2.tup
        refine op_catA pins s σ H _ _ u1 u2 Q I rx ry ⟨a, b, xs, ys, rfl, rfl, SqT.of e3, SqT.of e4, by rw [← r.length, ← r2.length, ← big_line]; exact hz, ?_, ?_, ?_⟩
        · intro h0
          subst h0
          have : l = [] := List.eq_nil_of_length_eq_zero r.length
          subst this
          exact q H _ (Same.refl H) (RP.tup_iff.mpr ⟨b, ys, rfl, e4, r2⟩)
        · intro _ h0
          subst h0
          have : m = [] := List.eq_nil_of_length_eq_zero r2.length
          subst this
          rw [List.append_nil] at q
          exact q H _ (Same.refl H) (RP.tup_iff.mpr ⟨a, xs, rfl, e3, r⟩)
        · intro _ _ p hp
          exact q _ _ (Same.new hp) (tupOf hp (r.append r2))
      · cases e
    | _ => cases e
  | _ => cases e
theorem b_sub : OpR X (binaryOp .Sub) (rB C (evB .sub)) := by
  intro pins s σ H v w u1 u2 Q I rx ry h
  obtain ⟨x, y, z, h1, h2, e, q⟩ := h
  cases x with
  | int i =>
    cases y with
    | int j =>
      cases e
      have := h1.int; subst this
      have := h2.int; subst this
      exact op_sub pins s σ H _ _ u1 u2 Q I rx ry ⟨i, j, rfl, rfl, q H _ (Same.refl H) (RP.int_iff.mpr rfl)⟩
    | _ => cases e
  | _ => cases e
theorem rep_rps {H : Hp} {l : List P} {xs : List V} (r : RPs C H l xs) : ∀ n : Nat, RPs C H (List.replicate n l).flatten (List.replicate n xs).flatten
  | 0 => .nil
  | n + 1 => by
    rw [List.replicate_succ, List.replicate_succ, List.flatten_cons, List.flatten_cons]
    exact r.append (rep_rps r n)
theorem b_mul (hK : X.K = C.K) : OpR X (binaryOp .Mult) (rB C (evB .mul)) := by
  intro pins s σ H v w u1 u2 Q I rx ry h
  obtain ⟨x, y, z, h1, h2, e, q⟩ := h
  cases x with
  | int i =>
    cases y with
    | int j =>
      have e : (if mulOk i j then some (P.int (i * j)) else none) = some z := e
      split at e
      · rename_i hm
        cases e
        have := h1.int; subst this
        have := h2.int; subst this
        unfold mulOk at hm
        simp only [Bool.or_eq_true, Bool.and_eq_true, decide_eq_true_eq] at hm
        rcases hm with hm | hm
        · exact op_mul pins s σ H _ _ u1 u2 Q I rx ry ⟨i, j, rfl, rfl, by unfold CMul; omega, q H _ (Same.refl H) (RP.int_iff.mpr rfl)⟩
        · exact op_mulW pins s σ H _ _ u1 u2 Q I rx ry ⟨i, j, rfl, rfl, wide_mul hm.1 hm.2 (by omega) (by omega) (by omega), q H _ (Same.refl H) (RP.int_iff.mpr rfl)⟩
      · cases e
    | _ => cases e
  | tup l =>
    cases y with
    | int k =>
      have e : (if decide (k = 1) then some (P.tup l) else if !l.isEmpty && decide (2 ≤ k) && decide (k ≤ 1000) && decide (l.length ≤ 1000) then some (P.tup (List.replicate k.toNat l).flatten) else none) = some z := e
      by_cases h1k : k = 1
      · subst h1k
        rw [if_pos (by decide)] at e
        cases e
        obtain ⟨a, xs, rfl, e3, r⟩ := h1.tup
        have := h2.int; subst this
        exact op_once pins s σ H _ _ u1 u2 Q I rx ry ⟨a, xs, rfl, rfl, SqT.of e3, q _ _ (Same.refl H) (RP.tup_iff.mpr ⟨a, xs, rfl, e3, r⟩)⟩
      rw [if_neg (by simpa using h1k)] at e
      split at e
      · rename_i hm
        cases e
        simp only [Bool.and_eq_true, decide_eq_true_eq] at hm
        obtain ⟨⟨⟨m1, m2⟩, m3⟩, m4⟩ := hm
        obtain ⟨a, xs, rfl, e3, r⟩ := h1.tup
        have := h2.int; subst this
        refine op_repT pins s σ H _ _ u1 u2 Q I rx ry ⟨a, k, xs, rfl, rfl, SqT.of e3, ?_, m2, m3, by rw [← r.length]; exact m4, fun p hp => q _ _ (Same.new hp) (tupOf hp (rep_rps r _))⟩
        intro h0
        subst h0
        have : l = [] := List.eq_nil_of_length_eq_zero r.length
        subst this
        cases m1
      · cases e
    | _ => cases e
  | _ => cases e
theorem b_fdiv : OpR X (binaryOp .FloorDiv) (rB C (evB .fdiv)) := by
  intro pins s σ H v w u1 u2 Q I rx ry h
  obtain ⟨x, y, z, h1, h2, e, q⟩ := h
  cases x with
  | int i =>
    cases y with
    | int j =>
      have e : (if divOk j then some (P.int (i / j)) else none) = some z := e
      split at e
      · rename_i hm
        cases e
        have := h1.int; subst this
        have := h2.int; subst this
        unfold divOk at hm
        simp only [Bool.and_eq_true, decide_eq_true_eq] at hm
        exact op_fdivW pins s σ H _ _ u1 u2 Q I rx ry ⟨i, j, rfl, rfl, wide_div hm.1 hm.2 (by omega) (by omega), q H _ (Same.refl H) (RP.int_iff.mpr rfl)⟩
      · cases e
    | _ => cases e
  | _ => cases e
theorem b_mod : OpR X (binaryOp .Mod) (rB C (evB .mod)) := by
  intro pins s σ H v w u1 u2 Q I rx ry h
  obtain ⟨x, y, z, h1, h2, e, q⟩ := h
  cases x with
  | int i =>
    cases y with
    | int j =>
      have e : (if decide (0 < j) then some (P.int (i % j)) else none) = some z := e
      split at e
      · rename_i hm
        cases e
        have := h1.int; subst this
        have := h2.int; subst this
        exact op_mod pins s σ H _ _ u1 u2 Q I rx ry ⟨i, j, rfl, rfl, of_decide_eq_true hm, q H _ (Same.refl H) (RP.int_iff.mpr rfl)⟩
      · cases e
    | _ => cases e
  | _ => cases e
theorem b_pow : OpR X (binaryOp .Pow) (rB C (evB .pow)) := by
  intro pins s σ H v w u1 u2 Q I rx ry h
  obtain ⟨x, y, z, h1, h2, e, q⟩ := h
  cases x with
  | int i =>
    cases y with
    | int j =>
      have e : (if decide (0 ≤ j) && decide (j ≤ 1000) && decide (i.natAbs < 1000) then some (P.int (i ^ j.toNat)) else none) = some z := e
      split at e
      · rename_i hm
        cases e
        have := h1.int; subst this
        have := h2.int; subst this
        simp only [Bool.and_eq_true, decide_eq_true_eq] at hm
        exact op_pow pins s σ H _ _ u1 u2 Q I rx ry ⟨i, j, rfl, rfl, ⟨hm.1.1, by omega, by omega⟩, q H _ (Same.refl H) (RP.int_iff.mpr rfl)⟩
      · cases e
    | _ => cases e
  | _ => cases e
theorem b_idx (hP : X.prog = C.P) (hw : X.w = C.w) (hK : X.K = C.K) (hu : X.A.units + 65 < cLine) : IxR X (rB C (evB .idx)) := by
  intro value slice pins s σ H v w u1 u2 Q I rx ry h hs
  obtain ⟨x, y, z, h1, h2, e, q⟩ := h
  cases x with
  | tup l =>
    cases y with
    | int i =>
      obtain ⟨a, xs, rfl, e3, r⟩ := h1.tup
      have := h2.int; subst this
      obtain ⟨v, e4, rv⟩ := atP_at r (show atP l i = some z from e)
      exact ix_tup value slice pins s σ H _ _ u1 u2 Q I rx ry ⟨a, xs, i, v, rfl, rfl, SqT.of e3, e4, q H _ (Same.refl H) rv⟩ hs
    | _ => cases e
  | lst l =>
    cases y with
    | int i =>
      obtain ⟨a, xs, rfl, e3, r⟩ := h1
      have := h2.int; subst this
      obtain ⟨v, e4, rv⟩ := atP_at r (show atP l i = some z from e)
      exact ix_list value slice pins s σ H _ _ u1 u2 Q I rx ry ⟨a, xs, i, v, rfl, rfl, .inl e3, e4, q H _ (Same.refl H) rv⟩ hs
    | _ => cases e
  | dct ks vs =>
    have e : (if keyOk ks y then dget ks vs y else none) = some z := e
    split at e
    · rename_i hk
      obtain ⟨a, u, rfl, e2, r⟩ := h1
      cases rx
      obtain ⟨o, ho, hd⟩ := dct_type I e2 r
      exact tail_any (T := "dict") ⟨o, ho, hd.1⟩ slot_dict_getitem.lookup (dct_get hP hw hu (by omega) I e2 r hk (keyOk_rp hk h2) ry e fun s' z' w' I' r1 r2 => ⟨z', H, I', r2, q H _ (Same.refl H) r1⟩) hs
    · cases e
  | _ => cases e
theorem b_min2 (hc : X.calm = true) : CallR X (.builtin "min") (fun vs H Q => ∃ v w, vs = [v, w] ∧ rB C (evB .min2) v w H Q) := by
  intro pins s σ H vs us Q I r h
  obtain ⟨v, w, rfl, x, y, z, h1, h2, e, q⟩ := h
  cases x with
  | int i =>
    cases y with
    | int j =>
      cases e
      have := h1.int; subst this
      have := h2.int; subst this
      exact call_min2 hc pins s σ H _ us Q I r ⟨i, j, rfl, q H _ (Same.refl H) (RP.int_iff.mpr rfl)⟩
    | _ => cases e
  | _ => cases e
theorem b_max2 (hc : X.calm = true) : CallR X (.builtin "max") (fun vs H Q => ∃ v w, vs = [v, w] ∧ rB C (evB .max2) v w H Q) := by
  intro pins s σ H vs us Q I r h
  obtain ⟨v, w, rfl, x, y, z, h1, h2, e, q⟩ := h
  cases x with
  | int i =>
    cases y with
    | int j =>
      cases e
      have := h1.int; subst this
      have := h2.int; subst this
      exact call_max2 hc pins s σ H _ us Q I r ⟨i, j, rfl, q H _ (Same.refl H) (RP.int_iff.mpr rfl)⟩
    | _ => cases e
  | _ => cases e
theorem u_neg : UnR X (unaryOp .USub) (fun v H Q => Ev.rU C (evU .neg) [v] H Q) := by
  intro pins s σ H v u Q I rv h
  obtain ⟨v', x, y, ev, vp, e, q⟩ := h
  obtain ⟨rfl, _⟩ := List.cons.inj ev
  cases x with
  | int i =>
    cases e
    have := vp.int; subst this
    exact un_neg pins s σ H _ u Q I rv ⟨i, rfl, q H _ (Same.refl H) (RP.int_iff.mpr rfl)⟩
  | _ => cases e
end
end Ev

set_option Elab.async false
set_option linter.all false
set_option maxRecDepth 100000
set_option maxHeartbeats 1000000
namespace Ev
open PySem PySem.Spec PyProof.Rows L2

/-! ### readings -/
/-- what is wanted of an exception: its class, its fields, the store, the heap, the slots -/
abbrev XW := Nat → List P → St → List Addr → Hp → L2.St → Prop
/-- what is wanted behind an evaluation -/
def post (C : Gc) (W : XW) (σ : L2.St) {α : Type} (μ : List Addr) (H : Hp) (res : R α) (ok : α → St → List Addr → Hp → Prop) : Prop := match res with
  | .ok a st' => ∀ μ' H', Nx μ H μ' H' → Wd C H' μ' st' → ok a st' μ' H'
  | .exc c fs st' => ∀ μ' H', Nx μ H μ' H' → Wd C H' μ' st' → W c fs st' μ' H' σ
  | .bad => False
def rdG (C : Gc) (W : XW) {α : Type} (ev : En → St → R α) (ok : α → St → List Addr → Hp → Prop) : L2.St → Hp → Prop := fun σ H =>
  ∃ μ st r, Wd C H μ st ∧ REn C H μ r σ ∧ post C W σ μ H (ev r st) ok
def okD (C : Gc) (Q : VK) : D → St → List Addr → Hp → Prop := fun d _ μ H => ∀ v, RD C H μ d v → Q v H
/-- an expression -/
def rdE (C : Gc) (W : XW) (ev : En → St → R D) : TE := fun σ H Q => rdG C W ev (okD C Q) σ H
/-- a fresh list -/
def okL (C : Gc) (Q : VK) : List P → St → List Addr → Hp → Prop := fun l _ μ H => ∀ p xs, H p = none → RPs C H l xs → Q (.ref p) (upd H p (.lst xs))
def rdL (C : Gc) (W : XW) (ev : En → St → R (List P)) : TE := fun σ H Q => rdG C W ev (okL C Q) σ H
/-- a fresh dict -/
def okM (C : Gc) (Q : VK) : List P × List P → St → List Addr → Hp → Prop := fun kv _ μ H => ∀ p u, H p = none → Mut (some u) → RDc C H p kv.1 kv.2 u → Q (.ref p) (upd H p u)
def rdM (C : Gc) (W : XW) (ev : En → St → R (List P × List P)) : TE := fun σ H Q => rdG C W ev (okM C Q) σ H
/-- a test -/
def okT (Q : Bool → Hp → Prop) : Bool → St → List Addr → Hp → Prop := fun b _ _ H => Q b H
def rdT (C : Gc) (W : XW) (ev : En → St → R Bool) : TT := fun σ H Q => rdG C W ev (okT Q) σ H
def rdTE (C : Gc) (W : XW) (ev : En → St → R Bool) : TE := fun σ H Q => rdG C W ev (okT fun b H => Q (.bl b) H) σ H
/-- arguments -/
def okA (C : Gc) (Q : List V → Hp → Prop) : List D → St → List Addr → Hp → Prop := fun ds _ μ H => ∀ vs, RDs C H μ ds vs → Q vs H
def rdA (C : Gc) (W : XW) (ev : En → St → R (List D)) : TA := fun σ H Q => rdG C W ev (okA C Q) σ H
/-- a slice's end -/
def okO (Q : Option Int → Hp → Prop) : Option Int → St → List Addr → Hp → Prop := fun o _ _ H => Q o H
section
variable {C : Gc} {W : XW}
theorem post.nx {σ : L2.St} {α : Type} {μ μ1 : List Addr} {H H1 : Hp} {res : R α} {ok : α → St → List Addr → Hp → Prop} (h : post C W σ μ H res ok) (n : Nx μ H μ1 H1) : post C W σ μ1 H1 res ok := by
  cases res with
  | ok a st => exact fun μ' H' n' w => h μ' H' (n.trans n') w
  | exc c fs st => exact fun μ' H' n' w => h μ' H' (n.trans n') w
  | bad => exact h
theorem post.imp {σ : L2.St} {α : Type} {μ : List Addr} {H : Hp} {res : R α} {ok ok' : α → St → List Addr → Hp → Prop} (h : post C W σ μ H res ok) (f : ∀ a st μ' H', Nx μ H μ' H' → Wd C H' μ' st → ok a st μ' H' → ok' a st μ' H') : post C W σ μ H res ok' := by
  cases res with
  | ok a st => exact fun μ' H' n' w => f a st μ' H' n' w (h μ' H' n' w)
  | exc c fs st => exact h
  | bad => exact h
/-- the wanted end, here -/
theorem post.here {σ : L2.St} {α : Type} {μ : List Addr} {H : Hp} {a : α} {st : St} {ok : α → St → List Addr → Hp → Prop} (h : post C W σ μ H (.ok a st) ok) (w : Wd C H μ st) : ok a st μ H := h μ H (Nx.refl μ H) w
/-- STEP: a part runs first -/
theorem step {α β : Type} {ev : En → St → R α} {f : α → St → R β} {ok : β → St → List Addr → Hp → Prop} {ok1 : α → St → List Addr → Hp → Prop} {σ : L2.St} {H : Hp} {μ : List Addr} {st : St} {r : En}
    (w : Wd C H μ st) (hr : REn C H μ r σ) (h : post C W σ μ H ((ev r st).bind f) ok)
    (k : ∀ a st1 μ1 H1, Nx μ H μ1 H1 → Wd C H1 μ1 st1 → REn C H1 μ1 r σ → post C W σ μ1 H1 (f a st1) ok → ok1 a st1 μ1 H1) : rdG C W ev ok1 σ H := by
  refine ⟨μ, st, r, w, hr, ?_⟩
  cases e : ev r st with
  | ok a st1 =>
    rw [e] at h
    exact fun μ1 H1 n w1 => k a st1 μ1 H1 n w1 (hr.nx n) (post.nx h n)
  | exc c fs st1 => rw [e] at h; exact h
  | bad => rw [e] at h; exact h
/-- .. and the whole, unchanged -/
theorem step_last {α : Type} {ev : En → St → R α} {ok ok1 : α → St → List Addr → Hp → Prop} {σ : L2.St} {H : Hp} {μ : List Addr} {st : St} {r : En}
    (w : Wd C H μ st) (hr : REn C H μ r σ) (h : post C W σ μ H (ev r st) ok) (k : ∀ a st1 μ1 H1, Nx μ H μ1 H1 → Wd C H1 μ1 st1 → REn C H1 μ1 r σ → ok a st1 μ1 H1 → ok1 a st1 μ1 H1) : rdG C W ev ok1 σ H :=
  ⟨μ, st, r, w, hr, h.imp fun a st1 μ1 H1 n w1 q => k a st1 μ1 H1 n w1 (hr.nx n) q⟩
end

/-! ### what the checks see -/
def notStar : Expr → Bool
  | .Starred .. => false
  | _ => true
def notSlice : Expr → Bool
  | .Slice .. => false
  | _ => true
def notSet : Expr → Bool
  | .Set .. => false
  | _ => true
def notComp : Expr → Bool
  | .ListComp .. => false
  | .SetComp .. => false
  | .DictComp .. => false
  | _ => true
def plainT : Expr → Bool
  | .UnaryOp .Not _ _ => false
  | .BoolOp .. => false
  | .IfExp .. => false
  | .Compare .. => false
  | _ => true
theorem star_cons {e : Expr} {es : List Expr} {env : Env} (h : notStar e = true) : starEach (e :: es) env = (false, eval e env) :: starEach es env := by
  cases e <;> first | rfl | cases h
theorem star_any {pos : Pos} {env : Env} : ∀ {es : List Expr}, es.all notStar = true → (backTo pos (starEach es env)).any (·.1) = false
  | [], _ => rfl
  | e :: es, h => by
    rw [List.all_cons, Bool.and_eq_true] at h
    rw [star_cons h.1]
    show (false || (backTo pos (starEach es env)).any (·.1)) = false
    rw [star_any h.2]; rfl
theorem plain_ix {e : Expr} (h : notSlice e = true) : PlainIx e := fun o i => by
  cases e <;> first | rfl | cases h
theorem behind_set {op : CmpOp} {e : Expr} (h : notSet e = true) : behindInMarks op e = false := by
  cases e <;> first | rfl | cases h
theorem last_set {op op' : CmpOp} {e e' : Expr} (h : notSet e' = true) : lastMarks [op, op'] [e, e'] = false := by
  show behindInMarks op' e' = false
  exact behind_set h
theorem tru_plain {e : Expr} {env : Env} (h : plainT e = true) (whole : Sem Value) : isTrue e env whole = (do let v ← whole; standAt e.pos; holding [v] (truthy v)) := by
  cases e <;> first
    | rfl
    | (rename_i op _ _; cases op <;> first | rfl | cases h)
    | cases h
theorem folded_set {e : Expr} {env : Env} (h : notSet e = true) (x : Value) : foldedSetIterable e env x = pure x := by
  cases e <;> first | rfl | cases h
theorem swaps_no {e : Expr} {t : Option Expr} {l : Nat} {env : Env} (h : notComp e = true) : swapsWith e t l env = pure false := by
  cases e <;> first | rfl | cases h
theorem swapsSole_no {e t : Expr} {l : Nat} {env : Env} (h : notComp e = true) : swapsWithSole [t] e l env = pure false := swaps_no h
end Ev

set_option Elab.async false
set_option linter.all false
set_option maxRecDepth 100000
set_option maxHeartbeats 1000000
namespace Ev
open PySem PySem.Spec PyProof.Rows L2

/-- the module's names: defs by their place, constants -/
structure Md where
  fns : List (Str × Nat)
  gcs : List (Str × P)
  exs : List (Str × Nat) := []
  cts : List (Str × P × List (Nat × Tell)) := []
/-- a block's names -/
structure Fr where
  N : List Str
  sc : Scope
  fl : Str → Bool
  lam : Bool := false
def bltNames : List Str := [("len" : Str), "abs", "int", "sum", "all", "any", "tuple", "isinstance", "bool", "str", "list", "sorted", "min", "max", "range", "enumerate", "zip", "dict", "set"]
abbrev Cf := Nat → List D → St → R D
/-- an error's own dict: none, or its one number -/
def ExD (C : Gc) (H : Hp) : List P → Option Addr → Prop
  | [], d => d = none
  | [x], d => ∃ dd v, d = some dd ∧ H dd = some (.xd [(("limit" : Str), v)]) ∧ RP C H x v
  | _, _ => False
/-- an exception, as the calls see it -/
def EW (C : Gc) (W : XW) : L2.St → XK := fun σ cls d H => ∃ c fs st μ A, C.ga[c]? = some A ∧ cls = .ref A ∧ ExD C H fs d ∧ Wd C H μ st ∧ W c fs st μ H σ
/-- a def's promise -/
def spG (C : Gc) (cf : Cf) (np : Nat) (g : Nat) : Sp := fun vs H Q E => vs.length = np ∧ ∃ μ st ds, Wd C H μ st ∧ RDs C H μ ds vs ∧ (match cf g ds st with
  | .ok d st' => ∀ μ' H', Nx μ H μ' H' → Wd C H' μ' st' → ∀ v, RD C H' μ' d v → Q v H'
  | .exc c fs st' => ∀ μ' H' A, Nx μ H μ' H' → Wd C H' μ' st' → C.ga[c]? = some A → ∀ d, ExD C H' fs d → E (.ref A) d H'
  | .bad => False)
/-- what a def that catches makes of a call's reading -/
def TTw (C : Gc) (okv : P) (tab : List (Nat × Tell)) : (XK → Hp → VK → Prop) → Hp → VK → Prop := fun tl H Q =>
  tl (fun cls d H' => ∃ c A fs x, C.ga[c]? = some A ∧ cls = .ref A ∧ ExD C H' fs d ∧ wordOf tab c fs = some x ∧ ∀ H'' v, Same H' H'' → RP C H'' x v → Q v H'') H (fun _ H' => ∀ H'' v, Same H' H'' → RP C H'' okv v → Q v H'')
/-- the def x calls what it gets, and tells of its error by the table -/
def CatchOk (C : Gc) (mg : Str → Option Value) (base : Heap) (x : Str) (okv : P) (tab : List (Nat × Tell)) : Prop :=
  ∃ (a : Str) (g : Addr) (pg : Arguments) (bg : List Stmt) (sg : Scope) (dV kV doc pm cdv ct oc : Value) (an od : Option Addr) (osl : Array (Option Value)) (Ng : List Str),
    mg x = some (.ref g) ∧ PySem.W.keepIn C.K (.ref g) = true ∧ C.K.lookup g = some ⟨oc, od, .func (PySem.W.fnOf x x pg bg sg dV kV doc pm an cdv ct), osl⟩ ∧ PySem.W.codeIn C.K cdv x = true ∧ L2.Binds C.K (PySem.W.fnOf x x pg bg sg dV kV doc pm an cdv ct) [a] [] ∧ FnScope Ng [a] sg ∧ Ng[0]? = some a ∧ Vis sg a ∧
    (a == ("__debug__" : Str)) = false ∧ (a == ("__classdict__" : Str)) = false ∧ ∀ (X : Cx) (q : Str), X.prog = C.P → X.w = C.w → X.K = C.K → X.mg = mg → X.base = base → LamX.GivesTo X Ng x sg g cdv bg a q (TTw C okv tab)
structure XOk (C : Gc) (M : Md) (F : Fr) (cf : Cf) (k : Nat) (W : XW) (X : Cx) : Prop where
  prog : X.prog = C.P
  w : X.w = C.w
  K : X.K = C.K
  calm : X.calm = true
  N : X.N = F.N
  nd : X.N.Nodup
  sc : X.env.scope = F.sc
  fl : ∀ x, F.fl x = true → X.fn x = true
  room : Room k X.A
  blt : ∀ x ∈ bltNames, X.mg x = none
  fns : ∀ x g, M.fns.lookup x = some g → ∃ f, C.ga[g]? = some f ∧ X.mg x = some (.ref f)
  fok : ∀ g f, C.ga[g]? = some f → (∃ x, M.fns.lookup x = some g) → ∃ fd ps, PySem.W.keepIn X.K (.ref f) = true ∧ Binds X.K fd ps [] ∧ FnOk X.prog X.w X.K X.mg X.base (L2.CX X.prog X.w) k f fd ps (spG C cf ps.length g) ∧ ∀ ds st, ds.length ≠ ps.length → cf g ds st = .bad
  gcs : ∀ x p, M.gcs.lookup x = some p → ∃ u v, X.mg x = some u ∧ RelV v u ∧ ∀ H, RP C H p v
  pass : ∀ σ, PassesAt (L2.CX X.prog X.w) X σ (EW C W σ)
  lam : F.lam = true → Room (k + 2) X.A ∧ ∃ c P, X.env.code = .ref c ∧ LamX.TabB X.base X.mg c P ∧ (P, X.env.qual ++ "<lambda>") ∈ C.tbs ∧ ∀ p ∈ C.tbs, p.1 = P → p.2 = X.env.qual ++ "<lambda>"
  ctc : ∀ x okv tab, (x, okv, tab) ∈ M.cts → CatchOk C X.mg X.base x okv tab
theorem XOk.units {C : Gc} {M : Md} {F : Fr} {cf : Cf} {k : Nat} {W : XW} {X : Cx} (o : XOk C M F cf k W X) : X.A.units + 65 < cLine := by
  have := o.room.un; omega

/-! ### names -/
def visB (sc : Scope) (x : Str) : Bool := match sc.names.lookup x with
  | some .local => true | some .cell => true | some .free => true | _ => false
def glB (sc : Scope) (x : Str) : Bool := match sc.names.lookup x with
  | some .globalImplicit => true | _ => false
def nmB (x : Str) : Bool := !(x == ("__debug__" : Str)) && !(x == ("__classdict__" : Str)) && !(x == ("__name__" : Str))
theorem visB_of {sc : Scope} {x : Str} (h : visB sc x = true) : Vis sc x := by
  unfold visB at h
  split at h <;> first | exact .inl (by assumption) | exact .inr (.inl (by assumption)) | exact .inr (.inr (by assumption)) | cases h
theorem glB_of {X : Cx} {F : Fr} {x : Str} (e : X.env.scope = F.sc) (h : glB F.sc x = true) : Gl X x := by
  unfold glB at h
  show X.env.scope.names.lookup x = some .globalImplicit
  rw [e]
  split at h
  · assumption
  · cases h
theorem nmB_of {x : Str} (h : nmB x = true) : (x == ("__debug__" : Str)) = false ∧ (x == ("__classdict__" : Str)) = false ∧ x ≠ ("__name__" : Str) := by
  unfold nmB at h
  simp only [Bool.and_eq_true, Bool.not_eq_true'] at h
  exact ⟨h.1.1, h.1.2, fun z => by rw [z] at h; simp at h⟩
def asName : Expr → Option Str
  | .Name x _ => some x
  | _ => none
theorem asName_of {e : Expr} {x : Str} (h : asName e = some x) : ∃ p, e = .Name x p := by
  cases e <;> first | (cases h; exact ⟨_, rfl⟩) | cases h
/-- a call of a name -/
def asCall : Expr → Option (Str × List Expr)
  | .Call (.Name x _) es [] _ => some (x, es)
  | _ => none
theorem asCall_of {e : Expr} {x : Str} {es : List Expr} (h : asCall e = some (x, es)) : ∃ p pos, e = .Call (.Name x p) es [] pos := by
  unfold asCall at h
  split at h
  · cases h; exact ⟨_, _, rfl⟩
  · cases h
/-- a method's call -/
def asMeth : Expr → Option (Expr × Str × List Expr)
  | .Call (.Attribute o m _) es [] _ => some (o, m, es)
  | _ => none
theorem asMeth_of {e o : Expr} {m : Str} {es : List Expr} (h : asMeth e = some (o, m, es)) : ∃ p pos, e = .Call (.Attribute o m p) es [] pos := by
  unfold asMeth at h
  split at h
  · cases h; exact ⟨_, _, rfl⟩
  · cases h
def asBin : Expr → Option (Expr × Operator × Expr)
  | .BinOp a o b _ => some (a, o, b)
  | _ => none
theorem asBin_of {e a b : Expr} {o : Operator} (h : asBin e = some (a, o, b)) : ∃ pos, e = .BinOp a o b pos := by
  cases e <;> first | (cases h; exact ⟨_, rfl⟩) | cases h
def asSub : Expr → Option (Expr × Expr)
  | .Subscript a b _ => some (a, b)
  | _ => none
theorem asSub_of {e a b : Expr} (h : asSub e = some (a, b)) : ∃ pos, e = .Subscript a b pos := by
  cases e <;> first | (cases h; exact ⟨_, rfl⟩) | cases h
def asSlice : Expr → Option (Option Expr × Option Expr)
  | .Slice lo hi none _ => some (lo, hi)
  | _ => none
theorem asSlice_of {e : Expr} {a b : Option Expr} (h : asSlice e = some (a, b)) : ∃ pos, e = .Slice a b none pos := by
  unfold asSlice at h
  split at h
  · cases h; exact ⟨_, rfl⟩
  · cases h
def asTup : Expr → Option (List Expr)
  | .Tuple es _ _ => some es
  | _ => none
theorem asTup_of {e : Expr} {es : List Expr} (h : asTup e = some es) : ∃ k pos, e = .Tuple es k pos := by
  cases e <;> first | (cases h; exact ⟨_, _, rfl⟩) | cases h
def asLst : Expr → Option (List Expr)
  | .List es _ => some es
  | _ => none
theorem asLst_of {e : Expr} {es : List Expr} (h : asLst e = some es) : ∃ pos, e = .List es pos := by
  cases e <;> first | (cases h; exact ⟨_, rfl⟩) | cases h
def asCmp1 : Expr → Option (Expr × CmpOp × Expr)
  | .Compare a [o] [b] _ => some (a, o, b)
  | _ => none
theorem asCmp1_of {e a b : Expr} {o : CmpOp} (h : asCmp1 e = some (a, o, b)) : ∃ pos, e = .Compare a [o] [b] pos := by
  unfold asCmp1 at h
  split at h
  · cases h; exact ⟨_, rfl⟩
  · cases h
def asCmp2 : Expr → Option (Expr × CmpOp × Expr × CmpOp × Expr)
  | .Compare a [o, o'] [b, d] _ => some (a, o, b, o', d)
  | _ => none
theorem asCmp2_of {e a b d : Expr} {o o' : CmpOp} (h : asCmp2 e = some (a, o, b, o', d)) : ∃ pos, e = .Compare a [o, o'] [b, d] pos := by
  unfold asCmp2 at h
  split at h
  · cases h; exact ⟨_, rfl⟩
  · cases h
def asNot : Expr → Option Expr
  | .UnaryOp .Not a _ => some a
  | _ => none
theorem asNot_of {e a : Expr} (h : asNot e = some a) : ∃ pos, e = .UnaryOp .Not a pos := by
  unfold asNot at h
  split at h
  · cases h; exact ⟨_, rfl⟩
  · cases h
def asNeg : Expr → Option Expr
  | .UnaryOp .USub a _ => some a
  | _ => none
theorem asNeg_of {e a : Expr} (h : asNeg e = some a) : ∃ pos, e = .UnaryOp .USub a pos := by
  unfold asNeg at h
  split at h
  · cases h; exact ⟨_, rfl⟩
  · cases h
def asBool : Expr → Option (BoolOp × Expr × List Expr × Pos)
  | .BoolOp o (a :: es) p => some (o, a, es, p)
  | _ => none
theorem asBool_of {e a : Expr} {o : BoolOp} {es : List Expr} {p : Pos} (h : asBool e = some (o, a, es, p)) : e = .BoolOp o (a :: es) p := by
  unfold asBool at h
  split at h
  · cases h; rfl
  · cases h
def asIf : Expr → Option (Expr × Expr × Expr)
  | .IfExp c a b _ => some (c, a, b)
  | _ => none
theorem asIf_of {e a b c : Expr} (h : asIf e = some (c, a, b)) : ∃ pos, e = .IfExp c a b pos := by
  cases e <;> first | (cases h; exact ⟨_, rfl⟩) | cases h
/-- a written constant -/
def constB : P → Expr → Bool
  | .non, .Constant .none _ _ => true
  | .bl b, .Constant (.bool c) _ _ => b == c
  | .int i, .Constant (.int j) _ _ => decide (i = j)
  | .str x, .Constant (.str y) _ _ => decide (x = y)
  | _, _ => false

section
variable {C : Gc} {M : Md} {F : Fr} {cf : Cf} {k : Nat} {W : XW} {X : Cx}
/-! ### the rules -/
theorem g_var (o : XOk C M F cf k W X) {i : Nat} {x : Str} {p : Pos} (hi : F.N[i]? = some x) (hv : visB F.sc x = true) (hn : nmB x = true) : PE X (.Name x p) (rdE C W (evE cf (.var i))) := by
  obtain ⟨n1, n2, _⟩ := nmB_of hn
  refine weak (pe_var (by rw [o.N]; exact hi) (by rw [o.sc]; exact visB_of hv) n1 n2) fun σ H Q ⟨μ, st, r, w, hr, h⟩ => ?_
  rw [evE] at h
  split at h
  · rename_i d e
    obtain ⟨v, q1, q2⟩ := hr.at_ i d e
    exact ⟨v, q1, post.here h w v q2⟩
  · exact h.elim
theorem g_lit {x : P} {e : Expr} (h : constB x e = true) : PE X e (rdE C W (evE cf (.lit x))) := by
  have go : ∀ {v : V}, (∀ H, RP C H x v) → PE X e (tC v) → PE X e (rdE C W (evE cf (.lit x))) := fun {v} rp hp => weak hp fun σ H Q ⟨μ, st, r, w, hr, h⟩ => by
    rw [evE] at h
    exact post.here h w v (rp H)
  unfold constB at h
  split at h
  · exact go (v := .non) (fun H => RP.non_iff.mpr rfl) pe_non
  · obtain rfl := eq_of_beq h
    exact go (v := .bl _) (fun H => RP.bl_iff.mpr rfl) pe_bl
  · obtain rfl := of_decide_eq_true h
    exact go (v := .int _) (fun H => RP.int_iff.mpr rfl) pe_int
  · obtain rfl := of_decide_eq_true h
    exact go (v := .str _) (fun H => RP.str_iff.mpr rfl) pe_str
  · cases h
theorem g_gc (o : XOk C M F cf k W X) {y : P} {x : Str} {p : Pos} (hl : M.gcs.lookup x = some y) (hg : glB F.sc x = true) (hn : nmB x = true) : PE X (.Name x p) (rdE C W (evE cf (.gc y x))) := by
  obtain ⟨n1, n2, _⟩ := nmB_of hn
  obtain ⟨u, v, m, rv, rp⟩ := o.gcs x y hl
  refine weak (pe_glob (glB_of o.sc hg) m rv n1) fun σ H Q ⟨μ, st, r, w, hr, h⟩ => ?_
  rw [evE] at h
  exact post.here h w v (rp H)
theorem g_glo (o : XOk C M F cf k W X) {g : Nat} {x : Str} {p : Pos} (hl : M.fns.lookup x = some g) (hg : glB F.sc x = true) (hn : nmB x = true) : PE X (.Name x p) (rdE C W (evE cf (.glo g))) := by
  obtain ⟨n1, n2, _⟩ := nmB_of hn
  obtain ⟨f, e, m⟩ := o.fns x g hl
  refine weak (pe_glob (v := .ref f) (glB_of o.sc hg) m rfl n1) fun σ H Q ⟨μ, st, r, w, hr, h⟩ => ?_
  rw [evE] at h
  exact post.here h w (.ref f) (show RP C H (.glo g) (.ref f) from RP.glo_iff.mpr ⟨f, e, rfl⟩)
theorem g_nil : PA X [] (rdA C W (evEs cf .nil)) := weakA pa_nil fun σ H Q ⟨μ, st, r, w, hr, h⟩ => by
  rw [evEs] at h
  exact post.here h w [] .nil
theorem g_cons {a : E} {as : Es} {e : Expr} {es : List Expr} (hs : notStar e = true) (h1 : PE X e (rdE C W (evE cf a))) (h2 : PA X es (rdA C W (evEs cf as))) : PA X (e :: es) (rdA C W (evEs cf (.cons a as))) := by
  refine weakA (pa_cons h1 h2 (star_cons hs)) fun σ H Q ⟨μ, st, r, w, hr, h⟩ => ?_
  rw [evEs] at h
  refine step w hr h fun d st1 μ1 H1 n1 w1 hr1 h1 v rv => ?_
  refine step w1 hr1 h1 fun ds st2 μ2 H2 n2 w2 hr2 h2 vs rvs => ?_
  exact post.here h2 w2 (v :: vs) (.cons (rv.nx n2) rvs)
theorem perss_rp {H : Hp} {μ : List Addr} : ∀ {ds : List D} {vs : List V} {xs : List P}, RDs C H μ ds vs → perss ds = some xs → RPs C H xs vs
  | [], vs, xs, r, e => by cases e; cases r; exact .nil
  | d :: ds, vs, xs, r, e => by
    cases r with
    | cons r1 r2 =>
      cases d with
      | p x =>
        rw [perss] at e
        cases q : perss ds with
        | none => rw [q] at e; cases e
        | some ys => rw [q] at e; cases e; exact .cons r1 (perss_rp r2 q)
      | obj n => cases e
/-- the tuple's length is small: it is written -/
def Es.len : Es → Nat
  | .nil => 0
  | .cons _ es => es.len + 1
theorem evEs_len : ∀ {es : Es} {r : En} {s s' : St} {ds : List D}, evEs cf es r s = .ok ds s' → ds.length = es.len
  | .nil, r, s, s', ds, h => by rw [evEs] at h; cases h; rfl
  | .cons e es, r, s, s', ds, h => by
    rw [evEs] at h
    obtain ⟨d, s1, h1, h2⟩ := bind_ok h
    obtain ⟨ds', s2, h3, h4⟩ := bind_ok h2
    cases h4
    rw [List.length_cons, evEs_len h3]; rfl
theorem g_tup {as : Es} {es : List Expr} {x1 : Nat} {pos : Pos} (hl : es.length ≤ 1000) (hl2 : as.len = es.length) (h1 : PA X es (rdA C W (evEs cf as))) : PE X (.Tuple es x1 pos) (rdE C W (evE cf (.tup as))) := by
  refine weak (pe_tup h1) fun σ H Q ⟨μ, st, r, w, hr, h⟩ => ?_
  rw [evE] at h
  refine ⟨μ, st, r, w, hr, ?_⟩
  cases e : evEs cf as r st with
  | bad => rw [e] at h; exact h
  | exc c fs st1 => rw [e] at h; exact h
  | ok ds st1 =>
    rw [e] at h
    intro μ1 H1 n1 w1 vs rvs
    have h : post C W σ μ H (match perss ds with | some xs => R.ok (D.p (.tup xs)) st1 | none => .bad) (okD C Q) := h
    split at h
    · rename_i xs q
      have hz := sizeLine_eq
      have l := evEs_len e
      have l2 := Paired.length rvs
      refine ⟨by omega, fun p hp => ?_⟩
      exact h μ1 _ (n1.trans (Nx.fresh hp)) (w1.fresh hp) _ (tupOf hp (perss_rp rvs q))
    · exact h.elim
/-- a one-place operation, by its call -/
theorem un_post {u : U} {σ : L2.St} {H : Hp} {Q : VK} {μ : List Addr} {st : St} {d : D} {v : V} (w : Wd C H μ st) (rv : RD C H μ d v) (h : post C W σ μ H (match view st d with
    | some x => (match evU u x with | some y => R.ok (D.p y) st | none => .bad)
    | none => .bad) (okD C Q)) : Ev.rU C (evU u) [v] H Q := by
  split at h
  · rename_i x e
    split at h
    · rename_i y e2
      exact ⟨v, x, y, rfl, view_ok w rv e, e2, fun H' v' g r' => h μ H' (Nx.same g) (w.same g) v' r'⟩
    · exact h.elim
  · exact h.elim
theorem bin_post {u : B} {σ : L2.St} {H : Hp} {Q : VK} {μ : List Addr} {st : St} {d d' : D} {v v' : V} (w : Wd C H μ st) (rv : RD C H μ d v) (rv' : RD C H μ d' v') (h : post C W σ μ H (match view st d, view st d' with
    | some x, some y => (match evB u x y with | some z => R.ok (D.p z) st | none => .bad)
    | _, _ => .bad) (okD C Q)) : Ev.rB C (evB u) v v' H Q := by
  split at h
  · rename_i x y e e'
    split at h
    · rename_i z e2
      exact ⟨x, y, z, view_ok w rv e, view_ok w rv' e', e2, fun H' v' g r' => h μ H' (Nx.same g) (w.same g) v' r'⟩
    · exact h.elim
  · exact h.elim
theorem g_un {u : U} {a : E} {e : Expr} {x : Str} {id : String} {p pos : Pos} (o : XOk C M F cf k W X) (hs : notStar e = true) (hx : x ∈ bltNames) (hn : nmB x = true) (hg : glB F.sc x = true) (hv : bootBuiltins x = some (.builtin id)) (hc : CallR X (.builtin id) (Ev.rU C (evU u))) (h1 : PE X e (rdE C W (evE cf a))) : PE X (.Call (.Name x p) [e] [] pos) (rdE C W (evE cf (.un u a))) := by
  obtain ⟨n1, n2, n3⟩ := nmB_of hn
  refine weak (pe_callB hc (glB_of o.sc hg) (o.blt x hx) hv (pa_cons h1 pa_nil (star_cons hs)) n3 n1 (star_cons hs) rfl) fun σ H Q ⟨μ, st, r, w, hr, h⟩ => ?_
  rw [evE] at h
  exact step w hr h fun d st1 μ1 H1 n1 w1 hr1 h1 v rv => un_post w1 rv h1
theorem g_unTy {u : U} {a : E} {e : Expr} {x : Str} {id : String} {p pos : Pos} (o : XOk C M F cf k W X) (hs : notStar e = true) (hx : x ∈ bltNames) (hn : nmB x = true) (hg : glB F.sc x = true) (hv : bootBuiltins x = some (.type id)) (hc : CallR X (.type id) (Ev.rU C (evU u))) (h1 : PE X e (rdE C W (evE cf a))) : PE X (.Call (.Name x p) [e] [] pos) (rdE C W (evE cf (.un u a))) := by
  obtain ⟨n1, n2, n3⟩ := nmB_of hn
  refine weak (pe_callTy hc (glB_of o.sc hg) (o.blt x hx) hv (pa_cons h1 pa_nil (star_cons hs)) n3 n1 (star_cons hs) rfl) fun σ H Q ⟨μ, st, r, w, hr, h⟩ => ?_
  rw [evE] at h
  exact step w hr h fun d st1 μ1 H1 n1 w1 hr1 h1 v rv => un_post w1 rv h1
theorem g_isi {u : U} {t : String} {a : E} {e : Expr} {x y : Str} {p p2 pos : Pos} (o : XOk C M F cf k W X) (hs : notStar e = true) (hx : x = "isinstance") (hg : glB F.sc x = true) (hy : y ∈ bltNames) (hny : nmB y = true) (hgy : glB F.sc y = true) (hty : bootBuiltins y = some (.type t))
    (hu : ∀ q z, evU u q = some z → ∃ b, isiOf t q = some b ∧ z = .bl b) (h1 : PE X e (rdE C W (evE cf a))) : PE X (.Call (.Name x p) [e, .Name y p2] [] pos) (rdE C W (evE cf (.un u a))) := by
  subst hx
  obtain ⟨n1, n2, n3⟩ := nmB_of hny
  refine weak (pe_callB (u_isi o.K t) (glB_of o.sc hg) (o.blt _ (by decide +kernel)) (by decide +kernel) (pa_cons h1 (pa_cons (pe_bltn (v := .ty t) (glB_of o.sc hgy) (o.blt y hy) hty rfl n3 n1) pa_nil) (star_cons hs)) (by decide +kernel) (by decide +kernel) (star_cons hs) rfl) fun σ H Q ⟨μ, st, r, w, hr, h⟩ => ?_
  rw [evE] at h
  refine step w hr h fun d st1 μ1 H1 n1 w1 hr1 h1 v rv => ?_
  obtain ⟨v', q, z, e1, vp, ez, hq⟩ := un_post w1 rv h1
  obtain ⟨rfl, _⟩ := List.cons.inj e1
  obtain ⟨b, eb, rfl⟩ := hu q z ez
  exact ⟨v, q, b, rfl, vp, eb, hq H1 _ (Same.refl H1) (RP.bl_iff.mpr rfl)⟩
theorem g_neg {a : E} {e : Expr} {pos : Pos} (h1 : PE X e (rdE C W (evE cf a))) : PE X (.UnaryOp .USub e pos) (rdE C W (evE cf (.un .neg a))) := by
  refine weak (pe_un (u_neg (C := C)) h1) fun σ H Q ⟨μ, st, r, w, hr, h⟩ => ?_
  rw [evE] at h
  exact step w hr h fun d st1 μ1 H1 n1 w1 hr1 h1 v rv => un_post w1 rv h1
theorem g_bin {u : B} {a b : E} {e e' : Expr} {op : Operator} {pos : Pos} (ho : OpR X (binaryOp op) (Ev.rB C (evB u))) (h1 : PE X e (rdE C W (evE cf a))) (h2 : PE X e' (rdE C W (evE cf b))) : PE X (.BinOp e op e' pos) (rdE C W (evE cf (.bin u a b))) := by
  refine weak (pe_op ho h1 h2) fun σ H Q ⟨μ, st, r, w, hr, h⟩ => ?_
  rw [evE] at h
  refine step w hr h fun d st1 μ1 H1 n1 w1 hr1 h1 v rv => ?_
  refine step w1 hr1 h1 fun d' st2 μ2 H2 n2 w2 hr2 h2 v' rv' => ?_
  exact bin_post w2 (rv.nx n2) rv' h2
theorem g_idx {a b : E} {e e' : Expr} {pos : Pos} (o : XOk C M F cf k W X) (hs : notSlice e' = true) (h1 : PE X e (rdE C W (evE cf a))) (h2 : PE X e' (rdE C W (evE cf b))) : PE X (.Subscript e e' pos) (rdE C W (evE cf (.bin .idx a b))) := by
  refine weak (pe_ix (b_idx o.prog o.w o.K o.units) h1 h2 (plain_ix hs)) fun σ H Q ⟨μ, st, r, w, hr, h⟩ => ?_
  rw [evE] at h
  refine step w hr h fun d st1 μ1 H1 n1 w1 hr1 h1 v rv => ?_
  refine step w1 hr1 h1 fun d' st2 μ2 H2 n2 w2 hr2 h2 v' rv' => ?_
  exact bin_post w2 (rv.nx n2) rv' h2
theorem g_min2 {u : B} {a b : E} {e e' : Expr} {x : Str} {id : String} {p pos : Pos} (o : XOk C M F cf k W X) (hs : notStar e = true) (hs' : notStar e' = true) (hx : x ∈ bltNames) (hn : nmB x = true) (hg : glB F.sc x = true) (hv : bootBuiltins x = some (.builtin id))
    (hc : CallR X (.builtin id) (fun vs H Q => ∃ v w, vs = [v, w] ∧ rB C (evB u) v w H Q)) (h1 : PE X e (rdE C W (evE cf a))) (h2 : PE X e' (rdE C W (evE cf b))) : PE X (.Call (.Name x p) [e, e'] [] pos) (rdE C W (evE cf (.bin u a b))) := by
  obtain ⟨n1, n2, n3⟩ := nmB_of hn
  refine weak (pe_callB hc (glB_of o.sc hg) (o.blt x hx) hv (pa_cons h1 (pa_cons h2 pa_nil (star_cons hs')) (star_cons hs)) n3 n1 (star_cons hs) (star_any (by simp [hs']))) fun σ H Q ⟨μ, st, r, w, hr, h⟩ => ?_
  rw [evE] at h
  refine step w hr h fun d st1 μ1 H1 n1 w1 hr1 h1 v rv => ?_
  refine step w1 hr1 h1 fun d' st2 μ2 H2 n2 w2 hr2 h2 v' rv' => ?_
  exact ⟨v, v', rfl, bin_post w2 (rv.nx n2) rv' h2⟩
/-! ### tests -/
theorem cmp_post {u : Ev.C} {σ : L2.St} {H : Hp} {Q : Bool → Hp → Prop} {μ : List Addr} {st : St} {d d' : D} {v v' : V} (w : Wd C H μ st) (rv : RD C H μ d v) (rv' : RD C H μ d' v') (h : post C W σ μ H (match view st d, view st d' with
    | some x, some y => (match evC u x y with | some z => R.ok z st | none => .bad)
    | _, _ => .bad) (okT Q)) : ∃ x y z, VP C H x v ∧ VP C H y v' ∧ evC u x y = some z ∧ Q z H := by
  split at h
  · rename_i x y e e'
    split at h
    · rename_i z e2
      exact ⟨x, y, z, view_ok w rv e, view_ok w rv' e', e2, post.here h w⟩
    · exact h.elim
  · exact h.elim
end
end Ev

set_option Elab.async false
set_option linter.all false
set_option maxRecDepth 100000
set_option maxHeartbeats 1000000
namespace Ev
open PySem PySem.Spec PyProof.Rows L2

theorem hereT {C : Gc} {W : XW} {σ : L2.St} {μ : List Addr} {H : Hp} {b : Bool} {st : St} {Q : Bool → Hp → Prop} (h : post C W σ μ H (.ok b st) (okT Q)) (w : Wd C H μ st) : Q b H := post.here h w
theorem hereD {C : Gc} {W : XW} {σ : L2.St} {μ : List Addr} {H : Hp} {d : D} {st : St} {Q : VK} (h : post C W σ μ H (.ok d st) (okD C Q)) (w : Wd C H μ st) {v : V} (r : RD C H μ d v) : Q v H := post.here h w v r
theorem ite_t {α : Sort _} {a b : α} : (if true = true then a else b) = a := if_pos rfl
theorem ite_f {α : Sort _} {a b : α} : (if false = true then a else b) = b := if_neg Bool.false_ne_true
section
variable {C : Gc} {M : Md} {F : Fr} {cf : Cf} {k : Nat} {W : XW} {X : Cx}
/-- which operator a comparison is -/
def cOk : Ev.C → CmpOp → Bool
  | .eq, .Eq => true | .ne, .NotEq => true | .lt, .Lt => true | .le, .LtE => true | .gt, .Gt => true | .ge, .GtE => true
  | .isin, .In => true | .notin, .NotIn => true | .isNone, .Is => true | .notNone, .IsNot => true
  | .isTrue, .Is => true | .isFalse, .Is => true | .notTrue, .IsNot => true | .notFalse, .IsNot => true
  | _, _ => false
theorem c_all (o : XOk C M F cf k W X) {c : Ev.C} {op : CmpOp} (h : cOk c op = true) : OpR X (compareOp op) (rC C (evC c)) := by
  cases c with
  | eq =>
    obtain rfl : op = .Eq := by cases op <;> first | rfl | exact absurd h (by decide)
    exact c_eq o.K o.units
  | ne =>
    obtain rfl : op = .NotEq := by cases op <;> first | rfl | exact absurd h (by decide)
    exact c_ne o.K o.units
  | lt =>
    obtain rfl : op = .Lt := by cases op <;> first | rfl | exact absurd h (by decide)
    exact c_lt o.K o.units
  | le =>
    obtain rfl : op = .LtE := by cases op <;> first | rfl | exact absurd h (by decide)
    exact c_le
  | gt =>
    obtain rfl : op = .Gt := by cases op <;> first | rfl | exact absurd h (by decide)
    exact c_gt
  | ge =>
    obtain rfl : op = .GtE := by cases op <;> first | rfl | exact absurd h (by decide)
    exact c_ge
  | isin =>
    obtain rfl : op = .In := by cases op <;> first | rfl | exact absurd h (by decide)
    exact c_in o.prog o.w o.K o.units
  | notin =>
    obtain rfl : op = .NotIn := by cases op <;> first | rfl | exact absurd h (by decide)
    exact c_notin o.prog o.w o.K o.units
  | isNone =>
    obtain rfl : op = .Is := by cases op <;> first | rfl | exact absurd h (by decide)
    exact c_isNone
  | notNone =>
    obtain rfl : op = .IsNot := by cases op <;> first | rfl | exact absurd h (by decide)
    exact c_notNone
  | isTrue =>
    obtain rfl : op = .Is := by cases op <;> first | rfl | exact absurd h (by decide)
    exact c_isTrue
  | isFalse =>
    obtain rfl : op = .Is := by cases op <;> first | rfl | exact absurd h (by decide)
    exact c_isFalse
  | notTrue =>
    obtain rfl : op = .IsNot := by cases op <;> first | rfl | exact absurd h (by decide)
    exact c_notTrue
  | notFalse =>
    obtain rfl : op = .IsNot := by cases op <;> first | rfl | exact absurd h (by decide)
    exact c_notFalse
/-- a test: as a test, as a value -/
def Both (C : Gc) (W : XW) (X : Cx) (e : Expr) (ev : En → St → R Bool) : Prop := PT X e (rdT C W ev) ∧ PE X e (rdTE C W ev)
theorem cmp_rd {c : Ev.C} {a b : E} {σ : L2.St} {H : Hp} {Q : Bool → Hp → Prop} {Q2 : VK} (hQ : ∀ z H, Q z H → Q2 (.bl z) H) (h : rdG C W (evT cf (.cmp c a b)) (okT Q) σ H) : tOp (rC C (evC c)) (rdE C W (evE cf a)) (rdE C W (evE cf b)) σ H Q2 := by
  obtain ⟨μ, st, r, w, hr, h⟩ := h
  rw [evT] at h
  refine step w hr h fun d st1 μ1 H1 n1 w1 hr1 h1 v rv => ?_
  refine step w1 hr1 h1 fun d' st2 μ2 H2 n2 w2 hr2 h2 v' rv' => ?_
  obtain ⟨x, y, z, v1, v2, ez, q⟩ := cmp_post w2 (rv.nx n2) rv' h2
  exact ⟨x, y, z, v1, v2, ez, hQ z H2 q⟩
theorem g_cmp (o : XOk C M F cf k W X) {c : Ev.C} {op : CmpOp} {a b : E} {e e' : Expr} {pos : Pos} (hc : cOk c op = true) (hs : notSet e' = true) (h1 : PE X e (rdE C W (evE cf a))) (h2 : PE X e' (rdE C W (evE cf b))) : Both C W X (.Compare e [op] [e'] pos) (evT cf (.cmp c a b)) :=
  ⟨weakT (pt_cmpR (c_all o hc) h1 h2 (behind_set hs)) fun σ H Q h => cmp_rd (Q := Q) (fun z H q => ⟨z, rfl, q⟩) h,
   weak (pe_cmpR (c_all o hc) h1 h2 (behind_set hs)) fun σ H Q h => cmp_rd (Q := fun b H => Q (.bl b) H) (fun z H q => q) h⟩
theorem chain_rd {c c' : Ev.C} {a b d : E} {σ : L2.St} {H : Hp} {Q : Bool → Hp → Prop} {Q2 : VK} (hQ : ∀ z H, Q z H → Q2 (.bl z) H) (h : rdG C W (evT cf (.chain c c' a b d)) (okT Q) σ H) : tChain (rC C (evC c)) (rC C (evC c')) (rdE C W (evE cf a)) (rdE C W (evE cf b)) (rdE C W (evE cf d)) σ H Q2 := by
  obtain ⟨μ, st, r, w, hr, h⟩ := h
  rw [evT] at h
  refine step w hr h fun d1 st1 μ1 H1 n1 w1 hr1 h1 v rv => ?_
  refine step w1 hr1 h1 fun d2 st2 μ2 H2 n2 w2 hr2 h2 v' rv' => ?_
  split at h2
  · rename_i x y
    have rx : RP C H2 x v := rv.nx n2
    have ry : RP C H2 y v' := rv'
    refine ⟨x, y, ?_⟩
    split at h2
    · rename_i e
      refine ⟨true, .of rx, .of ry, e, true, rfl, ?_⟩
      rw [if_pos rfl]
      refine step w2 hr2 h2 fun d3 st3 μ3 H3 n3 w3 hr3 h3 v3 rv3 => ?_
      split at h3
      · rename_i z
        split at h3
        · rename_i q e2
          exact ⟨y, z, q, .of (RP.keep n3.keep _ _ ry), .of rv3, e2, hQ q H3 (hereT h3 w3)⟩
        · exact h3.elim
      · exact h3.elim
    · rename_i e
      refine ⟨false, .of rx, .of ry, e, false, rfl, ?_⟩
      rw [if_neg Bool.false_ne_true]
      exact hQ false H2 (hereT h2 w2)
    · exact h2.elim
  · exact h2.elim
theorem g_chain (o : XOk C M F cf k W X) {c c' : Ev.C} {op op' : CmpOp} {a b d : E} {e e' e'' : Expr} {pos : Pos} (hc : cOk c op = true) (hc' : cOk c' op' = true) (hs : notSet e'' = true) (h1 : PE X e (rdE C W (evE cf a))) (h2 : PE X e' (rdE C W (evE cf b))) (h3 : PE X e'' (rdE C W (evE cf d))) :
    Both C W X (.Compare e [op, op'] [e', e''] pos) (evT cf (.chain c c' a b d)) :=
  ⟨weakT (pt_chain (c_all o hc) (c_all o hc') h1 h2 h3 (last_set hs)) fun σ H Q h => chain_rd (Q := Q) (fun z H q => ⟨z, rfl, q⟩) h,
   weak (pe_chain (c_all o hc) (c_all o hc') h1 h2 h3 (last_set hs)) fun σ H Q h => chain_rd (Q := fun b H => Q (.bl b) H) (fun z H q => q) h⟩
theorem g_not {t : T} {e : Expr} {pos : Pos} (h1 : Both C W X e (evT cf t)) : Both C W X (.UnaryOp .Not e pos) (evT cf (.not t)) := by
  refine ⟨weakT (pt_not h1.1) fun σ H Q ⟨μ, st, r, w, hr, h⟩ => ?_, weak (pe_not h1.2) fun σ H Q ⟨μ, st, r, w, hr, h⟩ => ?_⟩
  · rw [evT] at h
    exact step w hr h fun c st1 μ1 H1 n1 w1 hr1 h1 => hereT h1 w1
  · rw [evT] at h
    exact step w hr h fun c st1 μ1 H1 n1 w1 hr1 h1 => ⟨c, rfl, hereT (Q := fun b H => Q (.bl b) H) h1 w1⟩
theorem pw_of {op : BoolOp} {es : List Expr} {pos : Pos} {t : TT} (h : PT X (.BoolOp op es pos) t) : PW X (.BoolOp op es pos) t := ⟨fun _ pins s σ H Q I q => h.run pins s σ H Q I q⟩
theorem g_and {t u : T} {e y : Expr} {es : List Expr} {pos : Pos} (h1 : Both C W X e (evT cf t)) (h2 : Both C W X (.BoolOp .And (y :: es) pos) (evT cf u)) : Both C W X (.BoolOp .And (e :: y :: es) pos) (evT cf (.and t u)) := by
  refine ⟨weakT (pw_and h1.1 (pw_of h2.1)).pt fun σ H Q ⟨μ, st, r, w, hr, h⟩ => ?_, weak (pe_and h1.2 h2.2) fun σ H Q ⟨μ, st, r, w, hr, h⟩ => ?_⟩
  · rw [evT] at h
    refine step w hr h fun c st1 μ1 H1 n1 w1 hr1 h1 => ?_
    cases c with
    | true => simp only [okT, ite_t] at h1 ⊢; exact ⟨μ1, st1, r, w1, hr1, h1⟩
    | false => simp only [okT, ite_f] at h1 ⊢; exact post.here h1 w1
  · rw [evT] at h
    refine step w hr h fun c st1 μ1 H1 n1 w1 hr1 h1 => ⟨c, rfl, ?_⟩
    cases c with
    | true => simp only [okT, ite_t] at h1 ⊢; exact ⟨μ1, st1, r, w1, hr1, h1⟩
    | false => simp only [okT, ite_f] at h1 ⊢; exact post.here h1 w1
theorem g_or {t u : T} {e y : Expr} {es : List Expr} {pos : Pos} (h1 : Both C W X e (evT cf t)) (h2 : Both C W X (.BoolOp .Or (y :: es) pos) (evT cf u)) : Both C W X (.BoolOp .Or (e :: y :: es) pos) (evT cf (.or t u)) := by
  refine ⟨weakT (pw_or h1.1 (pw_of h2.1)).pt fun σ H Q ⟨μ, st, r, w, hr, h⟩ => ?_, weak (pe_or h1.2 h2.2) fun σ H Q ⟨μ, st, r, w, hr, h⟩ => ?_⟩
  · rw [evT] at h
    refine step w hr h fun c st1 μ1 H1 n1 w1 hr1 h1 => ?_
    cases c with
    | false => simp only [okT, ite_f] at h1 ⊢; exact ⟨μ1, st1, r, w1, hr1, h1⟩
    | true => simp only [okT, ite_t] at h1 ⊢; exact post.here h1 w1
  · rw [evT] at h
    refine step w hr h fun c st1 μ1 H1 n1 w1 hr1 h1 => ⟨c, rfl, ?_⟩
    cases c with
    | false => simp only [okT, ite_f] at h1 ⊢; exact ⟨μ1, st1, r, w1, hr1, h1⟩
    | true => simp only [okT, ite_t] at h1 ⊢; exact post.here h1 w1
theorem g_one {t : T} {op : BoolOp} {e : Expr} {pos : Pos} (h1 : Both C W X e (evT cf t)) : Both C W X (.BoolOp op [e] pos) (evT cf t) := by
  refine ⟨?_, pe_one h1.2⟩
  cases op with
  | And => exact (pw_and1 h1.1).pt
  | Or => exact (pw_or1 h1.1).pt
theorem tru_rd {a : E} {σ : L2.St} {H : Hp} {Q : Bool → Hp → Prop} (h : rdG C W (evT cf (.tru a)) (okT Q) σ H) : rdE C W (evE cf a) σ H fun x H1 => ∃ c, x = .bl c ∧ Q c H1 := by
  obtain ⟨μ, st, r, w, hr, h⟩ := h
  rw [evT] at h
  refine step w hr h fun d st1 μ1 H1 n1 w1 hr1 h1 v rv => ?_
  split at h1
  · rename_i b
    exact ⟨b, RP.bl_iff.mp (show RP C H1 (.bl b) v from rv), hereT h1 w1⟩
  · exact h1.elim
theorem g_tru {a : E} {e : Expr} (hp : plainT e = true) (h1 : PE X e (rdE C W (evE cf a))) : Both C W X e (evT cf (.tru a)) := by
  refine ⟨weakT (pt_val h1 (tru_plain hp)) fun σ H Q h => tru_rd h, weak h1 fun σ H Q h => ?_⟩
  obtain ⟨μ, st, r, w, hr, q⟩ := tru_rd (Q := fun b H => Q (.bl b) H) h
  refine ⟨μ, st, r, w, hr, q.imp fun d st' μ' H' _ _ g v rv => ?_⟩
  obtain ⟨c, rfl, gq⟩ := g v rv
  exact gq
theorem g_tv {t : T} {e : Expr} (h1 : Both C W X e (evT cf t)) : PE X e (rdE C W (evE cf (.tv t))) := weak h1.2 fun σ H Q ⟨μ, st, r, w, hr, h⟩ => by
  rw [evE] at h
  exact step w hr h fun c st1 μ1 H1 n1 w1 hr1 h1 => hereD h1 w1 (show RP C H1 (.bl c) (.bl c) from RP.bl_iff.mpr rfl)
theorem g_ife {t : T} {a b : E} {c e e' : Expr} {pos : Pos} (h1 : Both C W X c (evT cf t)) (h2 : PE X e (rdE C W (evE cf a))) (h3 : PE X e' (rdE C W (evE cf b))) : PE X (.IfExp c e e' pos) (rdE C W (evE cf (.ife t a b))) := weak (pe_ifExp h1.1 h2 h3) fun σ H Q ⟨μ, st, r, w, hr, h⟩ => by
  rw [evE] at h
  refine step w hr h fun c st1 μ1 H1 n1 w1 hr1 h1 => ?_
  cases c with
  | true => simp only [okT, ite_t] at h1 ⊢; exact ⟨μ1, st1, r, w1, hr1, h1⟩
  | false => simp only [okT, ite_f] at h1 ⊢; exact ⟨μ1, st1, r, w1, hr1, h1⟩
/-! ### slices -/
def rdO (C : Gc) (W : XW) (ev : En → St → R (Option Int)) : TO := fun σ H Q => rdG C W ev (okO Q) σ H
theorem weakO {e : Option Expr} {t t' : TO} (h : PO X e t) (f : ∀ σ H Q, t' σ H Q → t σ H Q) : PO X e t' := ⟨fun pins s σ H Q I q => h.run pins s σ H Q I (f σ H Q q)⟩
theorem g_oNone : PO X none (rdO C W (evO cf .none)) := weakO po_none fun σ H Q ⟨μ, st, r, w, hr, h⟩ => by
  rw [evO] at h
  exact post.here h w
theorem g_oSome {a : E} {e : Expr} (h1 : PE X e (rdE C W (evE cf a))) : PO X (some e) (rdO C W (evO cf (.some a))) := weakO (po_some h1) fun σ H Q ⟨μ, st, r, w, hr, h⟩ => by
  rw [evO] at h
  refine step w hr h fun d st1 μ1 H1 n1 w1 hr1 h1 v rv => ?_
  split at h1
  · rename_i i
    exact ⟨i, RP.int_iff.mp (show RP C H1 (.int i) v from rv), post.here h1 w1⟩
  · exact h1.elim
theorem sIx_eq (n d : Nat) (o : Option Int) : sIx n d o = HT.sIx n d o := by cases o <;> rfl
theorem cut_rps {H : Hp} {l : List P} {xs : List V} (h : RPs C H l xs) (lo hi : Option Int) : RPs C H (cutP l lo hi) (cutV xs lo hi) := by
  unfold cutP cutV
  rw [sIx_eq, sIx_eq, h.length]
  exact (h.drop _).take _
theorem g_slc (o : XOk C M F cf k W X) {a : E} {lo hi : Oe} {e : Expr} {l u : Option Expr} {p2 pos : Pos} (h1 : PE X e (rdE C W (evE cf a))) (h2 : PO X l (rdO C W (evO cf lo))) (h3 : PO X u (rdO C W (evO cf hi))) :
    PE X (.Subscript e (.Slice l u none p2) pos) (rdE C W (evE cf (.slc a lo hi))) := by
  refine weak (pe_slice sl_tupA h1 h2 h3) fun σ H Q ⟨μ, st, r, w, hr, h⟩ => ?_
  rw [evE] at h
  refine step w hr h fun d st1 μ1 H1 n1 w1 hr1 h1 v rv => ?_
  refine step w1 hr1 h1 fun l st2 μ2 H2 n2 w2 hr2 h2 => ?_
  refine step w2 hr2 h2 fun h st3 μ3 H3 n3 w3 hr3 h3 => ?_
  have rv := rv.nx (n2.trans n3)
  split at h3
  · rename_i xs ev
    obtain ⟨a, ys, rfl, e3, rr⟩ := (view_ok w3 rv ev).tup
    refine ⟨a, ys, rfl, SqT.of e3, fun hw => ?_, fun _ p hp => ?_⟩
    · refine post.here h3 w3 (.ref a) (RP.tup_iff.mpr ⟨a, ys, rfl, e3, ?_⟩)
      have := cut_rps rr l h
      unfold cutV at this
      rw [hw.1, hw.2, Nat.sub_zero, List.drop_zero, List.take_length] at this
      exact this
    · exact h3 μ3 _ (Nx.fresh hp) (w3.fresh hp) _ (tupOf hp (cut_rps rr l h))
  · exact h3.elim
theorem g_lslc (o : XOk C M F cf k W X) {a : E} {lo hi : Oe} {e : Expr} {l u : Option Expr} {p2 pos : Pos} (h1 : PE X e (rdE C W (evE cf a))) (h2 : PO X l (rdO C W (evO cf lo))) (h3 : PO X u (rdO C W (evO cf hi))) :
    PE X (.Subscript e (.Slice l u none p2) pos) (rdL C W (evL cf (.slc a lo hi))) := by
  refine weak (pe_slice sl_list h1 h2 h3) fun σ H Q ⟨μ, st, r, w, hr, h⟩ => ?_
  rw [evL] at h
  refine step w hr h fun d st1 μ1 H1 n1 w1 hr1 h1 v rv => ?_
  refine step w1 hr1 h1 fun l st2 μ2 H2 n2 w2 hr2 h2 => ?_
  refine step w2 hr2 h2 fun h st3 μ3 H3 n3 w3 hr3 h3 => ?_
  have rv := rv.nx (n2.trans n3)
  split at h3
  · rename_i xs ev
    obtain ⟨a, ys, rfl, e3, rr⟩ := view_ok w3 rv ev
    refine ⟨a, ys, rfl, .inl e3, fun p hp => ?_⟩
    exact post.here h3 w3 p _ hp (cut_rps rr l h)
  · exact h3.elim
/-! ### calls -/
theorem call_post {cf : Cf} {np g : Nat} {σ : L2.St} {H : Hp} {Q : VK} {μ : List Addr} {st : St} {ds : List D} {vs : List V} (w : Wd C H μ st) (rv : RDs C H μ ds vs) (hb : ∀ ds st, ds.length ≠ np → cf g ds st = .bad) (h : post C W σ μ H (cf g ds st) (okD C Q)) : spG C cf np g vs H Q (EW C W σ) := by
  have hl : ds.length = np := Classical.byContradiction fun z => by rw [hb ds st z] at h; exact h
  refine ⟨by rw [← Paired.length rv]; exact hl, μ, st, ds, w, rv, ?_⟩
  cases e : cf g ds st with
  | ok d st' => rw [e] at h; exact fun μ' H' n w' => h μ' H' n w'
  | exc c fs st' => rw [e] at h; exact fun μ' H' A n w' hA d hd => ⟨c, fs, st', μ', A, hA, rfl, hd, w', h μ' H' n w'⟩
  | bad => rw [e] at h; exact h
theorem g_call (o : XOk C M F cf k W X) {g : Nat} {as : Es} {x : Str} {e : Expr} {es : List Expr} {p pos : Pos} (hl : M.fns.lookup x = some g) (hg : glB F.sc x = true) (hn : nmB x = true) (hs : notStar e = true) (hss : es.all notStar = true) (h1 : PA X (e :: es) (rdA C W (evEs cf as))) :
    PE X (.Call (.Name x p) (e :: es) [] pos) (rdE C W (evE cf (.call g as))) := by
  obtain ⟨n1, n2, n3⟩ := nmB_of hn
  obtain ⟨f, e1, m⟩ := o.fns x g hl
  obtain ⟨fd, ps, kp, bd, fo, hb⟩ := o.fok g f e1 ⟨x, hl⟩
  refine weak (pe_callS fo o.room (glB_of o.sc hg) m kp bd o.pass h1 n1 (star_cons hs) (star_any hss)) fun σ H Q ⟨μ, st, r, w, hr, h⟩ => ?_
  rw [evE] at h
  exact step w hr h fun ds st1 μ1 H1 n1 w1 hr1 h1 vs rvs => call_post w1 rvs hb h1
/-! ### a list that is made: kept, or frozen -/
theorem g_frz {l : L} {e : Expr} (h1 : PE X e (rdL C W (evL cf l))) : PE X e (rdE C W (evE cf (.frz l))) := by
  refine ⟨fun pins s σ H Q I ⟨μ, st, r, w, hr, h⟩ => ?_⟩
  rw [evE] at h
  refine thn (h1.run pins s σ H (fun v H2 => ∃ p xs l μ1 st1 H1, v = .ref p ∧ H1 p = none ∧ H2 = upd H1 p (.lst xs) ∧ RPs C H1 l xs ∧ Wd C H1 μ1 st1 ∧ post C W σ μ1 H1 (.ok (.p (.lst l)) st1) (okD C Q)) I (step w hr h fun l st1 μ1 H1 n1 w1 hr1 h1 p xs hp rr => ⟨p, xs, l, μ1, st1, H1, rfl, hp, rfl, rr, w1, h1⟩)) fun v s1 ⟨x, H2, I1, r1, q1⟩ => ?_
  obtain ⟨p, xs, l, μ1, st1, H1, rfl, hp, rfl, rr, w1, h1⟩ := q1
  obtain ⟨od, I2⟩ := I1.lock upd_same trivial
  rw [upd_upd] at I2
  exact ⟨.ref p, _, I2, r1, h1 μ1 _ (Nx.fresh hp) (w1.fresh hp) _ (RP.lst_iff.mpr ⟨p, xs, rfl, ImL.of upd_same, RPs.keep (Keep.new _ hp) _ _ rr⟩)⟩
theorem g_new {l : L} {e : Expr} (h1 : PE X e (rdL C W (evL cf l))) : PE X e (rdE C W (evE cf (.new l))) := by
  refine weak h1 fun σ H Q ⟨μ, st, r, w, hr, h⟩ => ?_
  rw [evE] at h
  refine step w hr h fun l st1 μ1 H1 n1 w1 hr1 h1 p xs hp rr => ?_
  refine h1 (μ1 ++ [p]) _ (Nx.push hp) (w1.push hp ⟨xs, upd_same, RPs.keep (Keep.new _ hp) _ _ rr⟩) (.ref p) ⟨p, ?_, rfl⟩
  rw [← w1.len, List.getElem?_append_right (Nat.le_refl _), Nat.sub_self]; rfl
theorem g_frzM {m : Ev.M} {e : Expr} (h1 : PE X e (rdM C W (evM cf m))) : PE X e (rdE C W (evE cf (.frzM m))) := by
  refine ⟨fun pins s σ H Q I ⟨μ, st, r, w, hr, h⟩ => ?_⟩
  rw [evE] at h
  refine thn (h1.run pins s σ H (fun v H2 => ∃ p u kv μ1 st1 H1, v = .ref p ∧ H1 p = none ∧ H2 = upd H1 p u ∧ Mut (some u) ∧ RDc C H1 p kv.1 kv.2 u ∧ Wd C H1 μ1 st1 ∧ post C W σ μ1 H1 (.ok (.p (.dct kv.1 kv.2)) st1) (okD C Q)) I (step w hr h fun kv st1 μ1 H1 n1 w1 hr1 h1 p u hp mu rr => ⟨p, u, kv, μ1, st1, H1, rfl, hp, rfl, mu, rr, w1, h1⟩)) fun v s1 ⟨x, H2, I1, r1, q1⟩ => ?_
  obtain ⟨p, u, kv, μ1, st1, H1, rfl, hp, rfl, mu, rr, w1, h1⟩ := q1
  obtain ⟨od, I2⟩ := I1.lock upd_same mu
  rw [upd_upd] at I2
  exact ⟨.ref p, _, I2, r1, h1 μ1 _ (Nx.fresh hp) (w1.fresh hp) _ (RP.dct_iff.mpr ⟨p, od, u, rfl, upd_same, rr.keep (Keep.new _ hp)⟩)⟩
theorem g_newM {m : Ev.M} {e : Expr} (h1 : PE X e (rdM C W (evM cf m))) : PE X e (rdE C W (evE cf (.newM m))) := by
  refine weak h1 fun σ H Q ⟨μ, st, r, w, hr, h⟩ => ?_
  rw [evE] at h
  refine step w hr h fun kv st1 μ1 H1 n1 w1 hr1 h1 p u hp mu rr => ?_
  refine h1 (μ1 ++ [p]) _ (Nx.push hp) (w1.push hp ⟨u, upd_same, rr.keep (Keep.new _ hp)⟩) (.ref p) ⟨p, ?_, rfl⟩
  rw [← w1.len, List.getElem?_append_right (Nat.le_refl _), Nat.sub_self]; rfl
end
end Ev

set_option Elab.async false
set_option linter.all false
set_option maxRecDepth 100000
set_option maxHeartbeats 1000000
/-! ### sorting lists of tuples of which some are empty -/
namespace Ev.Srt
open PySem PyProof PySem.Calls PyProof.Rows PySem.SeqAt PySem.W
section
variable {prog : Program} {w : World} {A : Around} {E : Value → Shared → Prop} {s : Shared}
theorem call_tuple_lt {Q : Value → Shared → Prop} {l b : Addr} {items items2 : Array Value} {e r : Nat → Bool} (hl : s.heap.IsTuple l items) (hb : s.heap.IsTuple b items2)
    (he : ∀ j (h1 : j < items.size) (h2 : j < items2.size), EqAt A.in1 s items[j] items2[j] (e j)) (hr : ∀ j (h1 : j < items.size) (h2 : j < items2.size), e j = false → RcLt A.in1 s items[j] items2[j] (r j))
    (h : Q (.bool (firstLt e r (decide (items.size < items2.size)) (List.range (min items.size items2.size)))) s) : wpAny (model prog w) A (call (.builtin "tuple.__lt__") [.ref l, .ref b]) Q E s := by
  obtain ⟨⟨cls, dd, data, sl⟩, ho, hc, n, hd⟩ := id hl
  obtain ⟨⟨cls2, dd2, data2, sl2⟩, ho2, hc2, n2, hd2⟩ := id hb
  simp only at hc hd hc2 hd2
  subst hc hd hc2 hd2
  exact call_meets F.slot_tuple_lt ⟨_, ho, rfl⟩ F.entry_tuple_lt (F.args_tuple_lt_2 _ _) (tuple_ltAt l b items items2 n n2 dd dd2 sl sl2 e r) ⟨ho, ho2, he, hr, h⟩
theorem oneLt_tup {f : Bool} {xs ys : List PyData} {a b : Value} {as bs : List Addr} {Q : Bool → Shared → Prop} (ra : Reads s.heap a (.tuple xs) as) (rb : Reads s.heap b (.tuple ys) bs) (h : alike (.tuple xs) (.tuple ys) = true)
    (hu : A.units + min (PyData.tuple xs).depth (PyData.tuple ys).depth < cLine) (hq : Q (dataLt (.tuple xs) (.tuple ys)) s) : wpAny (model prog w) A (oneLt' f a b) Q E s := by
  cases f with
  | false => exact oneLt_alike (fun z => by cases z) ra rb h (fun z => by cases z) hu hq
  | true =>
    have hal : alikeAll xs ys = true := by simpa [alike] using h
    cases ra with
    | @tuple l o vs n _ as₁ h1 h2 h3 h4 =>
      cases rb with
      | @tuple l' o' vs' n' _ bs₁ k1 k2 k3 k4 =>
        have n1 : vs.size = xs.length := by simpa using ReadsAll.length _ _ _ h4
        have n2 : vs'.size = ys.length := by simpa using ReadsAll.length _ _ _ k4
        rw [dataLt_tuple, ← firstLt_toks xs ys hal, ← n1, ← n2] at hq
        rw [oneLt'_eq]
        simp only [if_true]
        refine wpAny_bind (wpAny_cRoomFor (PySem.SeqAt.room_here hu) ?_)
        refine wpAny_bind (wpAny_callSpecialIfBound?_slot (T := "tuple") ⟨_, h1, h2⟩ F.slot_tuple_lt (call_tuple_lt (e := pairEq xs ys) (r := fun j => dataLt (xs.getD j .none) (ys.getD j .none)) ⟨_, h1, h2, _, h3⟩ ⟨_, k1, k2, _, k3⟩ (fun j j1 j2 => ?_) (fun j j1 j2 hj => ?_) ?_))
        · have := eqAt_alikeAll xs ys A.in1 s vs.toList vs'.toList _ _ h4 k4 hal (PySem.SeqAt.room_in hu) j (by simpa using j1) (by simpa using j2)
          simpa using this
        · have := rcLt_alikeAll xs ys A.in1 s vs.toList vs'.toList _ _ h4 k4 hal (PySem.SeqAt.room_in hu) j (by simpa using j1) (by simpa using j2) hj
          simpa using this
        · exact wpAny_truthy_bool hq
def isT0 : PyData → Bool
  | .tuple [] => true
  | _ => false
theorem keyLt'_general (x y : Value) : keyLt' general' x y = oneLt' false x y := rfl
/-- the first items of tuples, where there is one -/
theorem firsts_any {M : Model} : ∀ (vs : List Value) {ds : List PyData} {Q : List (Option Value) → Shared → Prop}, EachIs (fun v d => ∃ as, Reads s.heap v d as) vs ds → (∀ d ∈ ds, ∃ xs, d = .tuple xs) →
    (∀ os : List (Option Value), EachIs (fun o d => o.isSome = !isT0 d) os ds → Q os s) → wpAny M A (vs.mapM firstOfTuple') Q E s
  | [], ds, Q, e, ht, h => by
    cases e
    rw [List.mapM_nil]
    exact wpAny_pure (h [] .nil)
  | v :: vs, ds, Q, e, ht, h => by
    cases e with
    | @cons _ d _ ds r e =>
      obtain ⟨as, r⟩ := r
      obtain ⟨xs, rfl⟩ := ht d List.mem_cons_self
      cases r with
      | @tuple a o ys n _ _ ho hc hd hr =>
        rw [List.mapM_cons]
        refine wpAny_bind ?_
        rw [kas_first_eq]
        refine wpAny_bind (Looks.here (show Looks M s.heap (typeOf (.ref a)) o.cls from (Looks.ld ho).andThen .now) ?_)
        rw [hc, if_neg (by first | decide | simp)]
        refine wpAny_bind (listItems_at ho hd (wpAny_pure ?_))
        refine wpAny_bind (firsts_any vs (Q := fun bs s' => wpAny M A (pure (ys[0]? :: bs)) Q E s') e (fun d hd => ht d (List.mem_cons_of_mem _ hd)) fun os eo => wpAny_pure (h _ (.cons ?_ eo)))
        cases xs with
        | nil =>
          generalize hy : ys.toList = yl at hr
          cases hr
          have : ys = #[] := by rw [← Array.toArray_toList (xs := ys), hy]
          subst this
          rfl
        | cons x r =>
          generalize hy : ys.toList = yl at hr
          cases hr with
          | cons r1 r2 =>
            rename_i v0 _ _ _
            have hf : ys[0]? = some v0 := by rw [← Array.getElem?_toList, hy]; rfl
            rw [hf]; rfl
theorem mixed_sorts {vs : List Value} {ds : List PyData} (e : EachIs (fun v d => ∃ as, Reads s.heap v d as) vs ds) (hal : AllAlike ds) (ht : ∀ d ∈ ds, ∃ xs, d = .tuple xs) (hn : PyData.tuple [] ∈ ds) (hu : ∀ d, d ∈ ds → A.units + d.depth < cLine) : SortsAt prog w A s (dataKind s.heap ds) vs := by
  have room : ∀ {d d' : PyData}, d ∈ ds → A.units + min d.depth d'.depth < cLine := fun {d d'} hd => Nat.lt_of_le_of_lt (Nat.add_le_add_left (Nat.min_le_left _ _) _) (hu d hd)
  have lt_at : ∀ (f : Bool) (E : Value → Shared → Prop) x y a b (Q : Bool → Shared → Prop), (dataKind s.heap ds).keyOf x = some a → (dataKind s.heap ds).keyOf y = some b → Q (lexLt itemOrd a b) s → wpAny (model prog w) A (oneLt' f x y) Q E s := by
    intro f E x y a b Q ha hb hq
    obtain ⟨d, as, hd, ra, rfl⟩ := dataKind_inv ha
    obtain ⟨d', as', hd', rb, rfl⟩ := dataKind_inv hb
    obtain ⟨xs, rfl⟩ := ht d hd
    obtain ⟨ys, rfl⟩ := ht d' hd'
    exact oneLt_tup ra rb (hal _ hd _ hd') (room hd) hq
  refine ⟨fun v hv => ?_, ?_⟩
  · obtain ⟨d, hd, as, r⟩ := e.left v hv
    exact ⟨_, dataKind_some hal hd r⟩
  · by_cases h0 : ∃ r, ds = .tuple [] :: r
    · refine ⟨oneType', fun E x y a b Q ha hb hq => by rw [keyLt'_oneType]; exact lt_at true E x y a b Q ha hb hq, fun h2 E Q hq => ?_⟩
      obtain ⟨r, rfl⟩ := h0
      rw [kat_kind_eq, List.mapM_toArray, map_eq_pure_bind]
      refine wpAny_bind (wpAny_bind (firsts_any vs e ht fun os eo => wpAny_pure ?_))
      cases eo with
      | @cons o _ os _ h1 h2 =>
        have ho : o = none := by cases o with
          | none => rfl
          | some z => cases h1
        subst ho
        have hall : ((none :: os).toArray.all fun x : Option Value => x.isSome) = false := by simp
        rw [if_neg (by rw [hall]; exact Bool.false_ne_true)]
        have h0' : ((none :: os).toArray[0]?.bind id : Option Value).isSome = false := by simp
        rw [if_neg (by rw [h0']; exact Bool.false_ne_true)]
        rw [oneTypeOnly'_eq, List.mapM_toArray, map_eq_pure_bind]
        refine wpAny_bind (wpAny_bind (wpAny_bind (kas_mapM (r := Value.type "tuple") _ (fun v hv Q' hq' => ?_) (wpAny_pure ?_))))
        · obtain ⟨d, hd, as, rd⟩ := e.left v hv
          obtain ⟨xs, rfl⟩ := ht d hd
          exact (looks_reads rd).here hq'
        · have hall2 : ((List.map (fun _ => Value.type "tuple") vs).toArray.all fun x => x == Value.type "tuple") = true := by
            simp only [List.all_toArray, List.all_map, List.all_eq_true]
            intro _ _
            exact beq_self_eq_true _
          cases vs with
          | nil => cases e
          | cons v vs =>
            have h0 : (List.map (fun _ => Value.type "tuple") (v :: vs)).toArray[0]? = some (Value.type "tuple") := by simp
            rw [h0]
            simp only [hall2, if_true]
            exact wpAny_pure (wpAny_pure hq)
    · refine ⟨general', fun E x y a b Q ha hb hq => by rw [keyLt'_general]; exact lt_at false E x y a b Q ha hb hq, fun h2 E Q hq => ?_⟩
      rw [kat_kind_eq, List.mapM_toArray, map_eq_pure_bind]
      refine wpAny_bind (wpAny_bind (firsts_any vs e ht fun os eo => wpAny_pure ?_))
      have hall : (os.toArray.all fun x : Option Value => x.isSome) = false := by
        have : ∃ o ∈ os, o = none := by
          have go : ∀ {os : List (Option Value)} {ds : List PyData}, EachIs (fun o d => o.isSome = !isT0 d) os ds → PyData.tuple [] ∈ ds → ∃ o ∈ os, o = none := by
            intro os ds eo
            induction eo with
            | nil => intro hn; cases hn
            | @cons o d os ds h1 h2 ih =>
              intro hn
              rcases List.mem_cons.mp hn with rfl | hn
              · refine ⟨o, List.mem_cons_self, ?_⟩
                cases o with
                | none => rfl
                | some z => cases h1
              · obtain ⟨o', h3, h4⟩ := ih hn
                exact ⟨o', List.mem_cons_of_mem _ h3, h4⟩
          exact go eo hn
        obtain ⟨o, ho, rfl⟩ := this
        simp only [List.all_toArray]
        refine List.all_eq_false.mpr ⟨none, ho, by simp⟩
      rw [if_neg (by rw [hall]; exact Bool.false_ne_true)]
      have h1 : (os.toArray[0]?.bind id).isSome = true := by
        cases eo with
        | nil => cases hn
        | @cons o d os ds k1 k2 =>
          obtain ⟨xs, rfl⟩ := ht d List.mem_cons_self
          cases xs with
          | nil => exact absurd ⟨ds, rfl⟩ h0
          | cons x r =>
            cases o with
            | none => cases k1
            | some z => simp
      rw [if_pos h1]
      exact wpAny_pure hq
end
end Ev.Srt

set_option Elab.async false
set_option linter.all false
set_option maxRecDepth 100000
set_option maxHeartbeats 1000000
namespace Ev
open PySem PySem.Spec PyProof.Rows L2

mutual
theorem has_py : ∀ (t : Ty) (x : P), P.has t x = true → ∃ d, x.py = some d ∧ d.depth ≤ t.deep
  | .int, x, h => by
    cases x <;> first | exact ⟨_, rfl, Nat.le_refl _⟩ | cases h
  | .str, x, h => by
    cases x <;> first | exact ⟨_, rfl, Nat.le_refl _⟩ | cases h
  | .seq t, x, h => by
    cases x with
    | tup l =>
      obtain ⟨ds, e, d⟩ := hasAll_py t l h
      exact ⟨.tuple ds, by rw [P.py, e], by rw [PyData.depth, Ty.deep]; omega⟩
    | _ => cases h
  | .nil, x, h => by
    cases x with
    | tup l =>
      cases l with
      | nil => exact ⟨.tuple [], rfl, by simp [PyData.depth, PyData.depthAll, Ty.deep]⟩
      | cons a l => cases h
    | _ => cases h
  | .cons t r, x, h => by
    cases x with
    | tup l =>
      cases l with
      | nil => cases h
      | cons a l =>
        have h : (P.has t a && P.hasEach r l) = true := h
        rw [Bool.and_eq_true] at h
        obtain ⟨d, e1, d1⟩ := has_py t a h.1
        obtain ⟨ds, e2, d2⟩ := hasEach_py r l h.2
        refine ⟨.tuple (d :: ds), by rw [P.py, P.pys, e1, e2], ?_⟩
        rw [PyData.depth, PyData.depthAll, Ty.deep]
        omega
    | _ => cases h
theorem hasAll_py : ∀ (t : Ty) (l : List P), P.hasAll t l = true → ∃ ds, P.pys l = some ds ∧ PyData.depthAll ds ≤ t.deep
  | t, [], h => ⟨[], rfl, Nat.zero_le _⟩
  | t, a :: l, h => by
    rw [P.hasAll, Bool.and_eq_true] at h
    obtain ⟨d, e1, d1⟩ := has_py t a h.1
    obtain ⟨ds, e2, d2⟩ := hasAll_py t l h.2
    refine ⟨d :: ds, by rw [P.pys, e1, e2], ?_⟩
    rw [PyData.depthAll]
    omega
theorem hasEach_py : ∀ (t : Ty) (l : List P), P.hasEach t l = true → ∃ ds, P.pys l = some ds ∧ PyData.depthAll ds + 1 ≤ t.deep
  | .nil, l, h => by
    cases l with
    | nil => exact ⟨[], rfl, by simp [PyData.depthAll, Ty.deep]⟩
    | cons a l => cases h
  | .cons t r, l, h => by
    cases l with
    | nil => cases h
    | cons a l =>
      have h : (P.has t a && P.hasEach r l) = true := h
      rw [Bool.and_eq_true] at h
      obtain ⟨d, e1, d1⟩ := has_py t a h.1
      obtain ⟨ds, e2, d2⟩ := hasEach_py r l h.2
      refine ⟨d :: ds, by rw [P.pys, e1, e2], ?_⟩
      rw [PyData.depthAll, Ty.deep]
      omega
  | .int, l, h => by cases l <;> cases h
  | .str, l, h => by cases l <;> cases h
  | .seq _, l, h => by cases l <;> cases h
end
mutual
theorem has_alike : ∀ (t : Ty) (x y : P) (d d' : PyData), P.has t x = true → P.has t y = true → x.py = some d → y.py = some d' → PySem.W.alike d d' = true
  | .int, x, y, d, d', h, h', e, e' => by
    cases x <;> first | (cases h; done) | skip
    cases y <;> first | (cases h'; done) | skip
    cases e; cases e'; rfl
  | .str, x, y, d, d', h, h', e, e' => by
    cases x <;> first | (cases h; done) | skip
    cases y <;> first | (cases h'; done) | skip
    cases e; cases e'; rfl
  | .seq t, x, y, d, d', h, h', e, e' => by
    cases x with
    | tup l =>
      cases y with
      | tup m =>
        obtain ⟨ds, q, rfl⟩ := py_tup e
        obtain ⟨ds', q', rfl⟩ := py_tup e'
        rw [PySem.W.alike]
        exact hasAll_alike t l m ds ds' h h' q q'
      | _ => cases h'
    | _ => cases h
  | .nil, x, y, d, d', h, h', e, e' => by
    cases x with
    | tup l =>
      cases y with
      | tup m =>
        obtain ⟨ds, q, rfl⟩ := py_tup e
        obtain ⟨ds', q', rfl⟩ := py_tup e'
        rw [PySem.W.alike]
        cases l with
        | nil => cases q; simp [PySem.W.alikeAll]
        | cons a l => cases h
      | _ => cases h'
    | _ => cases h
  | .cons t r, x, y, d, d', h, h', e, e' => by
    cases x with
    | tup l =>
      cases y with
      | tup m =>
        obtain ⟨ds, q, rfl⟩ := py_tup e
        obtain ⟨ds', q', rfl⟩ := py_tup e'
        rw [PySem.W.alike]
        cases l with
        | nil => cases h
        | cons a l =>
          cases m with
          | nil => cases h'
          | cons b m =>
            have h : (P.has t a && P.hasEach r l) = true := h
            have h' : (P.has t b && P.hasEach r m) = true := h'
            rw [Bool.and_eq_true] at h h'
            obtain ⟨d1, r1, a1, a2, rfl⟩ := pys_cons q
            obtain ⟨d2, r2, b1, b2, rfl⟩ := pys_cons q'
            rw [PySem.W.alikeAll, has_alike t a b _ _ h.1 h'.1 a1 b1, hasEach_alike r l m _ _ h.2 h'.2 a2 b2]; rfl
      | _ => cases h'
    | _ => cases h
theorem hasAll_alike : ∀ (t : Ty) (l m : List P) (d d' : List PyData), P.hasAll t l = true → P.hasAll t m = true → P.pys l = some d → P.pys m = some d' → PySem.W.alikeAll d d' = true
  | t, [], m, d, d', h, h', e, e' => by cases e; simp [PySem.W.alikeAll]
  | t, a :: l, [], d, d', h, h', e, e' => by
    cases e'
    obtain ⟨d1, r1, a1, a2, rfl⟩ := pys_cons e
    simp [PySem.W.alikeAll]
  | t, a :: l, b :: m, d, d', h, h', e, e' => by
    rw [P.hasAll, Bool.and_eq_true] at h h'
    obtain ⟨d1, r1, a1, a2, rfl⟩ := pys_cons e
    obtain ⟨d2, r2, b1, b2, rfl⟩ := pys_cons e'
    rw [PySem.W.alikeAll, has_alike t a b _ _ h.1 h'.1 a1 b1, hasAll_alike t l m _ _ h.2 h'.2 a2 b2]; rfl
theorem hasEach_alike : ∀ (t : Ty) (l m : List P) (d d' : List PyData), P.hasEach t l = true → P.hasEach t m = true → P.pys l = some d → P.pys m = some d' → PySem.W.alikeAll d d' = true
  | .nil, l, m, d, d', h, h', e, e' => by
    cases l with
    | nil => cases e; simp [PySem.W.alikeAll]
    | cons a l => cases h
  | .cons t r, l, m, d, d', h, h', e, e' => by
    cases l with
    | nil => cases h
    | cons a l =>
      cases m with
      | nil => cases h'
      | cons b m =>
        have h : (P.has t a && P.hasEach r l) = true := h
        have h' : (P.has t b && P.hasEach r m) = true := h'
        rw [Bool.and_eq_true] at h h'
        obtain ⟨d1, r1, a1, a2, rfl⟩ := pys_cons e
        obtain ⟨d2, r2, b1, b2, rfl⟩ := pys_cons e'
        rw [PySem.W.alikeAll, has_alike t a b _ _ h.1 h'.1 a1 b1, hasEach_alike r l m _ _ h.2 h'.2 a2 b2]; rfl
  | .int, l, m, d, d', h, h', e, e' => by cases l <;> cases h
  | .str, l, m, d, d', h, h', e, e' => by cases l <;> cases h
  | .seq _, l, m, d, d', h, h', e, e' => by cases l <;> cases h
end
/-- a value's datum -/
def P.dat (x : P) : PyData := x.py.getD .none
theorem dat_of {x : P} {d : PyData} (h : x.py = some d) : x.dat = d := by unfold P.dat; rw [h]; rfl
theorem pys_dat : ∀ {l : List P} {ds : List PyData}, P.pys l = some ds → ds = l.map P.dat
  | [], ds, h => by cases h; rfl
  | x :: l, ds, h => by
    obtain ⟨d, r, e1, e2, rfl⟩ := pys_cons h
    rw [List.map_cons, dat_of e1, pys_dat e2]
theorem all_of {t : Ty} : ∀ {l : List P}, P.hasAll t l = true → ∀ x ∈ l, P.has t x = true
  | [], _, x, h => by cases h
  | a :: l, h, x, hx => by
    rw [P.hasAll, Bool.and_eq_true] at h
    rcases List.mem_cons.mp hx with rfl | hx
    · exact h.1
    · exact all_of h.2 x hx
theorem has_kind {t : Ty} {x : P} {d : PyData} (h : P.has t x = true) (e : x.py = some d) : match t with
    | .int => ∃ i, d = .int i | .str => ∃ i, d = .str i | _ => ∃ ds, d = .tuple ds := by
  cases t <;> cases x <;> first
    | (cases h; done)
    | (cases e; exact ⟨_, rfl⟩)
    | (obtain ⟨ds, _, rfl⟩ := py_tup e; exact ⟨_, rfl⟩)
theorem tup_or (t : Ty) : (∀ x d, P.has t x = true → x.py = some d → d ≠ .none ∧ ∀ xs, d ≠ .tuple xs) ∨ (∀ x d, P.has t x = true → x.py = some d → ∃ xs, d = .tuple xs) := by
  cases t with
  | int => exact .inl fun x d h e => by obtain ⟨i, rfl⟩ := has_kind h e; exact ⟨fun z => (by cases z), fun xs z => (by cases z)⟩
  | str => exact .inl fun x d h e => by obtain ⟨i, rfl⟩ := has_kind h e; exact ⟨fun z => (by cases z), fun xs z => (by cases z)⟩
  | seq t => exact .inr fun x d h e => has_kind h e
  | nil => exact .inr fun x d h e => has_kind h e
  | cons t r => exact .inr fun x d h e => has_kind h e
section
variable {C : Gc} {X : Cx} {pins : List (Addr × Obj)} {σ : L2.St} {H : Hp} {s : Shared}
theorem each_reads (I : Inv X pins σ H s) (hK : X.K = C.K) {t : Ty} : ∀ {l : List P} {xs : List V} {us : List Value}, RPs C H l xs → Vals xs us → P.hasAll t l = true → PySem.W.EachIs (fun v b => ∃ as, Reads s.heap v (P.dat b) as) us l
  | [], xs, us, r, rv, h => by
    rw [r.of_nil] at rv
    cases rv
    exact .nil
  | x :: l, xs, us, r, rv, h => by
    obtain ⟨v, w, rfl, h1, h2⟩ := r.of_cons
    rw [P.hasAll, Bool.and_eq_true] at h
    cases rv with
    | cons r1 r2 =>
      refine .cons ?_ (each_reads I hK h2 r2 h.2)
      obtain ⟨d, e, _⟩ := has_py t x h.1
      rw [dat_of e]
      exact Dp.reads I d v _ (by rw [hK]; exact dp_of x v d h1 e) r1
theorem each_rp {l : List P} : ∀ {xs : List V} {us : List Value}, RPs C H l xs → Vals xs us → PySem.W.EachIs (fun v b => ∃ z, RelV z v ∧ RP C H b z) us l := by
  induction l with
  | nil =>
    intro xs us r rv
    rw [r.of_nil] at rv
    cases rv
    exact .nil
  | cons x l ih =>
    intro xs us r rv
    obtain ⟨v, w, rfl, h1, h2⟩ := r.of_cons
    cases rv with
    | cons r1 r2 => exact .cons ⟨v, r1, h1⟩ (ih h2 r2)
theorem rp_each {l : List P} : ∀ {us : List Value}, PySem.W.EachIs (fun v b => ∃ z, RelV z v ∧ RP C H b z) us l → ∃ xs, Vals xs us ∧ RPs C H l xs := by
  induction l with
  | nil => intro us e; cases e; exact ⟨[], .nil, .nil⟩
  | cons x l ih =>
    intro us e
    cases e with
    | cons h e =>
      obtain ⟨z, r1, r2⟩ := h
      obtain ⟨xs, a, b⟩ := ih e
      exact ⟨z :: xs, .cons r1 a, .cons r2 b⟩
theorem sortP_eq {t : Ty} {l : List P} (h : P.hasAll t l = true) : l.mergeSort (PySem.W.dataLe false P.dat) = sortP l := by
  have q := List.map_mergeSort (r := PySem.W.dataLe false P.dat) (s := fun a b => !P.ltb b a) (f := id) (l := l) fun a ha b hb => by
    have h1 := all_of h a ha
    have h2 := all_of h b hb
    obtain ⟨d1, e1, _⟩ := has_py t a h1
    obtain ⟨d2, e2, _⟩ := has_py t b h2
    rw [PySem.W.dataLe_eq]
    show (!PySem.W.dataLt b.dat a.dat) = !P.ltb b a
    rw [dat_of e1, dat_of e2, ltb_data b a d2 d1 e2 e1 (has_alike t b a d2 d1 h2 h1 e2 e1)]
  rw [List.map_id, List.map_id] at q
  exact q.trans (sortP_merge h).symm
theorem sorts_at {prog : Program} {w : World} {A : Around} {t : Ty} {l : List P} {us : List Value} (e : PySem.W.EachIs (fun v d => ∃ as, Reads s.heap v d as) us (l.map P.dat)) (h : P.hasAll t l = true) (hu : A.units + t.deep < cLine) : PySem.W.SortsAt prog w A s (PySem.W.dataKind s.heap (l.map P.dat)) us := by
  have hal : PySem.W.AllAlike (l.map P.dat) := by
    intro d hd d' hd'
    obtain ⟨x, hx, rfl⟩ := List.mem_map.mp hd
    obtain ⟨y, hy, rfl⟩ := List.mem_map.mp hd'
    obtain ⟨d1, e1, _⟩ := has_py t x (all_of h x hx)
    obtain ⟨d2, e2, _⟩ := has_py t y (all_of h y hy)
    rw [dat_of e1, dat_of e2]
    exact has_alike t x y d1 d2 (all_of h x hx) (all_of h y hy) e1 e2
  have hdp : ∀ d, d ∈ l.map P.dat → A.units + d.depth < cLine := by
    intro d hd
    obtain ⟨x, hx, rfl⟩ := List.mem_map.mp hd
    obtain ⟨d1, e1, q⟩ := has_py t x (all_of h x hx)
    rw [dat_of e1]
    omega
  rcases tup_or t with hn | ht
  · refine PySem.W.SortsAt.data e hal (.inr fun d hd => ?_) hdp
    obtain ⟨x, hx, rfl⟩ := List.mem_map.mp hd
    obtain ⟨d1, e1, _⟩ := has_py t x (all_of h x hx)
    rw [dat_of e1]
    exact hn x d1 (all_of h x hx) e1
  · have ht' : ∀ d ∈ l.map P.dat, ∃ xs, d = .tuple xs := by
      intro d hd
      obtain ⟨x, hx, rfl⟩ := List.mem_map.mp hd
      obtain ⟨d1, e1, _⟩ := has_py t x (all_of h x hx)
      rw [dat_of e1]
      exact ht x d1 (all_of h x hx) e1
    by_cases hm : PyData.tuple [] ∈ l.map P.dat
    · exact Srt.mixed_sorts e hal ht' hm hdp
    · refine PySem.W.SortsAt.data e hal (.inl fun d hd => ?_) hdp
      obtain ⟨xs, rfl⟩ := ht' d hd
      cases xs with
      | nil => exact absurd hd hm
      | cons x r => exact ⟨x, r, rfl⟩
/-- sorted(l) -/
theorem cr_sorted (hK : X.K = C.K) (hu : X.A.units + 65 < cLine) : CallR X (.builtin "sorted") (fun vs H Q => ∃ v t l, vs = [v] ∧ VP C H (.lst l) v ∧ P.hasAll t l = true ∧ srtOk t = true ∧ ∀ p xs, H p = none → RPs C H (sortP l) xs → Q (.ref p) (upd H p (.lst xs))) := by
  intro pins s σ H vs us Q I r h
  obtain ⟨v, t, l, rfl, vp, ht, hok, q⟩ := h
  obtain ⟨u, rfl, ru⟩ := vals1 r
  obtain ⟨a, xs, rfl, e3, rr⟩ := vp
  cases ru
  obtain ⟨its, rv, pl, hz⟩ := I.list (.inl e3)
  have hd := of_decide_eq_true hok
  have er := each_reads I hK rr rv ht
  have er2 : PySem.W.EachIs (fun v d => ∃ as, Reads (PySem.W.sortingHeap (PySem.W.copyHeap s.heap its) (s.heap.objs.size + 1) its) v d as) its (l.map P.dat) :=
    PySem.W.each_map (R := fun v d => ∃ as, Reads (PySem.W.sortingHeap (PySem.W.copyHeap s.heap its) (s.heap.objs.size + 1) its) v d as) P.dat (er.mono fun _ _ ⟨as, r⟩ => ⟨as, PyProof.Rows.Reads.keeps (fun _ _ => PySem.W.sorting_copy_old) r⟩)
  have hlen := rv.length
  refine PySem.W.sorted_vals pl.isList (sorts_at (s := { s with heap := PySem.W.sortingHeap (PySem.W.copyHeap s.heap its) (s.heap.objs.size + 1) its }) er2 ht (by show X.A.units + 1 + 1 + _ < _; omega)) (by omega) ?_
  have hal : PySem.W.AllAlike (l.map P.dat) := by
    intro d hd d' hd'
    obtain ⟨x, hx, rfl⟩ := List.mem_map.mp hd
    obtain ⟨y, hy, rfl⟩ := List.mem_map.mp hd'
    obtain ⟨d1, e1, _⟩ := has_py t x (all_of ht x hx)
    obtain ⟨d2, e2, _⟩ := has_py t y (all_of ht y hy)
    rw [dat_of e1, dat_of e2]
    exact has_alike t x y d1 d2 (all_of ht x hx) (all_of ht y hy) e1 e2
  have out := PySem.W.sortVals_data (h' := PySem.W.sortingHeap (PySem.W.copyHeap s.heap its) (s.heap.objs.size + 1) its) (R := fun v b => ∃ z, RelV z v ∧ RP C H b z) (enc := P.dat) false (each_rp rr rv) (er.mono fun _ _ ⟨as, r⟩ => ⟨as, PyProof.Rows.Reads.keeps (fun _ _ => PySem.W.sorting_copy_old) r⟩) hal
  rw [sortP_eq ht] at out
  generalize hos : PySem.W.sortVals (PySem.W.dataKind (PySem.W.sortingHeap (PySem.W.copyHeap s.heap its) (s.heap.objs.size + 1) its) (l.map P.dat)) false its its = os at out ⊢
  have hol : os.length = its.length := by rw [← hos]; exact PySem.W.sortVals_length false rfl
  obtain ⟨zs, rz, rp⟩ := rp_each out
  have hz2 : zs.length ≤ sizeLine := by rw [rz.length, hol]; omega
  obtain ⟨ep, hat⟩ := sortedAll_at s.heap its os.toArray
  have hp : H (s.heap.objs.size + 1) = none := I.hok.fresh (Nat.le_succ _)
  exact ⟨.ref (s.heap.objs.size + 1), _, I.laid (t' := s.toks) (o := .lst zs) (h' := sortedAll s.heap its os.toArray) (fun b o e => sortedAll_old e) (Nat.le_succ _) ⟨hz2, os, ep, rz, hat⟩, rfl, q _ zs hp rp⟩
/-- min(l), max(l) -/
theorem first_min {t : Ty} (mn : Bool) : ∀ {l : List P} {m : P}, P.has t m = true → P.hasAll t l = true →
    (firstMin mn m l).dat = (l.map P.dat).foldl (fun a y => if (if mn = true then PySem.W.dataLt y a else PySem.W.dataLt a y) = true then y else a) m.dat ∧ (firstMin mn m l = m ∨ firstMin mn m l ∈ l)
  | [], m, hm, h => ⟨rfl, .inl rfl⟩
  | x :: l, m, hm, h => by
    rw [P.hasAll, Bool.and_eq_true] at h
    obtain ⟨d1, e1, _⟩ := has_py t m hm
    obtain ⟨d2, e2, _⟩ := has_py t x h.1
    have q1 := ltb_data x m d2 d1 e2 e1 (has_alike t x m d2 d1 h.1 hm e2 e1)
    have q2 := ltb_data m x d1 d2 e1 e2 (has_alike t m x d1 d2 hm h.1 e1 e2)
    rw [firstMin, List.map_cons, List.foldl_cons, dat_of e2, dat_of e1, q1, q2]
    by_cases hc : (if mn = true then P.ltb x m else P.ltb m x) = true
    · rw [if_pos hc, if_pos hc]
      obtain ⟨a, b⟩ := first_min mn h.1 h.2
      rw [dat_of e2] at a
      exact ⟨a, .inr (b.elim (fun z => by rw [z]; exact List.mem_cons_self) fun z => List.mem_cons_of_mem _ z)⟩
    · rw [if_neg hc, if_neg hc]
      obtain ⟨a, b⟩ := first_min mn hm h.2
      rw [dat_of e1] at a
      exact ⟨a, b.imp id fun z => List.mem_cons_of_mem _ z⟩
end
end Ev

set_option Elab.async false
set_option linter.all false
set_option maxRecDepth 100000
set_option maxHeartbeats 1000000
namespace Ev
open PySem PySem.Spec PyProof.Rows L2

theorem dat_inj {t : Ty} {x y : P} (h : P.has t x = true) (h' : P.has t y = true) (e : x.dat = y.dat) : x = y := by
  obtain ⟨d1, e1, _⟩ := has_py t x h
  obtain ⟨d2, e2, _⟩ := has_py t y h'
  rw [dat_of e1, dat_of e2] at e
  subst e
  have q1 := alike_beq x y d1 d1 e1 e2 (has_alike t x y _ _ h h' e1 e2)
  have q2 := alike_beq x x d1 d1 e1 e1 (has_alike t x x _ _ h h e1 e1)
  exact P.eq_of_beq x y (by rw [← q1, q2]; exact P.beq_self x)
section
variable {C : Gc} {M : Md} {F : Fr} {cf : Cf} {k : Nat} {W : XW} {X : Cx}
theorem depth_all : ∀ {t : Ty} {l : List P}, P.hasAll t l = true → PyData.depthAll (l.map P.dat) ≤ t.deep
  | t, l, h => by
    obtain ⟨ds, e, d⟩ := hasAll_py t l h
    rw [← pys_dat e]; exact d
theorem fold_mem {α : Type} (f : α → α → Bool) : ∀ (l : List α) (m : α), l.foldl (fun a y => if f a y = true then y else a) m = m ∨ l.foldl (fun a y => if f a y = true then y else a) m ∈ l
  | [], m => .inl rfl
  | x :: l, m => by
    rw [List.foldl_cons]
    by_cases h : f m x = true
    · rw [if_pos h]
      rcases fold_mem f l x with e | e
      · rw [e]; exact .inr List.mem_cons_self
      · exact .inr (List.mem_cons_of_mem _ e)
    · rw [if_neg h]
      rcases fold_mem f l m with e | e
      · rw [e]; exact .inl rfl
      · exact .inr (List.mem_cons_of_mem _ e)
theorem cr_mx (mn : Bool) (hK : X.K = C.K) (hc : X.calm = true) (hu : X.A.units + 65 < cLine) : CallR X (.builtin (if mn = true then "min" else "max")) (fun vs H Q => ∃ v t x l, vs = [v] ∧ (VP C H (.lst (x :: l)) v ∨ VP C H (.tup (x :: l)) v) ∧ P.hasAll t (x :: l) = true ∧ srtOk t = true ∧ ∀ z, RP C H (firstMin mn x l) z → Q z H) := by
  intro pins s σ H vs us Q I r h
  obtain ⟨v, t, x, l, rfl, vp, ht, hok, q⟩ := h
  obtain ⟨u, rfl, ru⟩ := vals1 r
  obtain ⟨a, xs, its, rfl, rr, rv, pl⟩ : ∃ a xs its, u = Value.ref a ∧ RPs C H (x :: l) xs ∧ Vals xs its ∧ (s.heap.IsList a its.toArray ∨ s.heap.IsTuple a its.toArray) := by
    rcases vp with vp | vp
    · obtain ⟨a, xs, rfl, e3, rr⟩ := vp
      cases ru
      obtain ⟨its, rv, pl, hz⟩ := I.list (.inl e3)
      exact ⟨a, xs, its, rfl, rr, rv, .inl pl.isList⟩
    · obtain ⟨a, xs, rfl, e3, rr⟩ := vp.tup
      cases ru
      obtain ⟨its, rv, pl, hz⟩ := I.tuple (SqT.of e3)
      exact ⟨a, xs, its, rfl, rr, rv, .inr pl⟩
  have hd := of_decide_eq_true hok
  have er := each_reads I hK rr rv ht
  obtain ⟨as, ra⟩ := PySem.W.each_readsAll P.dat er
  have hal : PySem.W.AllAlike ((x :: l).map P.dat) := by
    intro d hd d' hd'
    obtain ⟨x, hx, rfl⟩ := List.mem_map.mp hd
    obtain ⟨y, hy, rfl⟩ := List.mem_map.mp hd'
    obtain ⟨d1, e1, _⟩ := has_py t x (all_of ht x hx)
    obtain ⟨d2, e2, _⟩ := has_py t y (all_of ht y hy)
    rw [dat_of e1, dat_of e2]
    exact has_alike t x y d1 d2 (all_of ht x hx) (all_of ht y hy) e1 e2
  have hal2 : PySem.W.AlikeAll ((x :: l).map P.dat) := by
    refine ⟨hal, fun d hd => ?_⟩
    obtain ⟨x, hx, rfl⟩ := List.mem_map.mp hd
    obtain ⟨d1, e1, _⟩ := has_py t x (all_of ht x hx)
    rw [dat_of e1]
    rcases tup_or t with hn | hn
    · exact (hn x d1 (all_of ht x hx) e1).1
    · obtain ⟨xs, rfl⟩ := hn x d1 (all_of ht x hx) e1
      exact fun z => by cases z
  have hdp := depth_all ht
  have h2 := ht
  rw [P.hasAll, Bool.and_eq_true] at h2
  obtain ⟨hb, hmem⟩ := first_min (t := t) mn h2.1 h2.2
  have hm : firstMin mn x l ∈ x :: l := hmem.elim (fun z => by rw [z]; exact List.mem_cons_self) fun z => List.mem_cons_of_mem _ z
  have fin : ∀ (i : Nat) v h' tk bs, its.toArray[i]? = some v → Reads h' v (firstMin mn x l).dat bs → (∀ b o, s.heap.get? b = some o → h'.get? b = some o) → EP X pins σ Q v { s with heap := h', toks := tk } := by
    intro i v h' tk bs hi rb kp
    have hi' : its[i]? = some v := by simpa using hi
    -- the item at i
    have hlen : (x :: l).length = its.length := by rw [rr.length]; exact rv.length
    have hil : i < (x :: l).length := by rw [hlen]; exact (List.getElem?_eq_some_iff.mp hi').1
    have hy : (x :: l)[i]? = some (x :: l)[i] := List.getElem?_eq_getElem hil
    generalize (x :: l)[i] = y at hy
    obtain ⟨z, hz1, hz2⟩ := rr.get hy
    obtain ⟨w, hw1, hw2⟩ := Vals.get rv hz1
    rw [hi'] at hw1
    obtain rfl := Option.some.inj hw1
    have hym : y ∈ x :: l := List.mem_of_getElem? hy
    obtain ⟨d1, e1, _⟩ := has_py t y (all_of ht y hym)
    obtain ⟨as1, r1⟩ := Dp.reads I d1 z v (by rw [hK]; exact dp_of y z d1 hz2 e1) hw2
    have r1' := PyProof.Rows.Reads.keeps kp r1
    obtain ⟨d2, e2, _⟩ := has_py t (firstMin mn x l) (all_of ht _ hm)
    rw [dat_of e2] at rb
    have := PySem.W.alike_unique d1 d2 v _ _ (has_alike t y _ d1 d2 (all_of ht y hym) (all_of ht _ hm) e1 e2) r1' rb
    have ey : y = firstMin mn x l := dat_inj (all_of ht y hym) (all_of ht _ hm) (by rw [dat_of e1, dat_of e2, this])
    exact ⟨z, H, I.kept (t' := tk) kp, hw2, q z (by rw [← ey]; exact hz2)⟩
  cases mn with
  | true =>
    rcases pl with pl | pl
    · refine PySem.W.min_list_data (x := x.dat) (xs := l.map P.dat) (I.ok.hd hc) pl (by simpa using ra) hal2 (by rw [List.map_cons] at hdp; omega) fun i v h' tk bs hi rb kp => fin i v h' tk bs hi ?_ kp
      rw [hb]; exact rb
    · refine PySem.W.min_tuple_data (x := x.dat) (xs := l.map P.dat) (I.ok.hd hc) pl (by simpa using ra) hal2 (by rw [List.map_cons] at hdp; omega) fun i v h' tk bs hi rb kp => fin i v h' tk bs hi ?_ kp
      rw [hb]; exact rb
  | false =>
    rcases pl with pl | pl
    · refine PySem.W.max_list_data (x := x.dat) (xs := l.map P.dat) (I.ok.hd hc) pl (by simpa using ra) hal2 (by rw [List.map_cons] at hdp; omega) fun i v h' tk bs hi rb kp => fin i v h' tk bs hi ?_ kp
      rw [hb]; exact rb
    · refine PySem.W.max_tuple_data (x := x.dat) (xs := l.map P.dat) (I.ok.hd hc) pl (by simpa using ra) hal2 (by rw [List.map_cons] at hdp; omega) fun i v h' tk bs hi rb kp => fin i v h' tk bs hi ?_ kp
      rw [hb]; exact rb
theorem g_mx {mn : Bool} {t : Ty} {a : E} {e : Expr} {x : Str} {p pos : Pos} (o : XOk C M F cf k W X) (hs : notStar e = true) (hx : x ∈ bltNames) (hn : nmB x = true) (hg : glB F.sc x = true) (hv : bootBuiltins x = some (.builtin (if mn = true then "min" else "max"))) (h1 : PE X e (rdE C W (evE cf a))) : PE X (.Call (.Name x p) [e] [] pos) (rdE C W (evE cf (.mx mn t a))) := by
  obtain ⟨n1, n2, n3⟩ := nmB_of hn
  refine weak (pe_callB (cr_mx mn o.K o.calm o.units) (glB_of o.sc hg) (o.blt x hx) hv (pa_cons h1 pa_nil (star_cons hs)) n3 n1 (star_cons hs) rfl) fun σ H Q ⟨μ, st, r, w, hr, h⟩ => ?_
  rw [evE] at h
  refine step w hr h fun d st1 μ1 H1 n1 w1 hr1 h1 v rv => ?_
  split at h1
  · rename_i y l ev
    split at h1
    · rename_i hh
      rw [Bool.and_eq_true] at hh
      exact ⟨v, t, y, l, rfl, .inl (view_ok w1 rv ev), hh.1, hh.2, fun z hz => hereD h1 w1 hz⟩
    · exact h1.elim
  · rename_i y l ev
    split at h1
    · rename_i hh
      rw [Bool.and_eq_true] at hh
      exact ⟨v, t, y, l, rfl, .inr (view_ok w1 rv ev), hh.1, hh.2, fun z hz => hereD h1 w1 hz⟩
    · exact h1.elim
  · exact h1.elim
/-! ### lists -/
theorem listL {l : List P} {st : St} {σ : L2.St} {H : Hp} {Q : VK} {μ : List Addr} (w : Wd C H μ st) (h : post C W σ μ H (.ok l st) (okL C Q)) {p : Addr} (hp : H p = none) {xs : List V} (r : RPs C H l xs) : Q (.ref p) (upd H p (.lst xs)) :=
  post.here h w p xs hp r
theorem g_disp {as : Es} {es : List Expr} {pos : Pos} (hl : es.length ≤ 1000) (hl2 : as.len = es.length) (h1 : PA X es (rdA C W (evEs cf as))) : PE X (.List es pos) (rdL C W (evL cf (.disp as))) := by
  refine weak (pe_lst h1) fun σ H Q ⟨μ, st, r, w, hr, h⟩ => ?_
  rw [evL] at h
  refine ⟨μ, st, r, w, hr, ?_⟩
  cases e : evEs cf as r st with
  | bad => rw [e] at h; exact h
  | exc c fs st1 => rw [e] at h; exact h
  | ok ds st1 =>
    rw [e] at h
    intro μ1 H1 n1 w1 vs rvs
    have h : post C W σ μ H (match perss ds with | some xs => R.ok xs st1 | none => .bad) (okL C Q) := h
    split at h
    · rename_i xs q
      have hz := sizeLine_eq
      have l := evEs_len e
      have l2 := Paired.length rvs
      exact ⟨by omega, fun p hp => listL w1 (h.nx n1) hp (perss_rp rvs q)⟩
    · exact h.elim
/-- list + list -/
theorem rd_lst {pins : List (Addr × Obj)} {σ : L2.St} {H : Hp} {s : Shared} {a : Addr} {xs : List V} (I : Inv X pins σ H s) (h : Rd H a (.lst xs)) : xs.length ≤ sizeLine ∧ ∃ (its : List Value) (n : Nat), Vals xs its ∧ s.heap.get? a = some { cls := .type "list", data := .seq its.toArray n } := h.ok I.hok
theorem op_catR : OpR X (binaryOp .Add) (fun x y H Q => ∃ l b xs zs, x = .ref l ∧ y = .ref b ∧ Rd H l (.lst xs) ∧ Rd H b (.lst zs) ∧ xs.length + zs.length ≤ sizeLine ∧ ∀ p, H p = none → Q (.ref p) (upd H p (.lst (xs ++ zs)))) := by
  intro pins s σ H x y v u Q I rx ry h
  obtain ⟨l, b, xs, zs, rfl, rfl, hH, hB, hz, q⟩ := h
  cases rx
  cases ry
  obtain ⟨z, its, n, r, e⟩ := rd_lst I hH
  obtain ⟨z2, its2, n2, r2, e2⟩ := rd_lst I hB
  have hl := r.length
  have hl2 := r2.length
  refine PySem.P.add_list e e2 ?_ (by rw [List.size_toArray, List.size_toArray]; omega)
  have ea : its.toArray ++ its2.toArray = (its ++ its2).toArray := by simp
  rw [ea]
  exact ⟨.ref _, _, I.lnew (t' := s.toks) (r.append r2) (by rw [List.length_append]; omega), rfl, q _ I.fresh⟩
theorem op_repR : OpR X (binaryOp .Mult) (fun x y H Q => ∃ l k xs, x = .ref l ∧ y = .int k ∧ Rd H l (.lst xs) ∧ -(2 ^ 63) ≤ k ∧ k < 2 ^ 63 ∧ xs.length * k.toNat ≤ sizeLine ∧ ∀ p, H p = none → Q (.ref p) (upd H p (.lst (List.replicate k.toNat xs).flatten))) := by
  intro pins s σ H x y v u Q I rx ry h
  obtain ⟨l, k, xs, rfl, rfl, hH, h1, h2, hz, q⟩ := h
  cases rx
  obtain ⟨t, rfl⟩ := ry
  obtain ⟨z, its, n, r, e⟩ := rd_lst I hH
  have hl := r.length
  have hlen : its.toArray.size * k.toNat ≤ sizeLine := by rw [List.size_toArray, ← hl]; exact hz
  have hcap : ¬ its.toArray.size * k.toNat > (2 ^ 63 - 1) / 8 := by
    have : (sizeLine : Nat) ≤ (2 ^ 63 - 1) / 8 := by decide
    omega
  have hfit : ¬ (!Builtin.List.listFitsIndex k) = true := by
    rw [fitsIndex_both h1 h2]
    exact Bool.false_ne_true
  have hlong : ¬ Builtin.List.listTooLong (its.toArray.size * k.toNat) = true := by
    rw [notLongL hlen]
    exact Bool.false_ne_true
  have hnew : List.foldl (fun x1 x2 => x1 ++ x2) #[] (List.replicate (if its.toArray.isEmpty = true then 0 else k.toNat) its.toArray) = (List.replicate k.toNat its).flatten.toArray := by
    have f0 : ∀ m : Nat, List.foldl (fun x1 x2 => x1 ++ x2) #[] (List.replicate m its.toArray) = (List.replicate m its).flatten.toArray := fun m => by
      have := foldl_rep its m []
      rw [List.nil_append] at this
      exact this
    rw [f0]
    cases its with
    | nil => simp
    | cons a r' => rw [if_neg (by simp)]
  refine wpAny_binaryOp_repeat_ref (T := "list") (U := "int") (by decide) ⟨_, e, rfl⟩ (fun s' => typeIs_int s' k t) noFill_list_mul F.fills_int_mul F.slot_int_rmul repeat_list F.slot_int_index.lookup
    (call_meets F.slot_int_rmul (typeIs_int s k t) F.entry_int_rmul (F.args_int_rmul_2 _ _) (int___rmul___int_list k t l its.toArray n)
      ⟨e, rfl, ⟨_, e, rfl⟩, call_meets F.slot_list_mul ⟨_, e, rfl⟩ F.entry_list_mul (F.args_list_mul_2 _ _) (AutoListH.list___mul___list_int_3 l its.toArray n k t hfit hcap hlong) ⟨e, ?_⟩⟩)
  rw [hnew]
  exact ⟨.ref _, _, I.lnew (t' := s.toks) (r.rep k.toNat) (by rw [PyProof.Rows.lm_len_rep_flat, Nat.mul_comm]; exact hz), rfl, q _ I.fresh⟩
theorem g_cat {a b : E} {e e' : Expr} {pos : Pos} (h1 : PE X e (rdE C W (evE cf a))) (h2 : PE X e' (rdE C W (evE cf b))) : PE X (.BinOp e .Add e' pos) (rdL C W (evL cf (.cat a b))) := by
  refine weak (pe_op op_catR h1 h2) fun σ H Q ⟨μ, st, r, w, hr, h⟩ => ?_
  rw [evL] at h
  refine step w hr h fun d st1 μ1 H1 n1 w1 hr1 h1 v rv => ?_
  refine step w1 hr1 h1 fun d' st2 μ2 H2 n2 w2 hr2 h2 v' rv' => ?_
  split at h2
  · rename_i l m e1 e2
    split at h2
    · rename_i hz
      have hz := of_decide_eq_true hz
      obtain ⟨a, xs, rfl, a1, a2⟩ := view_ok w2 (rv.nx n2) e1
      obtain ⟨b, ys, rfl, b1, b2⟩ := view_ok w2 rv' e2
      exact ⟨a, b, xs, ys, rfl, rfl, a1, b1, by rw [← a2.length, ← b2.length, ← big_line]; exact hz, fun p hp => listL w2 h2 hp (a2.append b2)⟩
    · exact h2.elim
  · exact h2.elim
theorem g_rep {a b : E} {e e' : Expr} {pos : Pos} (h1 : PE X e (rdE C W (evE cf a))) (h2 : PE X e' (rdE C W (evE cf b))) : PE X (.BinOp e .Mult e' pos) (rdL C W (evL cf (.rep a b))) := by
  refine weak (pe_op op_repR h1 h2) fun σ H Q ⟨μ, st, r, w, hr, h⟩ => ?_
  rw [evL] at h
  refine step w hr h fun d st1 μ1 H1 n1 w1 hr1 h1 v rv => ?_
  refine step w1 hr1 h1 fun d' st2 μ2 H2 n2 w2 hr2 h2 v' rv' => ?_
  split at h2
  · rename_i l k e1
    split at h2
    · rename_i hz
      simp only [Bool.and_eq_true, decide_eq_true_eq] at hz
      obtain ⟨a, xs, rfl, a1, a2⟩ := view_ok w2 (rv.nx n2) e1
      have hl := a2.length
      have hs := sizeLine_eq
      refine ⟨a, k, xs, rfl, RP.int_iff.mp (show RP C H2 (.int k) v' from rv'), a1, by omega, by omega, ?_, fun p hp => listL w2 h2 hp (rep_rps a2 _)⟩
      have : xs.length * k.toNat ≤ 1000 * 1000 := Nat.mul_le_mul (by omega) (by omega)
      omega
    · exact h2.elim
  · exact h2.elim
end
end Ev

set_option Elab.async false
set_option linter.all false
set_option maxRecDepth 100000
set_option maxHeartbeats 1000000
namespace Ev
open PySem PySem.Spec PyProof.Rows L2

section
variable {C : Gc} {M : Md} {F : Fr} {cf : Cf} {k : Nat} {W : XW} {X : Cx} {pins : List (Addr × Obj)} {σ : L2.St} {H : Hp} {s : Shared}
theorem keyLen {es : Array DictEntry} {kV : List V} (h : Vals kV (es.toList.map (·.key))) (z : es.size ≤ sizeLine) : kV.length ≤ sizeLine := by
  have l := h.length
  simp at l
  omega
structure RawD (C : Gc) (H : Hp) (h : Heap) (a : Addr) (ks vs : List P) (o : Obj) (es : Array DictEntry) (ep : Nat) (kV vV : List V) : Prop where
  get : h.get? a = some o
  ex : o.ExactDict
  dat : o.data = .dict es ep
  nsys : (a == sysModules) = false
  size : es.size ≤ sizeLine
  kv : Vals kV (es.toList.map (·.key))
  kr : RPs C H ks kV
  vv : Vals vV (es.toList.map (·.val))
  vr : RPs C H vs vV
theorem pairs_raw {P : Program} {w : World} : ∀ {es : List DictEntry} {vs : List (Key × Value)} {kvs : List (Key × V)} {ks ws : List Ev.P}, Pairs (mixKind P w) es vs → KV kvs vs → Paired RK ks (kvs.map (·.1)) → RPs C H ws (kvs.map (·.2)) →
    Vals (kvs.map fun p => kV p.1) (es.map (·.key)) ∧ RPs C H ks (kvs.map fun p => kV p.1) ∧ Vals (kvs.map (·.2)) (es.map (·.val))
  | [], _, kvs, ks, ws, p, r, e, _ => by
    cases p
    cases r
    cases e
    exact ⟨.nil, .nil, .nil⟩
  | en :: es, _, kvs, ks, ws, p, r, e, rv => by
    cases p with
    | cons p1 p2 p3 =>
      cases r with
      | @cons q _ kvs _ r1 r2 =>
        rw [List.map_cons] at e rv
        cases e with
        | @cons x _ ks _ e1 e2 =>
          obtain ⟨y, l, rfl, v1, v2⟩ : ∃ y l, ws = y :: l ∧ RP C H y q.2 ∧ RPs C H l (kvs.map (·.2)) := by
            cases ws with
            | nil => exact absurd rv.length (by simp)
            | cons y l =>
              obtain ⟨v', w', e', h1, h2⟩ := rv.of_cons
              obtain ⟨rfl, rfl⟩ := List.cons.inj e'
              exact ⟨y, l, rfl, h1, h2⟩
          obtain ⟨a1, a2, a3⟩ := pairs_raw p3 r2 e2 v2
          refine ⟨.cons ?_ a1, .cons ?_ a2, .cons ?_ a3⟩
          · have : keyIs q.1 en.key = true := by rw [r1.1]; exact p1
            exact keyIs_rel this
          · have hk := e1.key
            cases x with
            | int i =>
              show RP C H (.int i) (kV q.1)
              rw [← Option.some.inj hk]; exact RP.int_iff.mpr rfl
            | str i =>
              show RP C H (.str i) (kV q.1)
              rw [← Option.some.inj hk]; exact RP.str_iff.mpr rfl
            | _ => cases hk
          · show RelV q.2 en.val
            rw [p2]; exact r1.2
theorem raw_of (I : Inv X pins σ H s) {a : Addr} {u : HO} {ks vs : List P} (hd : Rd H a u) (r : RDc C H a ks vs u) : ∃ o es ep kV vV, RawD C H s.heap a ks vs o es ep kV vV := by
  rcases r with ⟨kvs, rfl, e1, e2⟩ | ⟨xs, ws, _, rfl, h1, h2, h3, h4, h5, h6, h7, h8⟩
  · obtain ⟨z, hs, vs', rel, o, es, ep, q1, q2, q3, q4, q5, q6⟩ := dk_rd I.hok hd
    obtain ⟨a1, a2, a3⟩ := pairs_raw q5 rel e1 e2
    have l1 := q5.length
    have l2 := Paired.length rel
    exact ⟨o, es, ep, _, _, q1, q2, q3, hs, by rw [← Array.length_toList, l1, ← l2]; exact z, a1, a2, a3, e2⟩
  · obtain ⟨o, es, ep, q1, q2, q3, q4⟩ := dx_rd I hd
    refine ⟨o, es, ep, _, ws, q1, q2, q3, h2, by rw [← Array.length_toList, q4, List.length_map]; exact h1, ?_, h7, ?_, h8⟩
    · rw [q4]
      have go : ∀ l : List (NestedKey × Addr × Value), Vals (l.map fun x => V.ref x.2.1) ((l.map (entryOfKey (nestedKind C.P C.w))).map (·.key)) := fun l => by
        induction l with
        | nil => exact .nil
        | cons x l ih => exact .cons rfl ih
      exact go xs
    · rw [q4, List.map_map]
      exact h4
/-- the items that were collected -/
theorem items_keys {es : Array DictEntry} {acc : Array Value} (h : ItemsOf (fun i v => ∃ en : DictEntry, es[i]? = some en ∧ v = en.key) acc es.size) : acc.toList = es.toList.map (·.key) := by
  apply List.ext_getElem?
  intro j
  rw [List.getElem?_map]
  cases hj : acc.toList[j]? with
  | none =>
    have h1 := List.getElem?_eq_none_iff.mp hj
    rw [Array.length_toList, h.1] at h1
    rw [List.getElem?_eq_none (by rw [Array.length_toList]; exact h1)]
    rfl
  | some v =>
    obtain ⟨en, hen, hv⟩ := h.2 j v (by rw [← Array.getElem?_toList]; exact hj)
    rw [Array.getElem?_toList, hen, hv]
    rfl
/-- sorted(d) -/
theorem cr_sortedM (hK : X.K = C.K) (hc : X.calm = true) (hu : X.A.units + 65 < cLine) : CallR X (.builtin "sorted") (fun vs H Q => ∃ v t ks ws, vs = [v] ∧ VP C H (.dct ks ws) v ∧ P.hasAll t ks = true ∧ srtOk t = true ∧ ∀ p xs, H p = none → RPs C H (sortP ks) xs → Q (.ref p) (upd H p (.lst xs))) := by
  intro pins s σ H vs us Q I r h
  obtain ⟨v, t, l, ws, rfl, vp, ht, hok, q⟩ := h
  obtain ⟨u, rfl, ru⟩ := vals1 r
  obtain ⟨a, uu, rfl, e3, rr⟩ := vp
  cases ru
  obtain ⟨o, es, ep, kV, vV, D⟩ := raw_of I e3 rr
  have hd := of_decide_eq_true hok
  refine Calls.call_function_entry kind_sorted plain_sorted entry_sorted (args_sorted1 _) ?_
  unfold Builtin.«sorted»
  refine wpAny_bind (m := checkCount "sorted" 1 1 _) (wpAny_pure ?_)
  refine wpAny_bind (PySem.W.kdu_collect (A := X.A.in1) (kdl_raw D.nsys D.ex D.dat) (I.ok.hd hc) D.get D.size fun h' tk acc hk hacc => ?_)
  rw [items_keys hacc]
  have rv := D.kv
  generalize es.toList.map (·.key) = its at rv
  have I1 : Inv X pins σ H { s with heap := h', toks := tk } := I.kept hk
  have hlen := rv.length
  have hkl := D.kr.length
  have hz : kV.length ≤ sizeLine := keyLen D.kv D.size
  refine wpAny_bind (wpAny_newList ?_ (by omega))
  have hoL : (h'.push (seqObj "list" its.toArray 0)).get? h'.objs.size = some (seqObj "list" its.toArray 0) := Heap.get?_push_size _ rfl
  show wpAny _ _ _ _ _ { s with heap := h'.push (seqObj "list" its.toArray 0), toks := tk }
  have I2 : Inv X pins σ H { s with heap := h'.push (seqObj "list" its.toArray 0), toks := tk } := I1.kept (t' := tk) fun b o e => Heap.get?_push_of_some _ e
  have keepS : ∀ b o, s.heap.get? b = some o → (PySem.W.sortingHeap (h'.push (seqObj "list" its.toArray 0)) h'.objs.size its).get? b = some o := fun b o e =>
    PySem.W.sortingHeap_old (Nat.ne_of_lt (Heap.lt_size (hk b o e))) (Heap.get?_push_of_some _ (hk b o e))
  have er := each_reads I hK D.kr rv ht
  have er1 := er.mono (R' := fun v d => ∃ as, Reads (PySem.W.sortingHeap (h'.push (seqObj "list" its.toArray 0)) h'.objs.size its) v (P.dat d) as) fun _ _ ⟨as, r⟩ => ⟨as, PyProof.Rows.Reads.keeps (fun b o e => keepS b o e) r⟩
  have er2 : PySem.W.EachIs (fun v d => ∃ as, Reads (PySem.W.sortingHeap (h'.push (seqObj "list" its.toArray 0)) h'.objs.size its) v d as) its (l.map P.dat) := PySem.W.each_map (R := fun v d => ∃ as, Reads (PySem.W.sortingHeap (h'.push (seqObj "list" its.toArray 0)) h'.objs.size its) v d as) P.dat er1
  have hal : PySem.W.AllAlike (l.map P.dat) := by
    intro d hd d' hd'
    obtain ⟨x, hx, rfl⟩ := List.mem_map.mp hd
    obtain ⟨y, hy, rfl⟩ := List.mem_map.mp hd'
    obtain ⟨d1, e1, _⟩ := has_py t x (all_of ht x hx)
    obtain ⟨d2, e2, _⟩ := has_py t y (all_of ht y hy)
    rw [dat_of e1, dat_of e2]
    exact has_alike t x y d1 d2 (all_of ht x hx) (all_of ht y hy) e1 e2
  have out := PySem.W.sortVals_data (h' := PySem.W.sortingHeap (h'.push (seqObj "list" its.toArray 0)) h'.objs.size its) (R := fun v b => ∃ z, RelV z v ∧ RP C H b z) (enc := P.dat) false (each_rp D.kr rv) er1 hal
  rw [sortP_eq ht] at out
  refine wpAny_bind (wpAny_holding (wpAny_call_entry slot_list_sort ⟨_, hoL, rfl⟩ entry_list_sort
    (PySem.W.list_sort_vals (s := { s with heap := h'.push (seqObj "list" its.toArray 0), toks := tk }) hoL (sorts_at (s := { s with heap := PySem.W.sortingHeap (h'.push (seqObj "list" its.toArray 0)) h'.objs.size its, toks := tk }) er2 ht (by show X.A.units + 1 + 1 + _ < _; omega)) (by omega) ⟨_, rfl, ?_⟩) (args_list_sort _)))
  show wpAny _ _ _ _ _ { s with heap := sortedHeap (h'.push (seqObj "list" its.toArray 0)) h'.objs.size its (PySem.W.sortVals (PySem.W.dataKind (PySem.W.sortingHeap (h'.push (seqObj "list" its.toArray 0)) h'.objs.size its) (l.map P.dat)) false its its).toArray, toks := tk }
  generalize hos : PySem.W.sortVals (PySem.W.dataKind (PySem.W.sortingHeap (h'.push (seqObj "list" its.toArray 0)) h'.objs.size its) (l.map P.dat)) false its its = os at out ⊢
  have hol : os.length = its.length := by rw [← hos]; exact PySem.W.sortVals_length false rfl
  obtain ⟨zs, rz, rp⟩ := rp_each out
  have hz2 : zs.length ≤ sizeLine := by rw [rz.length, hol]; omega
  obtain ⟨e', he'⟩ := sortedHeap_at (vs := its) (out := os.toArray) hoL
  refine wpAny_pure ⟨_, rfl, .ref h'.objs.size, upd H h'.objs.size (.lst zs), I1.laid (t' := tk) (fun b u e => ?_) (Nat.le_refl _) ⟨hz2, os, e', rz, he'⟩, rfl, q _ zs (I1.hok.fresh (Nat.le_refl _)) rp⟩
  have hb : b < h'.objs.size := Heap.lt_size e
  rw [sortedHeap_old (Nat.ne_of_lt hb) (by rw [size_push']; exact Nat.lt_succ_of_lt hb)]
  exact Heap.get?_push_of_some _ e
/-- list(d) -/
theorem cr_listM (hc : X.calm = true) : CallR X (.type "list") (fun vs H Q => ∃ v ks ws, vs = [v] ∧ VP C H (.dct ks ws) v ∧ ∀ p xs, H p = none → RPs C H ks xs → Q (.ref p) (upd H p (.lst xs))) := by
  intro pins s σ H vs us Q I r h
  obtain ⟨v, l, ws, rfl, vp, q⟩ := h
  obtain ⟨u, rfl, ru⟩ := vals1 r
  obtain ⟨a, uu, rfl, e3, rr⟩ := vp
  cases ru
  obtain ⟨o, es, ep, kV, vV, D⟩ := raw_of I e3 rr
  refine PySem.W.kdl_call (kdl_raw D.nsys D.ex D.dat) (I.ok.hd hc) D.get D.size fun h' tk acc' c' kp e it => ?_
  have ea := items_keys it
  have hz : kV.length ≤ sizeLine := keyLen D.kv D.size
  exact ⟨.ref s.heap.objs.size, _, I.laid (t' := tk) (o := .lst kV) kp (Nat.le_refl _) ⟨hz, acc'.toList, c', by rw [ea]; exact D.kv, by rw [Array.toArray_toList]; exact e⟩, rfl, q _ _ (I.hok.fresh (Nat.le_refl _)) D.kr⟩
theorem g_sorted {t : Ty} {a : E} {e : Expr} {p pos : Pos} (o : XOk C M F cf k W X) (hs : notStar e = true) (hg : glB F.sc "sorted" = true) (h1 : PE X e (rdE C W (evE cf a))) : PE X (.Call (.Name "sorted" p) [e] [] pos) (rdL C W (evL cf (.sorted t a))) := by
  refine weak (pe_callB ((cr_sorted (C := C) o.K o.units).or (cr_sortedM (C := C) o.K o.calm o.units)) (glB_of o.sc hg) (o.blt _ (by decide +kernel)) (by decide +kernel) (pa_cons h1 pa_nil (star_cons hs)) (by decide +kernel) (by decide +kernel) (star_cons hs) rfl) fun σ H Q ⟨μ, st, r, w, hr, h⟩ => ?_
  rw [evL] at h
  refine step w hr h fun d st1 μ1 H1 n1 w1 hr1 h1 v rv => ?_
  split at h1
  · rename_i l ev
    split at h1
    · rename_i hh
      rw [Bool.and_eq_true] at hh
      exact .inl ⟨v, t, l, rfl, view_ok w1 rv ev, hh.1, hh.2, fun p xs hp rx => listL w1 h1 hp rx⟩
    · exact h1.elim
  · rename_i l l2 ev
    split at h1
    · rename_i hh
      rw [Bool.and_eq_true] at hh
      exact .inr ⟨v, t, l, l2, rfl, view_ok w1 rv ev, hh.1, hh.2, fun p xs hp rx => listL w1 h1 hp rx⟩
    · exact h1.elim
  · exact h1.elim
theorem g_ofE {a : E} {e : Expr} {p pos : Pos} (o : XOk C M F cf k W X) (hs : notStar e = true) (hg : glB F.sc "list" = true) (h1 : PE X e (rdE C W (evE cf a))) : PE X (.Call (.Name "list" p) [e] [] pos) (rdL C W (evL cf (.ofE a))) := by
  refine weak (pe_callTy (call_list_of.or (cr_listM (C := C) o.calm)) (glB_of o.sc hg) (o.blt _ (by decide +kernel)) (by decide +kernel) (pa_cons h1 pa_nil (star_cons hs)) (by decide +kernel) (by decide +kernel) (star_cons hs) rfl) fun σ H Q ⟨μ, st, r, w, hr, h⟩ => ?_
  rw [evL] at h
  refine step w hr h fun d st1 μ1 H1 n1 w1 hr1 h1 v rv => ?_
  split at h1
  · rename_i l ev
    obtain ⟨a, xs, rfl, e3, rr⟩ := view_ok w1 rv ev
    exact .inl ⟨a, xs, rfl, .inl (.inl e3), fun p hp => listL w1 h1 hp rr⟩
  · rename_i l ev
    obtain ⟨a, xs, rfl, e3, rr⟩ := (view_ok w1 rv ev).tup
    exact .inl ⟨a, xs, rfl, .inr (SqT.of e3), fun p hp => listL w1 h1 hp rr⟩
  · rename_i l l2 ev
    exact .inr ⟨v, l, l2, rfl, view_ok w1 rv ev, fun p xs hp rx => listL w1 h1 hp rx⟩
  · exact h1.elim
end
end Ev

set_option Elab.async false
set_option linter.all false
set_option maxRecDepth 100000
set_option maxHeartbeats 1000000
namespace Ev
open PySem PySem.Spec PyProof.Rows L2

/-- the walk of J gives l, at any later heap -/
def Yields (C : Gc) (J : It) (l : List P) (H : Hp) : Prop := ∀ H', Keep H H' → (∀ i, l.length ≤ i → J.stop i H') ∧ ∀ i x, l[i]? = some x → J.go i H' ∧ ∀ v H2, J.yld i H' v H2 → Same H' H2 ∧ RP C H2 x v
theorem Yields.keep {C : Gc} {J : It} {l : List P} {H H1 : Hp} (h : Yields C J l H) (k : Keep H H1) : Yields C J l H1 := fun H' k' => h H' (k.trans k')
def okI (C : Gc) (R : It → Hp → Prop) : List P → St → List Addr → Hp → Prop := fun l _ _ H => ∀ J, Yields C J l H → R J H
def rdI (C : Gc) (W : XW) (ev : En → St → R (List P)) : TI := fun σ H R => rdG C W ev (okI C R) σ H
theorem weakI {X : Cx} {tg e : Expr} {t t' : TI} (h : PI X tg e t) (f : ∀ σ H R, t' σ H R → t σ H R) : PI X tg e t' := ⟨fun pins s σ H R I q => h.run pins s σ H R I (f σ H R q)⟩
section
variable {C : Gc} {M : Md} {F : Fr} {cf : Cf} {k : Nat} {W : XW} {X : Cx}
theorem yields_list {K : PySem.W.Frag} {H : Hp} {a : Addr} {l : List P} {xs : List V} {o : Obj} (h : H a = some (.frz o (.lst xs))) (r : RPs C H l xs) : Yields C (Itl K a) l H := by
  intro H' k
  have h' : SqL K H' a xs := .inl (.inr ⟨o, k _ _ h trivial⟩)
  have r' := r.keep k
  refine ⟨fun i hi => ⟨xs, h', by rw [← r'.length]; exact hi⟩, fun i x hx => ?_⟩
  obtain ⟨v, h1, h2⟩ := r'.get hx
  refine ⟨⟨xs, v, h', h1⟩, fun v' H2 hy => ?_⟩
  obtain ⟨rfl, hy⟩ := hy
  have := hy xs h'
  rw [h1] at this
  cases this
  exact ⟨Same.refl _, h2⟩
theorem yields_tup {K : PySem.W.Frag} {H : Hp} {a : Addr} {l : List P} {xs : List V} (h : H a = some (.tup xs)) (r : RPs C H l xs) : Yields C (Itt K a) l H := by
  intro H' k
  have h' : SqT K H' a xs := SqT.of (k _ _ h trivial)
  have r' := r.keep k
  refine ⟨fun i hi => ⟨xs, h', by rw [← r'.length]; exact hi⟩, fun i x hx => ?_⟩
  obtain ⟨v, h1, h2⟩ := r'.get hx
  refine ⟨⟨xs, v, h', h1⟩, fun v' H2 hy => ?_⟩
  obtain ⟨rfl, hy⟩ := hy
  have := hy xs h'
  rw [h1] at this
  cases this
  exact ⟨Same.refl _, h2⟩
theorem yields_rng {H : Hp} {lo hi : Int} : Yields C (Itr lo (hi - lo).toNat) (rngP lo hi) H := by
  intro H' k
  refine ⟨fun i hi => ?_, fun i x hx => ?_⟩
  · rw [rngP, List.length_map, List.length_range] at hi; exact hi
  · rw [rngP, List.getElem?_map] at hx
    have hl : i < (hi - lo).toNat := by
      by_cases z : i < (hi - lo).toNat
      · exact z
      · rw [List.getElem?_eq_none (by rw [List.length_range]; omega)] at hx; cases hx
    rw [List.getElem?_range hl] at hx
    cases hx
    refine ⟨hl, fun v H2 hy => ?_⟩
    obtain ⟨rfl, rfl⟩ := hy
    exact ⟨Same.refl _, RP.int_iff.mpr rfl⟩
theorem enumP_get : ∀ {l : List P} {j i : Nat} {x : P}, (enumP j l)[i]? = some x → ∃ a, l[i]? = some a ∧ x = .tup [.int ((j + i : Nat) : Int), a]
  | [], j, i, x, h => by simp [enumP] at h
  | a :: l, j, 0, x, h => by simp [enumP] at h; exact ⟨a, rfl, by rw [← h]; simp⟩
  | a :: l, j, i + 1, x, h => by
    rw [enumP, List.getElem?_cons_succ] at h
    obtain ⟨b, h1, h2⟩ := enumP_get h
    exact ⟨b, by simpa using h1, by rw [h2]; congr 3; omega⟩
theorem enumP_len : ∀ {l : List P} {j : Nat}, (enumP j l).length = l.length
  | [], _ => rfl
  | a :: l, j => by rw [enumP, List.length_cons, List.length_cons, enumP_len]
theorem pairsP_get : ∀ {l m : List P} {i : Nat} {x : P}, (pairsP l m)[i]? = some x → ∃ a b, l[i]? = some a ∧ m[i]? = some b ∧ x = .tup [a, b]
  | [], m, i, x, h => by simp [pairsP] at h
  | a :: l, [], i, x, h => by simp [pairsP] at h
  | a :: l, b :: m, 0, x, h => by simp [pairsP] at h; exact ⟨a, b, rfl, rfl, h.symm⟩
  | a :: l, b :: m, i + 1, x, h => by
    rw [pairsP, List.getElem?_cons_succ] at h
    obtain ⟨c, d, h1, h2, h3⟩ := pairsP_get h
    exact ⟨c, d, by simpa using h1, by simpa using h2, h3⟩
theorem pairsP_len : ∀ {l m : List P}, (pairsP l m).length = min l.length m.length
  | [], m => by simp [pairsP]
  | a :: l, [] => by simp [pairsP]
  | a :: l, b :: m => by rw [pairsP, List.length_cons, List.length_cons, List.length_cons, pairsP_len]; omega
theorem pair_rp {H : Hp} {p : Addr} {a b : P} {v w : V} (hp : H p = none) (h1 : RP C H a v) (h2 : RP C H b w) : RP C (upd H p (.tup [v, w])) (.tup [a, b]) (.ref p) := tupOf hp (.cons h1 (.cons h2 .nil))
theorem yields_enum {K : PySem.W.Frag} {H : Hp} {a : Addr} {l : List P} {xs : List V} {o : Obj} (h : H a = some (.frz o (.lst xs))) (r : RPs C H l xs) : Yields C (Ite K a) (enumP 0 l) H := by
  intro H' k
  have h' : SqL K H' a xs := .inl (.inr ⟨o, k _ _ h trivial⟩)
  have r' := r.keep k
  refine ⟨fun i hi => ⟨xs, h', by rw [enumP_len] at hi; rw [← r'.length]; exact hi⟩, fun i x hx => ?_⟩
  obtain ⟨y, hy, rfl⟩ := enumP_get hx
  obtain ⟨v, h1, h2⟩ := r'.get hy
  refine ⟨⟨xs, v, h', h1⟩, fun v' H2 hy => ?_⟩
  obtain ⟨T, z, rfl, hT, rfl, hz⟩ := hy
  have := hz xs h'
  rw [h1] at this
  cases this
  refine ⟨Same.new hT, pair_rp hT ?_ h2⟩
  rw [Nat.zero_add]; exact RP.int_iff.mpr rfl
theorem yields_zipL {K : PySem.W.Frag} {H : Hp} {a b : Addr} {l m : List P} {xs ys : List V} {o o' : Obj} (h : H a = some (.frz o (.lst xs))) (r : RPs C H l xs) (g : H b = some (.frz o' (.lst ys))) (q : RPs C H m ys) : Yields C (Itz K a b) (pairsP l m) H := by
  intro H' k
  have h' : SqL K H' a xs := .inl (.inr ⟨o, k _ _ h trivial⟩)
  have g' : SqL K H' b ys := .inl (.inr ⟨o', k _ _ g trivial⟩)
  have r' := r.keep k
  have q' := q.keep k
  refine ⟨fun i hi => ⟨xs, ys, h', g', by rw [pairsP_len] at hi; rw [← r'.length, ← q'.length]; omega⟩, fun i x hx => ?_⟩
  obtain ⟨y, z, hy, hz, rfl⟩ := pairsP_get hx
  obtain ⟨v, h1, h2⟩ := r'.get hy
  obtain ⟨w, g1, g2⟩ := q'.get hz
  refine ⟨⟨xs, ys, v, w, h', g', h1, g1⟩, fun v' H2 hy => ?_⟩
  obtain ⟨T, v1, w1, rfl, hT, rfl, hv, hw⟩ := hy
  have e1 := hv xs h'
  have e2 := hw ys g'
  rw [h1] at e1
  rw [g1] at e2
  cases e1
  cases e2
  exact ⟨Same.new hT, pair_rp hT h2 g2⟩
theorem yields_zipT {K : PySem.W.Frag} {H : Hp} {a b : Addr} {l m : List P} {xs ys : List V} (h : H a = some (.tup xs)) (r : RPs C H l xs) (g : H b = some (.tup ys)) (q : RPs C H m ys) : Yields C (RZ.ItzT K a b) (pairsP l m) H := by
  intro H' k
  have h' : SqT K H' a xs := SqT.of (k _ _ h trivial)
  have g' : SqT K H' b ys := SqT.of (k _ _ g trivial)
  have r' := r.keep k
  have q' := q.keep k
  refine ⟨fun i hi => ⟨xs, ys, h', g', by rw [pairsP_len] at hi; rw [← r'.length, ← q'.length]; omega⟩, fun i x hx => ?_⟩
  obtain ⟨y, z, hy, hz, rfl⟩ := pairsP_get hx
  obtain ⟨v, h1, h2⟩ := r'.get hy
  obtain ⟨w, g1, g2⟩ := q'.get hz
  refine ⟨⟨xs, ys, v, w, h', g', h1, g1⟩, fun v' H2 hy => ?_⟩
  obtain ⟨T, v1, w1, rfl, hT, rfl, hv, hw⟩ := hy
  have e1 := hv xs h'
  have e2 := hw ys g'
  rw [h1] at e1
  rw [g1] at e2
  cases e1
  cases e2
  exact ⟨Same.new hT, pair_rp hT h2 g2⟩
/-- an expression that is walked: a list, a tuple -/
theorem pi_seq {tg l : Expr} {tl : TE} (hl : PE X l tl) : PI X tg l (fun σ H R => tl σ H fun x H1 => ∃ a, x = .ref a ∧ (((∃ xs, SqL X.K H1 a xs) ∧ R (Itl X.K a) H1) ∨ ((∃ xs, SqT X.K H1 a xs) ∧ R (Itt X.K a) H1) ∨ ∃ lo hi, H1 a = some (.rng lo hi) ∧ rngOk lo hi = true ∧ R (Itr lo (hi - lo).toNat) H1)) := by
  refine ⟨fun pins s σ H R I h => ?_⟩
  refine thn (hl.run pins s σ H _ I h) fun v s1 ⟨x, H1, I1, r1, q1⟩ => ?_
  obtain ⟨a, rfl, q1⟩ := q1
  cases r1
  have fp : ∀ b ∈ [s1.heap.objs.size], FpOk X pins H1 b := fun b hb => by
    have e : b = s1.heap.objs.size := by simpa using hb
    subst e
    exact I1.fpOk (Nat.le_refl _) (I1.hok.fresh (Nat.le_refl _))
  rcases q1 with ⟨⟨xs, hq⟩, q⟩ | ⟨⟨xs, hq⟩, q⟩ | ⟨lo, hi, hq, hok, q⟩
  · obtain ⟨its, rv, p, hz⟩ := I1.list hq
    refine wpAny_pyIter_list p.isList ?_
    exact ⟨s1.heap.objs.size, [s1.heap.objs.size], _, _, H1, rfl, I1.kept (t' := s1.toks) fun b o e => Heap.get?_push_of_some _ e, turn_list a _, ⟨_, Heap.get?_push_size _ rfl, rfl, rfl⟩, fp, q⟩
  · obtain ⟨its, rv, p, hz⟩ := I1.tuple hq
    refine wpAny_pyIter_tuple (show s1.heap.IsTuple a its.toArray from p) ?_
    exact ⟨s1.heap.objs.size, [s1.heap.objs.size], _, _, H1, rfl, I1.kept (t' := s1.toks) fun b o e => Heap.get?_push_of_some _ e, turn_tuple a _, ⟨_, Heap.get?_push_size _ rfl, rfl, rfl⟩, fp, q⟩
  · obtain ⟨t, u, v, hr⟩ := I1.hok a _ hq
    have hb := hok
    unfold rngOk at hb
    simp only [Bool.and_eq_true, decide_eq_true_eq] at hb
    refine wpAny_pyIter_range (show IsRange s1.heap a lo hi 1 t u v from hr) (small_one hb.1.1.1.1 hb.1.1.1.2 hb.1.1.2 hb.1.2) ?_
    refine ⟨s1.heap.objs.size, [s1.heap.objs.size], _, _, H1, rfl, I1.kept (t' := s1.toks) fun b o e => Heap.get?_push_of_some _ e, turn_range _ lo (hi - lo).toNat, ?_, fp, q⟩
    have e1 : lo + ((0 : Nat) : Int) * 1 = lo := by simp
    have e2 : (((hi - lo).toNat : Nat) : Int) - ((0 : Nat) : Int) = Builtin.Range.rangeSize lo hi 1 := by rw [rangeSize_one]; split <;> omega
    show IsRangeIter _ _ (lo + ((0 : Nat) : Int) * 1) ((((hi - lo).toNat : Nat) : Int) - ((0 : Nat) : Int)) 1
    rw [e1, e2]
    exact Heap.get?_push_size _ rfl
theorem g_ex {a : E} {tg e : Expr} (h1 : PE X e (rdE C W (evE cf a))) : PI X tg e (rdI C W (evI cf (.ex a))) := by
  refine weakI (pi_seq h1) fun σ H Q ⟨μ, st, r, w, hr, h⟩ => ?_
  rw [evI] at h
  refine step w hr h fun d st1 μ1 H1 n1 w1 hr1 h1 v rv => ?_
  split at h1
  · rename_i x
    have rv : RP C H1 x v := rv
    split at h1
    · rename_i l e
      cases x with
      | tup m =>
        cases e
        obtain ⟨a, xs, rfl, e3, rr⟩ := RP.tup_iff.mp rv
        exact ⟨a, rfl, .inr (.inl ⟨⟨xs, SqT.of e3⟩, post.here h1 w1 _ (yields_tup e3 rr)⟩)⟩
      | lst m =>
        cases e
        obtain ⟨a, xs, rfl, ⟨o, e3⟩, rr⟩ := RP.lst_iff.mp rv
        exact ⟨a, rfl, .inl ⟨⟨xs, .inl (.inr ⟨o, e3⟩)⟩, post.here h1 w1 _ (yields_list e3 rr)⟩⟩
      | rng lo hi =>
        rw [itemsOf] at e
        split at e
        · rename_i hok
          cases e
          obtain ⟨a, rfl, e3⟩ := RP.rng_iff.mp rv
          exact ⟨a, rfl, .inr (.inr ⟨lo, hi, e3, hok, post.here h1 w1 _ yields_rng⟩)⟩
        · cases e
      | _ => cases e
    · exact h1.elim
  · exact h1.elim
theorem rngOk_of {lo hi : Int} (h : rngOk lo hi = true) : -(2 ^ 62) ≤ lo ∧ lo < 2 ^ 62 ∧ -(2 ^ 62) ≤ hi ∧ hi < 2 ^ 62 := by
  unfold rngOk at h
  simp only [Bool.and_eq_true, decide_eq_true_eq] at h
  exact ⟨h.1.1.1.1, h.1.1.1.2, h.1.1.2, h.1.2⟩
theorem g_rng1 (o : XOk C M F cf k W X) {a : E} {tg e : Expr} {p pos : Pos} (hs : notStar e = true) (hg : glB F.sc "range" = true) (h1 : PE X e (rdE C W (evE cf a))) : PI X tg (.Call (.Name "range" p) [e] [] pos) (rdI C W (evI cf (.rng1 a))) := by
  refine weakI (pi_range1 (glB_of o.sc hg) (o.blt _ (by decide +kernel)) (pa_cons h1 pa_nil (star_cons hs)) (star_cons hs)) fun σ H Q ⟨μ, st, r, w, hr, h⟩ => ?_
  rw [evI] at h
  refine step w hr h fun d st1 μ1 H1 n1 w1 hr1 h1 v rv => ?_
  split at h1
  · rename_i n
    have rv : RP C H1 (.int n) v := rv
    split at h1
    · rename_i hok
      obtain ⟨_, _, k3, k4⟩ := rngOk_of hok
      have y := yields_rng (C := C) (lo := 0) (hi := n) (H := H1)
      rw [Int.sub_zero] at y
      exact ⟨n, by rw [RP.int_iff.mp rv], k3, k4, post.here h1 w1 _ y⟩
    · exact h1.elim
  · exact h1.elim
theorem g_rng2 (o : XOk C M F cf k W X) {a b : E} {tg e e' : Expr} {p pos : Pos} (hs : notStar e = true) (hs' : notStar e' = true) (hg : glB F.sc "range" = true) (h1 : PE X e (rdE C W (evE cf a))) (h2 : PE X e' (rdE C W (evE cf b))) : PI X tg (.Call (.Name "range" p) [e, e'] [] pos) (rdI C W (evI cf (.rng2 a b))) := by
  refine weakI (pi_range2 (glB_of o.sc hg) (o.blt _ (by decide +kernel)) (pa_cons h1 (pa_cons h2 pa_nil (star_cons hs')) (star_cons hs)) (by rw [star_cons hs, star_cons hs']; rfl) (star_cons hs')) fun σ H Q ⟨μ, st, r, w, hr, h⟩ => ?_
  rw [evI] at h
  refine step w hr h fun d st1 μ1 H1 n1 w1 hr1 h1 v rv => ?_
  refine step w1 hr1 h1 fun d' st2 μ2 H2 n2 w2 hr2 h2 v' rv' => ?_
  split at h2
  · rename_i i j
    have rv : RP C H2 (.int i) v := rv.nx n2
    have rv' : RP C H2 (.int j) v' := rv'
    split at h2
    · rename_i hok
      exact ⟨i, j, by rw [RP.int_iff.mp rv, RP.int_iff.mp rv'], rngOk_of hok, post.here h2 w2 _ yields_rng⟩
    · exact h2.elim
  · exact h2.elim
theorem g_zip (o : XOk C M F cf k W X) {a b : E} {e e' : Expr} {elts : List Expr} {kk : Nat} {p pos tpos : Pos} (hs : notStar e = true) (hs' : notStar e' = true) (hg : glB F.sc "zip" = true) (h1 : PE X e (rdE C W (evE cf a))) (h2 : PE X e' (rdE C W (evE cf b))) : PI X (.Tuple elts kk tpos) (.Call (.Name "zip" p) [e, e'] [] pos) (rdI C W (evI cf (.zip a b))) := by
  refine weakI (RZ.pi_zipA (glB_of o.sc hg) (o.blt _ (by decide +kernel)) (pa_cons h1 (pa_cons h2 pa_nil (star_cons hs')) (star_cons hs)) (star_cons hs) (star_any (by simp [hs']))) fun σ H Q ⟨μ, st, r, w, hr, h⟩ => ?_
  rw [evI] at h
  refine step w hr h fun d st1 μ1 H1 n1 w1 hr1 h1 v rv => ?_
  refine step w1 hr1 h1 fun d' st2 μ2 H2 n2 w2 hr2 h2 v' rv' => ?_
  split at h2
  · rename_i l m
    have rv : RP C H2 (.lst l) v := rv.nx n2
    have rv' : RP C H2 (.lst m) v' := rv'
    obtain ⟨a, xs, rfl, ⟨o, e3⟩, rr⟩ := RP.lst_iff.mp rv
    obtain ⟨b, ys, rfl, ⟨o', e4⟩, rr'⟩ := RP.lst_iff.mp rv'
    exact ⟨a, b, xs, ys, rfl, .inl ⟨.inl (.inr ⟨o, e3⟩), .inl (.inr ⟨o', e4⟩), post.here h2 w2 _ (yields_zipL e3 rr e4 rr')⟩⟩
  · rename_i l m
    have rv : RP C H2 (.tup l) v := rv.nx n2
    have rv' : RP C H2 (.tup m) v' := rv'
    obtain ⟨a, xs, rfl, e3, rr⟩ := RP.tup_iff.mp rv
    obtain ⟨b, ys, rfl, e4, rr'⟩ := RP.tup_iff.mp rv'
    exact ⟨a, b, xs, ys, rfl, .inr ⟨SqT.of e3, SqT.of e4, post.here h2 w2 _ (yields_zipT e3 rr e4 rr')⟩⟩
  · exact h2.elim
end
end Ev

set_option Elab.async false
set_option linter.all false
set_option maxRecDepth 100000
set_option maxHeartbeats 1000000
namespace Ev
open PySem PySem.Spec PyProof.Rows L2

/-! ### targets -/
mutual
def G.slots : G → List Nat
  | .name i => [i]
  | .tup gs => Gs.slots gs
def Gs.slots : Gs → List Nat
  | .nil => []
  | .cons g gs => G.slots g ++ Gs.slots gs
end
/-- a local or a cell of one's own -/
def locB (F : Fr) (x : Str) : Bool := match F.sc.names.lookup x with
  | some .local => true
  | some .cell => F.fl x
  | _ => false
mutual
def ckG (F : Fr) : G → Expr → Bool
  | .name i, e => match asName e with
    | some x => decide (F.N[i]? = some x) && locB F x
    | none => false
  | .tup gs, e => match asTup e with
    | some es => ckGs F gs es
    | none => false
def ckGs (F : Fr) : Gs → List Expr → Bool
  | .nil, [] => true
  | .cons g gs, e :: es => notStar e && ckG F g e && ckGs F gs es
  | _, _ => false
end
/-- the slots at l may differ -/
def Off (l : List Nat) (σ σ' : L2.St) : Prop := σ'.length = σ.length ∧ ∀ i, i ∉ l → σ'[i]? = σ[i]?
theorem Off.trans {l m : List Nat} {a b c : L2.St} (h : Off l a b) (g : Off m b c) : Off (l ++ m) a c := ⟨g.1.trans h.1, fun i hi => (g.2 i fun z => hi (List.mem_append_right _ z)).trans (h.2 i fun z => hi (List.mem_append_left _ z))⟩
theorem Off.refl (l : List Nat) (a : L2.St) : Off l a a := ⟨rfl, fun _ _ => rfl⟩
theorem Off.set {i : Nat} {v : Option V} {a : L2.St} : Off [i] a (a.set i v) := ⟨List.length_set, fun j hj => List.getElem?_set_ne (fun z => hj (by simp [z]))⟩
def gRd (C : Gc) (tg : G) : TG := fun v σ H Q => ∃ μ x r r1, REn C H μ r σ ∧ RP C H x v ∧ asgG tg x r = some r1 ∧ ∀ σ', REn C H μ r1 σ' → Off tg.slots σ σ' → Q σ' H
def gsRd (C : Gc) (tg : Gs) : TGs := fun vs σ H Q => ∃ μ xs r r1, REn C H μ r σ ∧ RPs C H xs vs ∧ asgGs tg xs r = some r1 ∧ ∀ σ', REn C H μ r1 σ' → Off tg.slots σ σ' → Q σ' H
theorem weakG {X : Cx} {e : Expr} {t t' : TG} (h : PG X e t) (f : ∀ v σ H Q, t' v σ H Q → t v σ H Q) : PG X e t' := ⟨fun pins s σ H v u Q I r q => h.run pins s σ H v u Q I r (f v σ H Q q)⟩
theorem weakGs {X : Cx} {e : List Expr} {t t' : TGs} (h : PGs X e t) (f : ∀ v σ H Q, t' v σ H Q → t v σ H Q) : PGs X e t' := ⟨fun pins s σ H v u Q I r q => h.run pins s σ H v u Q I r (f v σ H Q q)⟩
theorem asg_cons {e : Expr} {es : List Expr} {env : Env} (h : notStar e = true) : (assignEach (e :: es) env).map (·.2) = assign e env :: (assignEach es env).map (·.2) := by
  cases e <;> first | rfl | cases h
theorem asg_len {env : Env} : ∀ {es : List Expr}, es.all notStar = true → (assignEach es env).length = es.length ∧ (assignEach es env).findIdx? (·.1) = none
  | [], _ => ⟨rfl, rfl⟩
  | e :: es, h => by
    rw [List.all_cons, Bool.and_eq_true] at h
    obtain ⟨h1, h2⟩ := asg_len (env := env) h.2
    have e1 : assignEach (e :: es) env = (false, assign e env) :: assignEach es env := by
      have := h.1
      cases e <;> first | rfl | cases this
    rw [e1]
    refine ⟨by rw [List.length_cons, List.length_cons, h1], ?_⟩
    rw [List.findIdx?_cons, h2]
    rfl
theorem ckGs_star {F : Fr} : ∀ {gs : Gs} {es : List Expr}, ckGs F gs es = true → es.all notStar = true
  | .nil, [], _ => rfl
  | .nil, _ :: _, h => by cases h
  | .cons g gs, [], h => by cases h
  | .cons g gs, e :: es, h => by
    rw [ckGs, Bool.and_eq_true, Bool.and_eq_true] at h
    rw [List.all_cons, h.1.1, ckGs_star h.2]; rfl
theorem asgGs_len : ∀ {gs : Gs} {xs : List P} {r r1 : En} {F : Fr} {es : List Expr}, ckGs F gs es = true → asgGs gs xs r = some r1 → xs.length = es.length
  | .nil, [], r, r1, F, [], _, _ => rfl
  | .nil, _ :: _, r, r1, F, es, _, h => by cases h
  | .nil, [], r, r1, F, _ :: _, h, _ => by cases h
  | .cons g gs, [], r, r1, F, es, _, h => by cases h
  | .cons g gs, x :: xs, r, r1, F, [], h, _ => by cases h
  | .cons g gs, x :: xs, r, r1, F, e :: es, h, q => by
    rw [ckGs, Bool.and_eq_true] at h
    rw [asgGs] at q
    split at q
    · rw [List.length_cons, List.length_cons, asgGs_len h.2 q]
    · cases q
section
variable {C : Gc} {M : Md} {F : Fr} {cf : Cf} {k : Nat} {W : XW} {X : Cx}
theorem XOk.loc (o : XOk C M F cf k W X) {x : Str} (h : locB F x = true) : Loc X.env.scope x ∧ (X.fn x = true ∨ X.env.scope.names.lookup x = some .local) := by
  unfold locB at h
  rw [o.sc]
  split at h
  · rename_i e; exact ⟨.inl e, .inr e⟩
  · rename_i e; exact ⟨.inr e, .inl (o.fl x h)⟩
  · cases h
mutual
theorem g_tg (o : XOk C M F cf k W X) : ∀ (tg : G) (e : Expr), ckG F tg e = true → PG X e (gRd C tg)
  | .name i, e, h => by
    rw [ckG] at h
    split at h
    · rename_i x hx
      obtain ⟨p, rfl⟩ := asName_of hx
      rw [Bool.and_eq_true, decide_eq_true_eq] at h
      obtain ⟨l1, l2⟩ := o.loc h.2
      refine weakG (pg_name o.nd (by rw [o.N]; exact h.1) l1 l2) fun v σ H Q ⟨μ, x, r, r1, hr, rx, ha, q⟩ => ?_
      rw [asgG] at ha
      split at ha
      · cases ha
        exact q _ (hr.set (d := .p x) rx) Off.set
      · cases ha
    · cases h
  | .tup gs, e, h => by
    rw [ckG] at h
    split at h
    · rename_i es hx
      obtain ⟨kk, p, rfl⟩ := asTup_of hx
      have hst := ckGs_star h
      refine weakG (pg_tup (n := es.length) o.calm (g_tgs o gs es h) (asg_len hst).1 (asg_len hst).2) fun v σ H Q ⟨μ, x, r, r1, hr, rx, ha, q⟩ => ?_
      cases x with
      | tup l =>
        have ha : asgGs gs l r = some r1 := ha
        obtain ⟨a, xs, rfl, e3, rr⟩ := RP.tup_iff.mp rx
        exact ⟨a, xs, rfl, SqT.of e3, by rw [← rr.length]; exact asgGs_len h ha, μ, l, r, r1, hr, rr, ha, q⟩
      | _ => cases ha
    · cases h
theorem g_tgs (o : XOk C M F cf k W X) : ∀ (tg : Gs) (es : List Expr), ckGs F tg es = true → PGs X es (gsRd C tg)
  | .nil, [], _ => weakGs pgs_nil fun vs σ H Q ⟨μ, xs, r, r1, hr, rx, ha, q⟩ => by
      cases xs with
      | nil =>
        cases ha
        exact ⟨rx.of_nil, q _ hr (Off.refl _ _)⟩
      | cons x xs => cases ha
  | .nil, _ :: _, h => by cases h
  | .cons g gs, [], h => by cases h
  | .cons g gs, e :: es, h => by
    rw [ckGs, Bool.and_eq_true, Bool.and_eq_true] at h
    refine weakGs (pgs_cons (g_tg o g e h.1.2) (g_tgs o gs es h.2) (asg_cons h.1.1)) fun vs σ H Q ⟨μ, xs, r, r1, hr, rx, ha, q⟩ => ?_
    cases xs with
    | nil => cases ha
    | cons x xs =>
      rw [asgGs] at ha
      split at ha
      · rename_i r' e1
        obtain ⟨v, w, rfl, h1, h2⟩ := rx.of_cons
        exact ⟨v, w, rfl, μ, x, r, r', hr, h1, e1, fun σ' hr' o1 => ⟨μ, xs, r', r1, hr', h2, ha, fun σ2 hr2 o2 => q σ2 hr2 (o1.trans o2)⟩⟩
      · cases ha
end
/-! ### a comprehension's block -/
def Fr.blk (F : Fr) (scope : Scope) : Fr := ⟨F.N, relS scope F.sc, fun x => scope.names.lookup x == some .cell, F.lam⟩
/-- nothing is raised -/
def WF : XW := fun _ _ _ _ _ _ => False
theorem XOk.blk (o : XOk C M F cf k W X) {scope : Scope} (s : Shared) (H : Hp) (c : Addr) (cl : List (Str × Addr)) (fp : List Addr) : XOk C M (F.blk scope) cf k WF (X.blk s H scope (compEnvC scope cl c X.env) fp) where
  prog := o.prog
  w := o.w
  K := o.K
  calm := o.calm
  N := o.N
  nd := o.nd
  sc := by show relabel scope X.env = relS scope F.sc; rw [← o.sc]; rfl
  fl := fun _ h => h
  room := o.room
  blt := o.blt
  fns := o.fns
  fok := o.fok
  gcs := o.gcs
  pass := fun σ pins H s e s' I ⟨a, B, H', cls, d, _, _, _, _, _, _, _, c, fs, st, μ, A, _, _, _, _, w⟩ => w.elim
  lam := o.lam
  ctc := o.ctc
theorem wipe_off {vs : List Nat} {σ σ2 : L2.St} {l : List Nat} (hl : ∀ i ∈ l, i ∈ vs) (h : Off l (L2.wipe σ vs) σ2) : L2.wipe σ2 vs = L2.wipe σ vs := by
  have get : ∀ (vs : List Nat) (σ : L2.St) (i : Nat), (L2.wipe σ vs)[i]? = if i ∈ vs then (if i < σ.length then some none else none) else σ[i]? := by
    intro vs
    induction vs with
    | nil => intro σ i; simp [L2.wipe]
    | cons v vs ih =>
      intro σ i
      show ((L2.wipe σ vs).set v none)[i]? = _
      by_cases hv : v = i
      · subst hv
        rw [if_pos List.mem_cons_self]
        by_cases hl : v < σ.length
        · rw [List.getElem?_set_self (by rw [wipe_length]; exact hl), if_pos hl]
        · rw [List.getElem?_eq_none (by rw [List.length_set, wipe_length]; omega), if_neg hl]
      · rw [List.getElem?_set_ne hv, ih]
        by_cases hm : i ∈ vs
        · rw [if_pos hm, if_pos (List.mem_cons_of_mem _ hm)]
        · rw [if_neg hm, if_neg (by simp only [List.mem_cons, not_or]; exact ⟨fun z => hv z.symm, hm⟩)]
  have ln : σ2.length = σ.length := by rw [h.1, wipe_length]
  apply List.ext_getElem?
  intro i
  rw [get vs σ2 i, get vs σ i, ln]
  by_cases hm : i ∈ vs
  · rw [if_pos hm, if_pos hm]
  · rw [if_neg hm, if_neg hm, h.2 i (fun z => hm (hl i z)), get vs σ i, if_neg hm]
end
end Ev

set_option Elab.async false
set_option linter.all false
set_option maxRecDepth 100000
set_option maxHeartbeats 1000000
namespace Ev
open PySem PySem.Spec PyProof.Rows L2

theorem bind_assoc {α β γ : Type} (a : R α) (f : α → St → R β) (g : β → St → R γ) : (a.bind f).bind g = a.bind fun x s => (f x s).bind g := by
  cases a <;> rfl
/-- never an exception -/
def NoX {α : Type} (r : R α) : Prop := ∀ c fs s, r ≠ .exc c fs s
theorem nox_no {α : Type} (r : R α) : NoX (R.noexc r) := fun c fs s h => by cases r <;> cases h
theorem NoX.bind {α β : Type} {r : R α} {f : α → St → R β} (h : NoX r) (g : ∀ a s, NoX (f a s)) : NoX (r.bind f) := fun c fs s e => by
  cases r with
  | ok a s1 => exact g a s1 c fs s e
  | exc c' fs' s1 => exact h c' fs' s1 rfl
  | bad => cases e
theorem NoX.ok {α : Type} {a : α} {s : St} : NoX (.ok a s : R α) := fun _ _ _ h => by cases h
theorem NoX.bad {α : Type} : NoX (.bad : R α) := fun _ _ _ h => by cases h
theorem compGo_nox {f : P → St → R (List P)} (hf : ∀ x s, NoX (f x s)) : ∀ (l : List P) (s : St), NoX (compGo f l s)
  | [], s => .ok
  | x :: l, s => by
    rw [compGo]
    exact (hf x s).bind fun o s1 => (compGo_nox hf l s1).bind fun m s2 => .ok
/-! ### the object that is being made -/
def del (H : Hp) (D : Addr) : Hp := fun b => if b = D then none else H b
theorem del_same {H : Hp} {D : Addr} : del H D D = none := by unfold del; rw [if_pos rfl]
theorem del_ne {H : Hp} {D b : Addr} (h : b ≠ D) : del H D b = H b := by unfold del; rw [if_neg h]
theorem del_none {H : Hp} {D : Addr} (h : H D = none) : del H D = H := by
  funext b
  by_cases e : b = D
  · rw [e, del_same, h]
  · exact del_ne e
theorem del_upd {H : Hp} {D : Addr} {o : HO} : del (upd H D o) D = del H D := by
  funext b
  by_cases e : b = D
  · rw [e, del_same, del_same]
  · rw [del_ne e, del_ne e, upd_ne e]
theorem upd_del {H : Hp} {D : Addr} {o : HO} (h : H D = some o) : upd (del H D) D o = H := by
  funext b
  by_cases e : b = D
  · rw [e, upd_same, h]
  · rw [upd_ne e, del_ne e]
theorem same_del {H : Hp} {D : Addr} : Same (del H D) H := fun b o e => by
  by_cases z : b = D
  · rw [z, del_same] at e; cases e
  · rwa [del_ne z] at e
theorem keep_del {H : Hp} {D : Addr} {u : HO} (h : H D = some u) (ni : ¬ Im u) : Keep H (del H D) := fun b o e i => by
  have : b ≠ D := fun z => by rw [z, h] at e; cases e; exact ni i
  rw [del_ne this]; exact e
theorem mut_nt {u : HO} (h : Mut (some u)) : NT u := fun ps z => by subst z; exact h
/-- a dict is no code object -/
theorem dx_nc {C : Gc} {D : Addr} {q : Str} {xs : List (NestedKey × Addr × Value)} : DX C D xs ≠ LamX.CodeO D q := fun z => by
  have e := HO.ext.inj z
  let ob : Obj := { cls := .none, data := .fields #[.none, .str q default] }
  let h : Heap := Heap.push ⟨Array.replicate D ob, {}⟩ ob
  have hg : h.get? D = some ob := by
    have := Heap.get?_push_size (⟨Array.replicate D ob, {}⟩ : Heap) (o := ob) rfl
    rwa [show (⟨Array.replicate D ob, {}⟩ : Heap).objs.size = D from Array.size_replicate] at this
  have y : ∃ (oc : Obj) (vs : Array Value) (t : Tok), h.get? D = some oc ∧ oc.data = .fields vs ∧ vs[1]? = some (.str q t) := ⟨ob, #[.none, .str q default], default, hg, rfl, rfl⟩
  have e2 := congrFun e h
  obtain ⟨o, es, ep, h1, _, h3, _⟩ := e2.mpr y
  rw [hg] at h1
  cases h1
  cases h3
/-- no code object is made -/
def NC (D : Addr) (u : HO) : Prop := ∀ q, u ≠ LamX.CodeO D q
theorem nc_dct {C : Gc} {H : Hp} {D : Addr} {ks vs : List P} {u : HO} (h : RDc C H D ks vs u) : NC D u := fun q => by
  rcases h with ⟨kvs, rfl, _⟩ | ⟨_, _, _, rfl, _⟩
  · exact fun z => by cases z
  · exact dx_nc
theorem nc_lst {D : Addr} {xs : List V} : NC D (.lst xs) := fun q z => by cases z
theorem tab_del {C : Gc} {μ : List Addr} {H : Hp} {D : Addr} {u : HO} (T : TabO C H μ) (h : H D = some u) (nt : NT u) (nc : NC D u) : TabO C (del H D) μ := fun p hp => by
  obtain ⟨ps, h1, h2, h3, h4⟩ := T p hp
  refine ⟨ps, by rw [del_ne fun z => by rw [z, h] at h1; cases h1; exact nt ps rfl]; exact h1, h2, h3, fun pos cv hc => ?_⟩
  obtain ⟨c, e1, e2, e3⟩ := h4 pos cv hc
  exact ⟨c, e1, by rw [del_ne fun z => by rw [z, h] at e2; exact nc _ (Option.some.inj e2)]; exact e2, e3⟩
theorem tab_put {C : Gc} {μ : List Addr} {H : Hp} {D : Addr} {u u' : HO} (T : TabO C H μ) (h : H D = some u) (nt : NT u) (nc : NC D u) : TabO C (upd H D u') μ := fun p hp => by
  obtain ⟨ps, h1, h2, h3, h4⟩ := T p hp
  refine ⟨ps, by rw [upd_ne fun z => by rw [z, h] at h1; cases h1; exact nt ps rfl]; exact h1, h2, h3, fun pos cv hc => ?_⟩
  obtain ⟨c, e1, e2, e3⟩ := h4 pos cv hc
  exact ⟨c, e1, by rw [upd_ne fun z => by rw [z, h] at e2; exact nc _ (Option.some.inj e2)]; exact e2, e3⟩
theorem nx_del {μ μ' : List Addr} {H H' : Hp} {D : Addr} {u : HO} (h : H D = some u) (ni : ¬ Im u) (nt : NT u) (hm : D ∉ μ) (n : Nx μ H μ' H') : H' D = some u ∧ D ∉ μ' ∧ Nx μ (del H D) μ' (del H' D) := by
  have hD : D ∉ μ' := fun z => (n.new D z hm).elim (fun e => by rw [h] at e; cases e) fun ⟨ps, e⟩ => by rw [h] at e; cases e; exact nt ps rfl
  refine ⟨n.rest D u h hm nt, hD, n.pre, fun b o e i => ?_, fun b o e m nt' => ?_, fun b m z => ?_⟩
  · by_cases q : b = D
    · rw [q, del_same] at e; cases e
    · rw [del_ne q] at e ⊢; exact n.keep b o e i
  · by_cases q : b = D
    · rw [q, del_same] at e; cases e
    · rw [del_ne q] at e ⊢; exact n.rest b o e m nt'
  · by_cases q : b = D
    · rw [q, del_same]; exact .inl rfl
    · rw [del_ne q]; exact n.new b m z
/-- what is made may change -/
def obMut : Ob → Prop
  | .lst _ => True
  | .dct _ _ => True
  | _ => False
structure LS (C : Gc) (μ1 : List Addr) (H1 : Hp) (D : Addr) (ob : Ob) (μ : List Addr) (st : St) (H : Hp) (u : HO) : Prop where
  at_ : H D = some u
  mu : Mut (some u)
  nc : NC D u
  ob : ∀ H', Keep H H' → H' D = some u → ObR C H' D ob
  nx : Nx μ1 H1 μ (del H D)
  wd : Wd C H μ st
  nm : D ∉ μ
theorem mut_im {u : HO} (h : Mut (some u)) : ¬ Im u := by cases u <;> first | exact fun z => z | exact h.elim
section
variable {C : Gc} {μ1 μ : List Addr} {H1 H : Hp} {D : Addr} {ob : Ob} {st : St} {u : HO}
theorem LS.keep1 (L : LS C μ1 H1 D ob μ st H u) : Keep H1 H := L.nx.keep.trans fun b o e _ => same_del b o e
theorem LS.nx1 (L : LS C μ1 H1 D ob μ st H u) : Nx μ1 H1 μ H := L.nx.trans (Nx.same same_del)
theorem LS.start {st1 : St} (w : Wd C H1 μ1 st1) (hD : H1 D = none) (mu : Mut (some u)) (nc : NC D u) (q : ∀ H', Keep (upd H1 D u) H' → H' D = some u → ObR C H' D ob) : LS C μ1 H1 D ob μ1 st1 (upd H1 D u) u :=
  ⟨upd_same, mu, nc, q, by rw [del_upd, del_none hD]; exact Nx.refl _ _, w.fresh hD, fun z => w.has z hD⟩
theorem LS.go {μ' : List Addr} {st' : St} {H' : Hp} (L : LS C μ1 H1 D ob μ st H u) (n : Nx μ H μ' H') (w : Wd C H' μ' st') : LS C μ1 H1 D ob μ' st' H' u := by
  obtain ⟨a, b, c⟩ := nx_del L.at_ (mut_im L.mu) (mut_nt L.mu) L.nm n
  exact ⟨a, L.mu, L.nc, fun H2 k e => L.ob H2 (n.keep.trans k) e, L.nx.trans c, w, b⟩
theorem LS.same {H' : Hp} (L : LS C μ1 H1 D ob μ st H u) (g : Same H H') : LS C μ1 H1 D ob μ st H' u := L.go (Nx.same g) (L.wd.same g)
/-- it is written -/
theorem LS.put {ob' : Ob} {u' : HO} (L : LS C μ1 H1 D ob μ st H u) (mu : Mut (some u')) (nc : NC D u') (q : ∀ H', Keep (upd H D u') H' → H' D = some u' → ObR C H' D ob') : LS C μ1 H1 D ob' μ st (upd H D u') u' :=
  ⟨upd_same, mu, nc, q, by rw [del_upd]; exact L.nx, L.wd.keep (Keep.mut _ L.at_ (mut_im L.mu)) (fun a m => upd_ne fun z => L.nm (z ▸ m)) (tab_put L.wd.tab L.at_ (mut_nt L.mu) L.nc), L.nm⟩
theorem LS.fin (L : LS C μ1 H1 D ob μ st H u) : Wd C (del H D) μ st := L.wd.keep (keep_del L.at_ (mut_im L.mu)) (fun a m => del_ne fun z => L.nm (z ▸ m)) (tab_del L.wd.tab L.at_ (mut_nt L.mu) L.nc)
end
section
variable {C : Gc} {M : Md} {F : Fr} {cf : Cf} {k : Nat} {W : XW} {X : Cx}
/-! ### a clause's tests -/
theorem weakTs {X : Cx} {e : List Expr} {t t' : TT} (h : PTs X e t) (f : ∀ σ H Q, t' σ H Q → t σ H Q) : PTs X e t' := ⟨fun pins s σ H Q I q => h.run pins s σ H Q I (f σ H Q q)⟩
theorem g_yes : PTs X [] (rdT C W (evTo cf .yes)) := weakTs pts_nil fun σ H Q ⟨μ, st, r, w, hr, h⟩ => by
  rw [evTo] at h
  exact hereT h w
theorem g_if1 {t : T} {e : Expr} (h1 : Both C W X e (evT cf t)) : PTs X [e] (rdT C W (evTo cf (.if1 t))) := weakTs (pts_one h1.1) fun σ H Q ⟨μ, st, r, w, hr, h⟩ => by
  rw [evTo] at h
  exact ⟨μ, st, r, w, hr, h⟩
/-- an evaluation that is known, as a reading -/
theorem rd_known {α : Type} {ev : En → St → R α} {ok : α → St → List Addr → Hp → Prop} {σ : L2.St} {H : Hp} {μ : List Addr} {st st' : St} {r : En} {a : α} (w : Wd C H μ st) (hr : REn C H μ r σ) (e : ev r st = .ok a st')
    (h : ∀ μ' H', Nx μ H μ' H' → Wd C H' μ' st' → ok a st' μ' H') : rdG C W ev ok σ H := ⟨μ, st, r, w, hr, by rw [e]; exact h⟩
/-! ### [elt for tg in it if ..] -/
def compF (cf : Cf) (vs : List Nat) (tg : G) (ifs : To) (elt : E) (r : En) : P → St → R (List P) := fun x s2 => match asgG tg x (wipeE r vs) with
  | some r1 => (R.noexc (evTo cf ifs r1 s2)).bind fun c s3 => if c then (R.noexc (evE cf elt r1 s3)).bind fun d s4 => (match d with | .p y => .ok [y] s4 | _ => .bad) else .ok [] s3
  | none => .bad
theorem evL_comp {vs : List Nat} {tg : G} {it : I} {ifs : To} {elt : E} {r : En} {s : St} : evL cf (.comp vs tg it ifs elt) r s = ((evI cf it r s).bind fun xs s1 => compGo (compF cf vs tg ifs elt r) xs s1).bind fun l s2 => if decide (l.length ≤ big) then .ok l s2 else .bad := by
  rw [evL]; rfl
theorem compF_nox {vs : List Nat} {tg : G} {ifs : To} {elt : E} {r : En} (x : P) (s : St) : NoX (compF cf vs tg ifs elt r x s) := by
  unfold compF
  split
  · refine (nox_no _).bind fun c s3 => ?_
    cases c with
    | true =>
      rw [if_pos rfl]
      refine (nox_no _).bind fun d s4 => ?_
      split
      · exact .ok
      · exact .bad
    | false => rw [if_neg Bool.false_ne_true]; exact .ok
  · exact .bad
theorem compF_ok {vs : List Nat} {tg : G} {ifs : To} {elt : E} {r : En} {x : P} {s s' : St} {o : List P} (h : compF cf vs tg ifs elt r x s = .ok o s') :
    ∃ r1 c s3, asgG tg x (wipeE r vs) = some r1 ∧ evTo cf ifs r1 s = .ok c s3 ∧ ((c = true ∧ ∃ y, evE cf elt r1 s3 = .ok (.p y) s' ∧ o = [y]) ∨ (c = false ∧ o = [] ∧ s' = s3)) := by
  unfold compF at h
  split at h
  · rename_i r1 e1
    obtain ⟨c, s3, h1, h2⟩ := bind_ok h
    refine ⟨r1, c, s3, e1, noexc_ok h1, ?_⟩
    cases c with
    | true =>
      rw [if_pos rfl] at h2
      obtain ⟨d, s4, h3, h4⟩ := bind_ok h2
      split at h4
      · rename_i y
        cases h4
        exact .inl ⟨rfl, y, noexc_ok h3, rfl⟩
      · cases h4
    | false =>
      rw [if_neg Bool.false_ne_true] at h2
      cases h2
      exact .inr ⟨rfl, rfl, rfl⟩
  · cases h
theorem compGo_ok {f : P → St → R (List P)} {x : P} {l : List P} {s s' : St} {out : List P} (h : compGo f (x :: l) s = .ok out s') : ∃ o s1 m, f x s = .ok o s1 ∧ compGo f l s1 = .ok m s' ∧ out = o ++ m := by
  rw [compGo] at h
  obtain ⟨o, s1, h1, h2⟩ := bind_ok h
  obtain ⟨m, s2, h3, h4⟩ := bind_ok h2
  cases h4
  exact ⟨o, s1, m, h1, h3, rfl⟩
theorem drop_at {l : List P} {i : Nat} (h : i < l.length) : ∃ x, l[i]? = some x ∧ l.drop i = x :: l.drop (i + 1) := ⟨l[i], List.getElem?_eq_getElem h, List.drop_eq_getElem_cons h⟩
/-- one item, from its equations -/
theorem item_rd {vs : List Nat} {tg : G} {ifs : To} {elt : E} {r : En} {σ : L2.St} {μ1 μ : List Addr} {H1 H : Hp} {D : Addr} {acc : List P} {st s' : St} {u : HO} {x : P} {v : V} {o : List P} {N : Hp → Prop} (hsl : ∀ i ∈ tg.slots, i ∈ vs)
    (L : LS C μ1 H1 D (.lst acc) μ st H u) (hr1 : REn C H1 μ1 r σ) (rx : RP C H x v) (e : compF cf vs tg ifs elt r x st = .ok o s') (hz : acc.length + o.length ≤ sizeLine)
    (hN : ∀ μ' H' u', LS C μ1 H1 D (.lst (acc ++ o)) μ' s' H' u' → N H') :
    gRd C tg v (L2.wipe σ vs) H fun σ2 H2 => L2.wipe σ2 vs = L2.wipe σ vs ∧ rdT C WF (evTo cf ifs) σ2 H2 fun b H3 =>
      if b = true then rdE C WF (evE cf elt) σ2 H3 fun y H4 => ∃ acc, H4 D = some (.lst acc) ∧ acc.length < sizeLine ∧ N (upd H4 D (.lst (acc ++ [y]))) else N H3 := by
  obtain ⟨r1, c, s3, e1, e2, e3⟩ := compF_ok e
  refine ⟨μ, x, wipeE r vs, r1, (hr1.nx L.nx1).wipe vs, rx, e1, fun σ2 hr2 off => ⟨wipe_off hsl off, ?_⟩⟩
  refine rd_known L.wd hr2 e2 fun μ' H3 n3 w3 => ?_
  have L3 := L.go n3 w3
  have hr3 := hr2.nx n3
  show if c = true then _ else _
  rcases e3 with ⟨rfl, y, e4, rfl⟩ | ⟨rfl, rfl, rfl⟩
  · rw [if_pos rfl]
    refine rd_known w3 hr3 e4 fun μ'' H4 n4 w4 v' rv => ?_
    have L4 := L3.go n4 w4
    obtain ⟨xs, q1, q2⟩ := L4.ob H4 (Keep.refl _) L4.at_
    refine ⟨xs, q1, ?_, hN _ _ _ (L4.put (u' := .lst (xs ++ [v'])) trivial nc_lst fun H' k e => ⟨xs ++ [v'], e, ?_⟩)⟩
    · have := q2.length
      simp at hz
      omega
    · have kk : Keep H4 H' := (Keep.mut _ L4.at_ (mut_im L4.mu)).trans k
      exact (q2.keep kk).append (.cons (RP.keep kk _ _ (show RP C H4 y v' from rv)) .nil)
  · rw [if_neg Bool.false_ne_true]
    rw [List.append_nil] at hN
    exact hN _ _ _ L3
theorem okL_fin {σ : L2.St} {Q : VK} {μ1 μ : List Addr} {H1 H : Hp} {D : Addr} {out : List P} {stn : St} {u : HO} (L : LS C μ1 H1 D (.lst out) μ stn H u) (h : post C W σ μ1 H1 (.ok out stn) (okL C Q)) : Q (.ref D) H := by
  obtain ⟨xs, q1, q2⟩ := L.ob H (Keep.refl _) L.at_
  have := h μ (del H D) L.nx L.fin D xs del_same (q2.keep (keep_del q1 fun z => z))
  rw [upd_del q1] at this
  exact this
theorem chk_ok {σ : L2.St} {μ : List Addr} {H : Hp} {res : R (List P)} {ok : List P → St → List Addr → Hp → Prop} (nx : NoX res) (h : post C W σ μ H (res.bind fun l s2 => if decide (l.length ≤ big) then .ok l s2 else .bad) ok) :
    ∃ out stn, res = .ok out stn ∧ out.length ≤ sizeLine ∧ post C W σ μ H (.ok out stn) ok := by
  cases res with
  | ok out stn =>
    have h : post C W σ μ H (if decide (out.length ≤ big) then .ok out stn else .bad) ok := h
    split at h
    · rename_i hz
      exact ⟨out, stn, rfl, by rw [← big_line]; exact of_decide_eq_true hz, h⟩
    · exact h.elim
  | exc c fs s => exact absurd rfl (nx c fs s)
  | bad => exact h.elim
theorem comp_rd {vs : List Nat} {tg : G} {it : I} {ifs : To} {elt : E} (hsl : ∀ i ∈ tg.slots, i ∈ vs) {σ : L2.St} {H : Hp} {Q : VK} (h : rdL C W (evL cf (.comp vs tg it ifs elt)) σ H Q) :
    tLc (rdI C W (evI cf it)) (gRd C tg) (rdT C WF (evTo cf ifs)) (rdE C WF (evE cf elt)) vs σ H Q := by
  obtain ⟨μ, st, r, w, hr, h⟩ := h
  rw [evL_comp, bind_assoc] at h
  refine step w hr h fun l st1 μ1 H1 n1 w1 hr1 h1 J hJ D hD => ?_
  obtain ⟨out, stn, e, hz, h2⟩ := chk_ok (compGo_nox (fun x s => compF_nox x s) l st1) h1
  refine ⟨fun i m H => m = l.length - i ∧ i ≤ l.length ∧ ∃ acc μ st' u rest, LS C μ1 H1 D (.lst acc) μ st' H u ∧ compGo (compF cf vs tg ifs elt r) (l.drop i) st' = .ok rest stn ∧ out = acc ++ rest,
    ⟨l.length, by simp, Nat.zero_le _, [], μ1, st1, .lst [], out, LS.start w1 hD trivial nc_lst fun H' k e => ⟨[], e, .nil⟩, by rw [List.drop_zero]; exact e, rfl⟩, ?_⟩
  rintro i m H ⟨rfl, hi, acc, μ2, st2, u, rest, L, er, eo⟩
  obtain ⟨y1, y2⟩ := hJ H L.keep1
  by_cases hlt : i < l.length
  · obtain ⟨x, hx, hd⟩ := drop_at hlt
    rw [hd] at er
    obtain ⟨o, s3, m, f1, f2, f3⟩ := compGo_ok er
    obtain ⟨go, y3⟩ := y2 i x hx
    refine .inr ⟨go, fun H' => i + 1 ≤ l.length ∧ ∃ acc μ st' u rest, LS C μ1 H1 D (.lst acc) μ st' H' u ∧ compGo (compF cf vs tg ifs elt r) (l.drop (i + 1)) st' = .ok rest stn ∧ out = acc ++ rest, fun H' q => ⟨l.length - (i + 1), by omega, rfl, q⟩, fun v H' hy => ?_⟩
    obtain ⟨sm, rx⟩ := y3 v H' hy
    subst f3
    refine item_rd hsl (L.same sm) hr1 rx f1 ?_ fun μ' H' u' L' => ⟨hlt, acc ++ o, μ', s3, u', m, L', f2, by rw [eo, List.append_assoc]⟩
    rw [eo] at hz
    simp at hz
    omega
  · have e0 : i = l.length := by omega
    subst e0
    rw [List.drop_length] at er
    cases er
    rw [List.append_nil] at eo
    subst eo
    exact .inl ⟨y1 _ (Nat.le_refl _), okL_fin L h2⟩
end
end Ev

set_option Elab.async false
set_option linter.all false
set_option maxRecDepth 100000
set_option maxHeartbeats 1000000
/-! ### {k: v for .. in ..}: the block's loop, at any depth -/
namespace Ev
open PySem PySem.Spec PyProof.Rows L2

/-- what a turn runs behind its tests -/
abbrev PBod := L2.St → Hp → (Hp → Prop) → Prop
def PB (Y : Cx) (vs : List Nat) (b : Sem PySem.Fin → Sem PySem.Fin) (t : PBod) : Prop := ∀ (pn : List (Addr × Obj)) (s : Shared) (τ : L2.St) (H : Hp) (N : Hp → Prop) (k : Sem PySem.Fin) (Q : PySem.Fin → Shared → Prop) (E : Value → Shared → Prop), Inv Y pn τ H s → t τ H N →
  (∀ s' τ' H', Inv Y pn τ' H' s' → L2.wipe τ' vs = L2.wipe τ vs → N H' → wpAny (model Y.prog Y.w) Y.A k Q E s') → wpAny (model Y.prog Y.w) Y.A (b k) Q E s
/-- one loop of the block -/
def tLoop (J : It) (g : TG) (tt : TT) (tb : PBod) (vs : List Nat) : L2.St → Hp → (Hp → Prop) → Prop := fun τ H Q => ∃ Wn : Nat → Nat → Hp → Prop, (∃ m, Wn 0 m H) ∧ ∀ i m H, Wn i m H →
  (J.stop i H ∧ Q H) ∨ (J.go i H ∧ ∃ N : Hp → Prop, (∀ H', N H' → ∃ m', m' < m ∧ Wn (i + 1) m' H') ∧ ∀ x H', J.yld i H x H' → g x (L2.wipe τ vs) H' fun τ2 H2 => L2.wipe τ2 vs = L2.wipe τ vs ∧ tt τ2 H2 fun b H3 => if b = true then tb τ2 H3 N else N H3)
section
variable {Y : Cx} {kx vx : Expr} {gens : List Comprehension} {scope : Scope} {pos ip : Pos} {t : Expr} {ifs : List Expr} {j : Nat} {it D : Addr} {bod : Sem PySem.Fin → Sem PySem.Fin}
/-- the turn's form -/
def TurnIs (Y : Cx) (kx vx : Expr) (gens : List Comprehension) (scope : Scope) (pos ip : Pos) (t : Expr) (ifs : List Expr) (j : Nat) (it D : Addr) (bod : Sem PySem.Fin → Sem PySem.Fin) : Prop :=
  compTurn (.DictComp kx vx gens scope pos) j (.ref it) (.ref D) Y.env = (do
    standAt ip
    match ← pyNext (.ref it) with
    | none => pure (.done .next)
    | some v =>
      letOwnedTupleGo t (.ref it) v
      assign t Y.env v
      let ok ← forIn ifs true fun c r => if r = true then do let ok ← isTrue c Y.env (eval c Y.env); pure (ForInStep.yield ok) else pure (ForInStep.yield r)
      if ok = true then bod (again (.compLoop (.DictComp kx vx gens scope pos) j (.ref it) (.ref D) Y.env))
      else again (.compLoop (.DictComp kx vx gens scope pos) j (.ref it) (.ref D) Y.env))
theorem loop_run (hform : TurnIs Y kx vx gens scope pos ip t ifs j it D bod) (hx : Y.xe = fun _ _ => False) (hc : Y.calm = true) {g : TG} {tt : TT} {tb : PBod} {vs : List Nat} (pg : PG Y t g) (pt : PTs Y ifs tt) (pb : PB Y vs bod tb)
    {J : It} {fp : List Addr} {tn : Nat → Heap → Prop} (T : Turn Y.prog Y.w Y.K t J fp it tn) {pn : List (Addr × Obj)} {τ : L2.St} {H : Hp} {s : Shared} (I : Inv Y pn τ H s) (s0 : tn 0 s.heap) (f0 : ∀ b ∈ fp, FpOk Y pn H b) {Q : Hp → Prop} (q : tLoop J g tt tb vs τ H Q)
    {R : Result → Shared → Prop} (fin : ∀ s' H', Inv Y pn (L2.wipe τ vs) H' s' → Q H' → R (.ok .next) s') :
    codeAny (model Y.prog Y.w) Y.A (.compLoop (.DictComp kx vx gens scope pos) j (.ref it) (.ref D) Y.env) R s := by
  obtain ⟨Wn, ⟨m0, w0⟩, turn⟩ := q
  have stays : ∀ {H' : Hp}, (∀ b ∈ fp, H' b = none) → ∀ b ∈ fp, FpOk Y pn H' b := fun hn b hb => ⟨hn b hb, (f0 b hb).2⟩
  refine codeAny_loop rfl (fun n s' => ∃ i H', Inv Y pn (L2.wipe τ vs) H' s' ∧ tn i s'.heap ∧ (∀ b ∈ fp, H' b = none) ∧ Wn i n H') ?_ m0
    ⟨0, H, I.weak (wipe_length _ _) fun i v e => (wipe_some e).1, s0, fun b hb => (f0 b hb).1, w0⟩
  rintro n s1 ⟨i, H1, I1, t1, n1, w1⟩
  show wpAny _ Y.A ((compTurn (.DictComp kx vx gens scope pos) j (.ref it) (.ref D) Y.env).onRaise fun x => do noteFrame x Y.env; theTreesLotGoes x) _ _ s1
  refine wpAny_noted ?_
  rw [hform]
  refine wpAny_bind (wpAny_standAt (wpAny_bind ?_))
  rcases turn i n H1 w1 with ⟨stop, qq⟩ | ⟨go, N, hN, step⟩
  · refine thnF (T.done Y rfl rfl rfl hc i pn s1 _ H1 (fun _ _ => False) I1 (stays n1) t1 stop) fun r s2 ⟨hr, I2⟩ => ?_
    subst hr
    exact wpAny_pure (fin s2 H1 I2 qq)
  · refine thnF (T.item Y rfl rfl rfl hc i pn s1 _ H1 (fun _ _ => False) I1 (stays n1) t1 go) fun r s2 ⟨u, hr, h2⟩ => ?_
    subst hr
    refine wpAny_bind (thnF h2 fun _ s3 ⟨x, H3, I3, r3, y3, t3, n3⟩ => ?_)
    have P3 := I3.pinned (stays n3) (T.obj _ _ t3)
    have pgr := pg.run _ s3 _ H3 x u _ P3 r3 (step x H3 y3)
    rw [hx] at pgr
    refine wpAny_bind (thnF pgr fun _ s4 ⟨τ4, H4, I4, hw4, q4⟩ => ?_)
    have ptr := pt.run _ s4 τ4 H4 _ I4 q4
    rw [hx] at ptr
    refine wpAny_bind (thnF ptr fun ok s5 ⟨H5, I5, q5⟩ => ?_)
    have endT : ∀ {s' : Shared} {H' : Hp} {τ' : L2.St}, Inv Y (pn ++ pinsAt fp s3.heap) τ' H' s' → L2.wipe τ' vs = L2.wipe τ vs → N H' → ∃ m, m < n ∧ ∃ i H', Inv Y pn (L2.wipe τ vs) H' s' ∧ tn i s'.heap ∧ (∀ b ∈ fp, H' b = none) ∧ Wn i m H' := fun {s' H' τ'} I' hw nx => by
      obtain ⟨m', hm, w'⟩ := hN H' nx
      have held : ∀ b ∈ fp, ∀ o, s3.heap.get? b = some o → s'.heap.get? b = some o ∧ H' b = none := fun b hb o e =>
        let z := I'.pin (b, o) (List.mem_append_right _ (List.mem_append_right _ (mem_pinsAt hb e)))
        ⟨z.1, z.2.1⟩
      have ln : (L2.wipe τ vs).length = τ'.length := by rw [← hw, wipe_length]
      refine ⟨m', hm, i + 1, H', (I'.unpinned).weak ln (fun k v e => ?_), T.keep _ _ _ t3 fun b hb o e => (held b hb o e).1, fun b hb => ?_, w'⟩
      · rw [← hw] at e
        exact (wipe_some e).1
      · obtain ⟨o, e, _⟩ := T.obj _ _ t3 b hb
        exact (held b hb o e).2
    cases ok with
    | false =>
      simp only [Bool.false_eq_true, if_false] at q5 ⊢
      exact wpAny_pure ⟨rfl, endT I5 hw4 q5⟩
    | true =>
      simp only [if_true] at q5 ⊢
      exact pb _ s5 τ4 H5 N _ _ _ I5 q5 fun s6 τ6 H6 I6 hw6 nx => wpAny_pure ⟨rfl, endT I6 (hw6.trans hw4) nx⟩
end
end Ev

set_option Elab.async false
set_option linter.all false
set_option maxRecDepth 100000
set_option maxHeartbeats 1000000
namespace Ev
open PySem PySem.Spec PyProof.Rows L2

theorem wipe_get : ∀ (vs : List Nat) (σ : L2.St) (i : Nat), (L2.wipe σ vs)[i]? = if i ∈ vs then (if i < σ.length then some none else none) else σ[i]?
  | [], σ, i => by simp [L2.wipe]
  | v :: vs, σ, i => by
    show ((L2.wipe σ vs).set v none)[i]? = _
    by_cases hv : v = i
    · subst hv
      rw [if_pos List.mem_cons_self]
      by_cases hl : v < σ.length
      · rw [List.getElem?_set_self (by rw [wipe_length]; exact hl), if_pos hl]
      · rw [List.getElem?_eq_none (by rw [List.length_set, wipe_length]; omega), if_neg hl]
    · rw [List.getElem?_set_ne hv, wipe_get vs σ i]
      by_cases hm : i ∈ vs
      · rw [if_pos hm, if_pos (List.mem_cons_of_mem _ hm)]
      · rw [if_neg hm, if_neg (by simp only [List.mem_cons, not_or]; exact ⟨fun z => hv z.symm, hm⟩)]
theorem wipe_wipe {vs ws : List Nat} (h : ∀ i ∈ ws, i ∈ vs) (σ : L2.St) : L2.wipe (L2.wipe σ ws) vs = L2.wipe σ vs := by
  apply List.ext_getElem?
  intro i
  rw [wipe_get vs (L2.wipe σ ws), wipe_get vs σ, wipe_length]
  by_cases hm : i ∈ vs
  · simp only [if_pos hm]
  · simp only [if_neg hm, wipe_get, if_neg (fun z => hm (h i z))]
/-- d[y] = z may be done, and gives N -/
def DSt (P : Program) (w : World) (A : Around) (D : Addr) (y z : V) (H : Hp) (N : Hp → Prop) : Prop := ∀ (Y : Cx) (pn : List (Addr × Obj)) (s : Shared) (τ : L2.St) (u r : Value) (E : Value → Shared → Prop) (Q : Unit → Shared → Prop), Y.prog = P → Y.w = w → Y.A = A → Inv Y pn τ H s → RelV y u → RelV z r →
  (∀ s' H', Inv Y pn τ H' s' → N H' → Q () s') → wpAny (model P w) A (dictSet D u r) Q E s
def bEmit (kx vx : Expr) (env : Env) (D : Addr) (k : Sem PySem.Fin) : Sem PySem.Fin := do
  (do
    let kv ← eval kx env
    let vv ← holding [kv] (eval vx env)
    standAt { kx.pos with endLine := vx.pos.endLine, endCol := vx.pos.endCol }
    holding [kv, vv] (dictSet D kv vv))
  k
def tEmit (P : Program) (w : World) (A : Around) (tk tv : TE) (D : Addr) : PBod := fun τ H N => tk τ H fun y H1 => tv τ H1 fun z H2 => DSt P w A D y z H2 N
def bIn (e : Expr) (i1 : Expr) (env : Env) (D : Addr) (k : Sem PySem.Fin) : Sem PySem.Fin := do
  let x ← eval i1 env
  standAt i1.pos
  let x ← foldedSetIterable i1 env x
  let _ ← runOwn (.compStart e 1 (← holding [x] (pyIter x)) (.ref D) env) env
  k
def tIn (wi : TI) (g : TG) (tt : TT) (tb : PBod) (vs : List Nat) : PBod := fun τ H N => wi τ H fun J H1 => tLoop J g tt tb vs τ H1 N
section
variable {Y : Cx} {kx vx : Expr} {scope : Scope} {pos : Pos} {t0 i0 t1 i1 : Expr} {ifs0 ifs1 : List Expr} {it D : Addr} {vs vs1 : List Nat}
theorem turn_emit : TurnIs Y kx vx [⟨t0, i0, ifs0, 0⟩] scope pos i0.pos t0 ifs0 0 it D (bEmit kx vx Y.env D) := by unfold TurnIs bEmit; rfl
theorem turn_out : TurnIs Y kx vx [⟨t0, i0, ifs0, 0⟩, ⟨t1, i1, ifs1, 0⟩] scope pos i0.pos t0 ifs0 0 it D (bIn (.DictComp kx vx [⟨t0, i0, ifs0, 0⟩, ⟨t1, i1, ifs1, 0⟩] scope pos) i1 Y.env D) := by unfold TurnIs bIn; rfl
theorem turn_in : TurnIs Y kx vx [⟨t0, i0, ifs0, 0⟩, ⟨t1, i1, ifs1, 0⟩] scope pos i1.pos t1 ifs1 1 it D (bEmit kx vx Y.env D) := by unfold TurnIs bEmit; rfl
theorem pb_emit (hx : Y.xe = fun _ _ => False) {tk tv : TE} (pk : PE Y kx tk) (pv : PE Y vx tv) : PB Y vs (bEmit kx vx Y.env D) (tEmit Y.prog Y.w Y.A tk tv D) := by
  intro pn s τ H N k Q E I h fin
  have k1 := pk.run pn s τ H _ I h
  rw [hx] at k1
  refine wpAny_bind (wpAny_bind (thnF k1 fun u s1 ⟨y, H1, I1, r1, h1⟩ => ?_))
  have k2 := pv.run pn s1 τ H1 _ I1 h1
  rw [hx] at k2
  refine wpAny_bind (wpAny_holding (thnF k2 fun r s2 ⟨z, H2, I2, r2, h2⟩ => ?_))
  exact wpAny_bind (wpAny_standAt (wpAny_holding (h2 Y pn s2 τ u r _ _ rfl rfl rfl I2 r1 r2 fun s' H' I' n => fin s' τ H' I' rfl n)))
/-- the inner loop begins -/
theorem start_in {R : Result → Shared → Prop} {A : Around} {prog : Program} {w : World} {env : Env} {s : Shared} {itv : Value} (hl : codeAny (model prog w) A (.compLoop (.DictComp kx vx [⟨t0, i0, ifs0, 0⟩, ⟨t1, i1, ifs1, 0⟩] scope pos) 1 itv (.ref D) env) R s)
    (hi : wpAny (model prog w) A (pyIter itv) (fun x s' => codeAny (model prog w) A (.compLoop (.DictComp kx vx [⟨t0, i0, ifs0, 0⟩, ⟨t1, i1, ifs1, 0⟩] scope pos) 1 x (.ref D) env) R s') (notedBy (model prog w) A env fun x s' => R (.error x) s') s) :
    codeAny (model prog w) A (.compStart (.DictComp kx vx [⟨t0, i0, ifs0, 0⟩, ⟨t1, i1, ifs1, 0⟩] scope pos) 1 itv (.ref D) env) R s := by
  refine codeAny_of_tree ?_
  show wpAny _ _ ((compStart (.DictComp kx vx [⟨t0, i0, ifs0, 0⟩, ⟨t1, i1, ifs1, 0⟩] scope pos) 1 itv (.ref D) env).onRaise fun x => do noteFrame x env; standAt theWindowsPlace) _ _ s
  refine wpAny_notedAt ?_
  unfold compStart
  show wpAny _ _ (ask >>= _) _ _ s
  refine wpAny_bind (wpAny_askSetting (wpAny_ite ?_))
  split
  · first
      | exact wpAny_bind (wpAny_pure (wpAny_pure ⟨rfl, hl⟩))
      | exact wpAny_pure ⟨rfl, hl⟩
  · refine wpAny_bind (wpAny_rule ?_)
    first
      | exact wpAny_bind (wpAny_standAt (wpAny_bind (thn hi fun x s' h' => wpAny_pure ⟨rfl, h'⟩)))
      | (show wpAny _ _ (standAt i1.pos >>= _) _ _ s
         exact wpAny_bind (wpAny_standAt (wpAny_bind (thn hi fun x s' h' => wpAny_pure ⟨rfl, h'⟩))))
theorem pb_in (hx : Y.xe = fun _ _ => False) (hc : Y.calm = true) (hs : notSet i1 = true) (hv : ∀ i ∈ vs1, i ∈ vs) {wi : TI} {g : TG} {tt : TT} {tb : PBod} (pi : PI Y t1 i1 wi) (pg : PG Y t1 g) (pt : PTs Y ifs1 tt) (pb : PB Y vs1 (bEmit kx vx Y.env D) tb) :
    PB Y vs (bIn (.DictComp kx vx [⟨t0, i0, ifs0, 0⟩, ⟨t1, i1, ifs1, 0⟩] scope pos) i1 Y.env D) (tIn wi g tt tb vs1) := by
  intro pn s τ H N k Q E I h fin
  have k1 := pi.run pn s τ H _ I h
  rw [hx] at k1
  refine wpAny_bind (thnF k1 fun x s1 h1 => ?_)
  refine wpAny_bind (wpAny_standAt (wpAny_bind (wpAny_of_eq (folded_set hs x) (wpAny_bind (wpAny_holding (thnF h1 fun itv s2 h2 => ?_))))))
  obtain ⟨it, fp, tn, J, H2, rfl, I2, T, t2, f2, q⟩ := h2
  refine wpAny_bind (wpAny_runOwn ?_)
  rw [Around.mark_none]
  have lp := loop_run (turn_in (Y := Y) (kx := kx) (vx := vx) (scope := scope) (pos := pos) (t0 := t0) (i0 := i0) (t1 := t1) (i1 := i1) (ifs0 := ifs0) (ifs1 := ifs1) (it := it) (D := D)) hx hc pg pt pb T I2 t2 f2 q
    (R := fun r s' => match r with
      | .ok f => wpAny (model Y.prog Y.w) Y.A k Q E s'
      | .error e => cameBackBy (model Y.prog Y.w) Y.A Y.env E e s') fun s' H' I' n => fin s' _ H' I' (wipe_wipe hv τ) n
  exact start_in lp (T.self Y.A 0 _ _ _ t2 lp)
end
section
variable {X : Cx}
/-- a dict comprehension: the new dict at D -/
def tDcX (wi : TI) (g : TG) (tt : TT) (tb : Addr → PBod) (vs : List Nat) : TE := fun σ H Q => wi σ H fun J H1 => ∀ D, H1 D = none → tLoop J g tt (tb D) vs σ (upd H1 D (.dK [])) (Q (.ref D))
theorem dcx_core {pn : List (Addr × Obj)} {s : Shared} {σ : L2.St} {H : Hp} {Q : VK} {use : Option (Value → Sem Unit)} {Qf : Value → Shared → Prop} {pos' : Pos} {kx vx tg iter : Expr} {ifs : List Expr} {rest : List Comprehension} {scope : Scope} {own : List (Str × Nat)} {pos : Pos} {wi : TI} {g : TG} {tt : TT} {tb : Addr → PBod} {bod : Env → Addr → Sem PySem.Fin → Sem PySem.Fin} (hc : X.calm = true) (hN : X.N.Nodup) (hi : PI X tg iter wi) (ok : BlkOk X.N X.env.scope scope own) (hs : notSet iter = true)
    (hform : ∀ (Y : Cx) (it D : Addr), TurnIs Y kx vx (⟨tg, iter, ifs, 0⟩ :: rest) scope pos iter.pos tg ifs 0 it D (bod Y.env D))
    (hg : ∀ (s : Shared) (H : Hp) (c : Addr) (cl : List (Str × Addr)) (fp : List Addr), PG (X.blk s H scope (compEnvC scope cl c X.env) fp) tg g)
    (ht : ∀ (s : Shared) (H : Hp) (c : Addr) (cl : List (Str × Addr)) (fp : List Addr), PTs (X.blk s H scope (compEnvC scope cl c X.env) fp) ifs tt)
    (hb : ∀ (s : Shared) (H : Hp) (c : Addr) (cl : List (Str × Addr)) (fp : List Addr) (D : Addr), PB (X.blk s H scope (compEnvC scope cl c X.env) fp) (own.map (·.2)) (bod (compEnvC scope cl c X.env) D) (tb D))
    (I : Inv X pn σ H s) (h : tDcX wi g tt tb (own.map (·.2)) σ H Q)
    (hR : ∀ D c s' m H', Inv X pn σ H' s' → Q (.ref D) H' → s'.heap.Ns c m → FpOk X pn H' c → compPost (model X.prog X.w) X.A X.xe use Qf (.ref D) c (.ok .next) s') :
    wpAny (model X.prog X.w) X.A (comprehension (.DictComp kx vx (⟨tg, iter, ifs, 0⟩ :: rest) scope pos) scope X.env pos' newDict false (eval iter X.env) use) Qf X.xe s := by
  have caught : ∀ y ∈ scope.names, y.2 = .free → ∃ c, X.env.cells.lookup y.1 = some c := fun y hy e => (ok.free y hy e).elim (fun z => I.ok.has _ (.inl z)) fun z => I.ok.has _ (.inr z)
  refine wpAny_comprehension_free (use := use) rfl (folded_set hs) (closure_ok caught) ok.kind (fun y hy e => by rw [ok.uniq y hy, e]) (thn (hi.run pn s σ H _ I h) fun xv s1 hx => thn hx fun itv s2 h2 => ?_)
  obtain ⟨it, fp, tn, J, H2, rfl, I2, T, t2, f2, q⟩ := h2
  refine wpAny_newObj_type (newEnv_comp ?_)
  generalize hD : s2.heap.objs.size = D
  have nD : H2 D = none := I2.hok.fresh (Nat.le_of_eq hD)
  have q := q D nD
  -- the new dict stands
  have Iz : Inv X pn σ (upd H2 D (.dK [])) { s2 with heap := s2.heap.push { cls := .type "dict", data := .dict #[] } } := by
    refine I2.laid (t' := s2.toks) (fun b o e => Heap.get?_push_of_some _ e) (Nat.le_of_eq hD) ?_
    rw [← hD]
    exact dk_empty s2.heap I2.big
  have lt2 : ∀ b ∈ fp, b < s2.heap.objs.size := fun b hb => let ⟨o, e, _⟩ := T.obj _ _ t2 b hb; Heap.lt_size e
  have h3 : (s2.heap.push { cls := .type "dict", data := .dict #[] }).objs.size = s2.heap.objs.size + 1 := Heap.size_push _ _
  have tz : tn 0 (s2.heap.push { cls := .type "dict", data := .dict #[] }) := T.keep _ _ _ t2 fun b _ o e => Heap.get?_push_of_some _ e
  have fz : ∀ b ∈ fp, FpOk X pn (upd H2 D (.dK [])) b ∧ b < (s2.heap.push { cls := .type "dict", data := .dict #[] }).objs.size := fun b hb => by
    have l := lt2 b hb
    refine ⟨⟨?_, (f2 b hb).2⟩, by rw [h3]; exact Nat.lt_succ_of_lt l⟩
    rw [upd_ne (by rw [← hD]; exact Nat.ne_of_lt l)]
    exact (f2 b hb).1
  generalize hH : upd H2 D (.dK []) = Hz at Iz fz q
  generalize hsz : ({ s2 with heap := s2.heap.push { cls := .type "dict", data := .dict #[] } } : Shared) = sz at Iz ⊢
  have hh : sz.heap = s2.heap.push { cls := .type "dict", data := .dict #[] } := by rw [← hsz]
  rw [← hh] at tz fz
  have I4 := block_start Iz ok hN fz
  have pg := hg sz Hz sz.heap.objs.size (cellsFrom (sz.heap.objs.size + 1) scope.names (cloFrom X.env.cells scope.names [])) fp
  have pt := ht sz Hz sz.heap.objs.size (cellsFrom (sz.heap.objs.size + 1) scope.names (cloFrom X.env.cells scope.names [])) fp
  have pb := hb sz Hz sz.heap.objs.size (cellsFrom (sz.heap.objs.size + 1) scope.names (cloFrom X.env.cells scope.names [])) fp D
  show codeAny _ _ (.compStart (.DictComp kx vx (⟨tg, iter, ifs, 0⟩ :: rest) scope pos) 0 (.ref it) (.ref D) (compEnvC scope (cellsFrom (sz.heap.objs.size + 1) scope.names (cloFrom X.env.cells scope.names [])) sz.heap.objs.size X.env)) (compPost (model X.prog X.w) X.A X.xe use Qf (.ref D) sz.heap.objs.size) { sz with heap := pushCells (sz.heap.push { cls := .type "dict", data := .dict #[] }) scope.names }
  generalize hce : compEnvC scope (cellsFrom (sz.heap.objs.size + 1) scope.names (cloFrom X.env.cells scope.names [])) sz.heap.objs.size X.env = ce at I4 pg pt pb ⊢
  have cL : ce.locals = sz.heap.objs.size := by subst hce; rfl
  generalize hs4 : ({ sz with heap := pushCells (sz.heap.push { cls := .type "dict", data := .dict #[] }) scope.names } : Shared) = s4 at I4 ⊢
  have t4 : tn 0 s4.heap := T.keep _ _ _ tz fun b _ o e => by rw [← hs4]; exact pushCells_keeps _ _ _ _ (Heap.get?_push_of_some _ e)
  have f4 : ∀ b ∈ fp, FpOk (X.blk sz Hz scope ce fp) [] Hz b := fun b hb =>
    ⟨(fz b hb).1.1, (I4.ok.exf b hb).1, I4.ok.exfs b hb, .inl hb, fun x c e => (I4.ok.exf b hb).2 x c e, fun p hp => by cases hp⟩
  have I5 : Inv (X.blk sz Hz scope ce fp) [] (L2.wipe σ (own.map (·.2))) Hz s4 := I4
  have q2 : tLoop J g tt (tb D) (own.map (·.2)) (L2.wipe σ (own.map (·.2))) Hz (Q (.ref D)) := by
    unfold tLoop at q ⊢
    rw [wipe_wipe fun i hi => hi]
    exact q
  have lp : codeAny (model X.prog X.w) X.A (.compLoop (.DictComp kx vx (⟨tg, iter, ifs, 0⟩ :: rest) scope pos) 0 (.ref it) (.ref D) ce) (compPost (model X.prog X.w) X.A X.xe use Qf (.ref D) sz.heap.objs.size) s4 := by
    refine loop_run (Y := X.blk sz Hz scope ce fp) (hform _ it D) rfl hc pg pt pb T I5 t4 f4 q2 fun s' H' I' n => ?_
    have I7 : Inv X pn σ H' s' := Iz.call' (ch := fp) I'.os I'.base I'.hok I'.bare fun b hb => ⟨(fz b hb).1.2.2.2.1, (fz b hb).1.2.1, (fz b hb).1.2.2.2.2.1, (fz b hb).1.2.2.2.2.2⟩
    have nC : H' sz.heap.objs.size = none := by
      have z : H' ce.locals = none := I'.free
      rwa [cL] at z
    obtain ⟨m, hn, _⟩ := I'.loc
    have hn : s'.heap.Ns ce.locals m := hn
    rw [cL] at hn
    exact hR D sz.heap.objs.size s' m H' I7 n hn (Iz.fpOk (Nat.le_refl _) nC)
  exact codeAny_compStart_dict lp (T.self X.A 0 _ _ _ t4 lp)
theorem pe_dcx {kx vx tg iter : Expr} {ifs : List Expr} {rest : List Comprehension} {scope : Scope} {own : List (Str × Nat)} {pos : Pos} {wi : TI} {g : TG} {tt : TT} {tb : Addr → PBod} {bod : Env → Addr → Sem PySem.Fin → Sem PySem.Fin} (hc : X.calm = true) (hN : X.N.Nodup) (hi : PI X tg iter wi) (ok : BlkOk X.N X.env.scope scope own) (hs : notSet iter = true)
    (hform : ∀ (Y : Cx) (it D : Addr), TurnIs Y kx vx (⟨tg, iter, ifs, 0⟩ :: rest) scope pos iter.pos tg ifs 0 it D (bod Y.env D))
    (hg : ∀ (s : Shared) (H : Hp) (c : Addr) (cl : List (Str × Addr)) (fp : List Addr), PG (X.blk s H scope (compEnvC scope cl c X.env) fp) tg g)
    (ht : ∀ (s : Shared) (H : Hp) (c : Addr) (cl : List (Str × Addr)) (fp : List Addr), PTs (X.blk s H scope (compEnvC scope cl c X.env) fp) ifs tt)
    (hb : ∀ (s : Shared) (H : Hp) (c : Addr) (cl : List (Str × Addr)) (fp : List Addr) (D : Addr), PB (X.blk s H scope (compEnvC scope cl c X.env) fp) (own.map (·.2)) (bod (compEnvC scope cl c X.env) D) (tb D)) :
    PE X (.DictComp kx vx (⟨tg, iter, ifs, 0⟩ :: rest) scope pos) (tDcX wi g tt tb (own.map (·.2))) := by
  refine ⟨fun pn s σ H Q I h => ?_⟩
  rw [arm_eval_DictComp]
  refine dcx_core hc hN hi ok hs hform hg ht hb I h fun D c s' m H' I' n hn f => ⟨m, hn, fun h'' sb => ?_⟩
  obtain ⟨g0, g1, g2, g3, g4, g5⟩ := f
  exact ⟨.ref D, H', I'.turned (t' := s'.toks) (fun b o hb e => (sb.2 b hb).trans e) g0 g1 g3 g4 g5, rfl, n⟩
/-- name = {..}: the name gets it ahead of the block's end -/
theorem ps_setDcx {i : Nat} {y : Str} {py spos : Pos} {kx vx tg iter : Expr} {ifs : List Expr} {rest : List Comprehension} {scope : Scope} {own : List (Str × Nat)} {pos : Pos} {wi : TI} {g : TG} {tt : TT} {tb : Addr → PBod} {bod : Env → Addr → Sem PySem.Fin → Sem PySem.Fin} (hc : X.calm = true) (hN : X.N.Nodup) (hi : PI X tg iter wi) (ok : BlkOk X.N X.env.scope scope own) (hs : notSet iter = true)
    (hform : ∀ (Y : Cx) (it D : Addr), TurnIs Y kx vx (⟨tg, iter, ifs, 0⟩ :: rest) scope pos iter.pos tg ifs 0 it D (bod Y.env D))
    (hg : ∀ (s : Shared) (H : Hp) (c : Addr) (cl : List (Str × Addr)) (fp : List Addr), PG (X.blk s H scope (compEnvC scope cl c X.env) fp) tg g)
    (ht : ∀ (s : Shared) (H : Hp) (c : Addr) (cl : List (Str × Addr)) (fp : List Addr), PTs (X.blk s H scope (compEnvC scope cl c X.env) fp) ifs tt)
    (hb : ∀ (s : Shared) (H : Hp) (c : Addr) (cl : List (Str × Addr)) (fp : List Addr) (D : Addr), PB (X.blk s H scope (compEnvC scope cl c X.env) fp) (own.map (·.2)) (bod (compEnvC scope cl c X.env) D) (tb D))
    (hy : X.N[i]? = some y) (hl : X.env.scope.names.lookup y = some .local) (hsw : swapsWith (.DictComp kx vx (⟨tg, iter, ifs, 0⟩ :: rest) scope pos) (some (.Name y py)) spos.line X.env = pure true) :
    PS X (.Assign [.Name y py] (.DictComp kx vx (⟨tg, iter, ifs, 0⟩ :: rest) scope pos) spos) (tAsg (tDcX wi g tt tb (own.map (·.2))) (gName i)) := by
  refine ⟨fun pn s σ H D I h => ?_⟩
  rw [exec_Assign_Name_used _ _ _ _ hsw]
  refine wpAny_bind (wpAny_standAt (wpAny_bind ?_))
  have h : tDcX wi g tt tb (own.map (·.2)) σ H (fun x H1 => gName i x σ H1 D.nx) := h
  show wpAny _ X.A (do let _ ← comprehension (.DictComp kx vx (⟨tg, iter, ifs, 0⟩ :: rest) scope pos) scope X.env (firstIterPos (⟨tg, iter, ifs, 0⟩ :: rest) pos) newDict false (eval iter X.env) (some (assign (.Name y py) X.env))) _ _ s
  refine wpAny_bind (thn (dcx_core (Qf := fun _ s' => SP X pn D .next s') hc hN hi ok hs hform hg ht hb I h fun L c s' m H' I' q hn f => ?_) fun _ s' hq => wpAny_pure (wpAny_pure hq))
  show wpAny _ _ (assign (.Name y py) X.env (.ref L)) _ _ _
  obtain ⟨g0, g1, g2, g3, g4, g5⟩ := f
  refine wpAny_assign_Name (store_ok2 (v := V.ref L) I' hN hy (.inl hl) rfl (fun s2 I2 ⟨a, sb, ha⟩ => ?_) (.inr hl))
  have nca : c ≠ a := ha.elim (fun z => by rw [z]; exact g1) fun z e => g4 y a z e.symm
  exact ⟨m, hn.sameBut sb nca, fun h3 sb3 => ⟨_, H', I2.turned (t' := s2.toks) (fun b o hb e => (sb3.2 b hb).trans e) g0 g1 g3 g4 g5, q⟩⟩
end
end Ev

set_option Elab.async false
set_option linter.all false
set_option maxRecDepth 100000
set_option maxHeartbeats 1000000
namespace Ev
open PySem PySem.Spec PyProof.Rows L2

/-! ### a dict is written -/
def putR {κ α : Type} [DecidableEq κ] : List (κ × α) → κ → α → List (κ × α)
  | [], k, v => [(k, v)]
  | p :: r, k, v => if p.1 = k then (p.1, v) :: r else p :: putR r k v
theorem putK_eq {κ : Type} [DecidableEq κ] {k : κ} {v : V} : ∀ {l : List (κ × V)}, (l.map (·.1)).Nodup → L2.putK l k v = putR l k v := by
  have old : ∀ {l : List (κ × V)}, k ∉ l.map (·.1) → l.map (fun kv => if kv.1 = k then (kv.1, v) else kv) = l := fun {l} h => by
    induction l with
    | nil => rfl
    | cons p l ih =>
      rw [List.map_cons, List.mem_cons, not_or] at h
      rw [List.map_cons, if_neg (fun z => h.1 z.symm), ih h.2]
  intro l
  induction l with
  | nil => intro _; simp [L2.putK, putR]
  | cons p l ih =>
    intro h
    rw [List.map_cons, List.nodup_cons] at h
    by_cases e : p.1 = k
    · have : L2.putK (p :: l) k v = (p :: l).map fun kv => if kv.1 = k then (kv.1, v) else kv := by simp [L2.putK, e]
      rw [this, List.map_cons, if_pos e, putR, if_pos e, old (by rw [← e]; exact h.1)]
    · rw [putR, if_neg e, ← ih h.2]
      unfold L2.putK
      rw [List.any_cons, decide_eq_false e, Bool.false_or]
      split
      · rw [List.map_cons, if_neg e]
      · rfl
def putH {K : Type} [DecidableEq K] : List (K × Addr × Value) → K → Addr → Value → List (K × Addr × Value)
  | [], k, a, v => [(k, a, v)]
  | p :: r, k, a, v => if p.1 = k then (p.1, p.2.1, v) :: r else p :: putH r k a v
theorem storedH_eq {K : Type} [DecidableEq K] {k : K} {a : Addr} {v : Value} : ∀ {l : List (K × Addr × Value)}, (l.map (·.1)).Nodup → storedH l k a v = putH l k a v := by
  have old : ∀ {l : List (K × Addr × Value)}, k ∉ l.map (·.1) → l.map (putAt k v) = l := fun {l} h => by
    induction l with
    | nil => rfl
    | cons p l ih =>
      rw [List.map_cons, List.mem_cons, not_or] at h
      rw [List.map_cons, putAt, if_neg (fun z => h.1 z.symm), ih h.2]
  intro l
  induction l with
  | nil => intro _; simp [storedH, putH, atKey]
  | cons p l ih =>
    intro h
    rw [List.map_cons, List.nodup_cons] at h
    by_cases e : p.1 = k
    · have : storedH (p :: l) k a v = (p :: l).map (putAt k v) := by simp [storedH, atKey, e]
      rw [this, List.map_cons, putAt, if_pos e, putH, if_pos e, old (by rw [← e]; exact h.1)]
    · rw [putH, if_neg e, ← ih h.2]
      have q : atKey (p :: l) k = atKey l k := by simp [atKey, e]
      unfold storedH
      rw [q]
      split
      · rw [List.map_cons, putAt, if_neg e]
      · rfl
section
variable {C : Gc} {X : Cx} {pins : List (Addr × Obj)} {σ : L2.St} {H : Hp} {s : Shared}
theorem fd_put {k z : P} {κ : Key} {v : V} (hk : keyP k = some κ) (rz : RP C H z v) : ∀ {ks vs : List P} {kvs : List (Key × V)}, Paired RK ks (kvs.map (·.1)) → RPs C H vs (kvs.map (·.2)) →
    Paired RK (dputK ks k) ((putR kvs κ v).map (·.1)) ∧ RPs C H (dputV ks vs k z) ((putR kvs κ v).map (·.2))
  | [], vs, kvs, e, rv => by
    cases kvs with
    | cons p r => cases e
    | nil =>
      have : vs = [] := by have := rv.length; simpa using this
      subst this
      have rk : RK k κ := by cases k <;> first | (cases hk; rfl) | cases hk
      exact ⟨.cons rk .nil, .cons rz .nil⟩
  | k' :: ks, vs, [], e, rv => by cases e
  | k' :: ks, vs, p :: kvs, e, rv => by
    cases e with
    | cons q1 q2 =>
      rw [List.map_cons] at rv
      cases vs with
      | nil => exact absurd rv.length (by simp)
      | cons y vs =>
        obtain ⟨v', w', e1, h1, h2⟩ := rv.of_cons
        obtain ⟨rfl, rfl⟩ := List.cons.inj e1
        rw [dputK, dputV, putR]
        by_cases hb : P.beq k' k = true
        · have : k' = k := P.eq_of_beq _ _ hb
          subst this
          have e2 := q1.key
          rw [hk] at e2
          have e2 : κ = p.1 := Option.some.inj e2
          rw [if_pos hb, if_pos hb, if_pos e2.symm]
          exact ⟨.cons q1 q2, .cons rz h2⟩
        · have hne : ¬ p.1 = κ := fun z => by
            have e2 : keyP k' = some p.1 := q1.key
            rw [z] at e2
            exact hb (by rw [keyP_inj e2 hk]; exact P.beq_self _)
          obtain ⟨a1, a2⟩ := fd_put hk rz q2 h2
          rw [if_neg hb, if_neg hb, if_neg hne]
          exact ⟨.cons q1 a1, .cons h1 a2⟩
theorem xd_put {k z : P} {κ : NestedKey} {b : Addr} {v : V} {w : Value} (hk : nk k = some κ) (rk : RP C H k (.ref b)) (rz : RP C H z v) (rw' : RelV v w) : ∀ {ks vs : List P} {xs : List (NestedKey × Addr × Value)} {ws : List V}, nks ks = some (xs.map (·.1)) → Vals ws (xs.map (·.2.2)) → RPs C H vs ws → RPs C H ks (xs.map fun x => .ref x.2.1) →
    ∃ ws', nks (dputK ks k) = some ((putH xs κ b w).map (·.1)) ∧ Vals ws' ((putH xs κ b w).map (·.2.2)) ∧ RPs C H (dputV ks vs k z) ws' ∧ RPs C H (dputK ks k) ((putH xs κ b w).map fun x => .ref x.2.1)
  | [], vs, xs, ws, e, hv, rv, rks => by
    have : xs = [] := by have e' := Option.some.inj e; simpa using e'.symm
    subst this
    have : ws = [] := by cases hv; rfl
    subst this
    have : vs = [] := by have := rv.length; simpa using this
    subst this
    exact ⟨[v], by rw [dputK, nks, hk]; rfl, .cons rw' .nil, .cons rz .nil, .cons rk .nil⟩
  | k' :: ks, vs, [], ws, e, hv, rv, rks => by
    have := nks_len e
    simp at this
  | k' :: ks, vs, y :: xs, ws, e, hv, rv, rks => by
    rw [List.map_cons] at hv rks
    cases hv with
    | @cons v1 _ ws _ r1 r2 =>
      cases vs with
      | nil => exact absurd rv.length (by simp)
      | cons z1 vs =>
        obtain ⟨v', w', e1, h1, h2⟩ := rv.of_cons
        obtain ⟨rfl, rfl⟩ := List.cons.inj e1
        obtain ⟨v'', w'', e1, g1, g2⟩ := rks.of_cons
        obtain ⟨rfl, rfl⟩ := List.cons.inj e1
        rw [nks] at e
        split at e
        · rename_i κ' q1
          split at e
          · rename_i κs q2
            rw [List.map_cons] at e
            obtain ⟨e4, e5⟩ := List.cons.inj (Option.some.inj e)
            rw [dputK, dputV, putH]
            by_cases hb : P.beq k' k = true
            · have : k' = k := P.eq_of_beq _ _ hb
              subst this
              rw [q1] at hk
              cases hk
              rw [if_pos hb, if_pos hb, if_pos e4.symm]
              exact ⟨v :: ws, by rw [nks, q1, q2, e5, ← e4]; rfl, .cons rw' r2, .cons rz h2, .cons g1 g2⟩
            · have hne : ¬ y.1 = κ := fun z => by
                rw [← e4] at z
                subst z
                exact hb (by rw [nk_inj _ _ _ q1 hk]; exact P.beq_self _)
              obtain ⟨ws', a1, a2, a3, a4⟩ := xd_put hk rk rz rw' (ks := ks) (xs := xs) (by rw [q2, e5]) r2 h2 g2
              rw [if_neg hb, if_neg hb, if_neg hne]
              exact ⟨v1 :: ws', by rw [nks, q1, a1, List.map_cons, ← e4], .cons r1 a2, .cons h1 a3, .cons g1 a4⟩
          · cases e
        · cases e
theorem are_put {k : P} (hk : P.isKey 8 k = true) : ∀ {ks : List P}, P.areKeys 8 ks = true → P.areKeys 8 (dputK ks k) = true
  | [], _ => by rw [dputK, P.areKeys, hk]; rfl
  | k' :: ks, h => by
    rw [P.areKeys, Bool.and_eq_true] at h
    rw [dputK]
    split
    · rw [P.areKeys, h.1, h.2]; rfl
    · rw [P.areKeys, h.1, are_put hk h.2]; rfl
theorem putH_len {K : Type} [DecidableEq K] {k : K} {a : Addr} {v : Value} : ∀ {l : List (K × Addr × Value)}, (putH l k a v).length ≤ l.length + 1
  | [] => Nat.le_refl _
  | p :: l => by
    rw [putH]
    split
    · simp
    · have := putH_len (k := k) (a := a) (v := v) (l := l)
      simp; omega
theorem dputK_ne {ks : List P} {k : P} : dputK ks k ≠ [] := by
  cases ks with
  | nil => simp [dputK]
  | cons k' ks =>
    rw [dputK]
    split <;> simp
theorem dct_write (hP : X.prog = C.P) (hw : X.w = C.w) (hu : X.A.units + 65 < cLine) (I : Inv X pins σ H s) {D : Addr} {u : HO} {ks vs : List P} (hD : H D = some u) (r : RDc C H D ks vs u) {k z : P} {y v : V} {uv rv : Value} (hk : keyOk ks k = true) (hz : ks.length < big) (ry : RP C H k y) (ru : RelV y uv) (rz : RP C H z v) (rr : RelV v rv) :
    ∃ u', Mut (some u') ∧ RDc C H D (dputK ks k) (dputV ks vs k z) u' ∧
      (∀ (Q : Unit → Shared → Prop) (E : Value → Shared → Prop), (∀ s', Inv X pins σ (upd H D u') s' → Q () s') → wpAny (model X.prog X.w) X.A (dictSet D uv rv) Q E s) ∧
      (∀ (Q : Unit → Shared → Prop), (∀ s', Inv X pins σ (upd H D u') s' → Q () s') → wpAny (model X.prog X.w) X.A (setItem (.ref D) uv rv) Q X.xe s) := by
  have hz' : ks.length < sizeLine := by rw [← big_line]; exact hz
  rcases kind_of hk with ⟨κ, hκ, hf⟩ | ⟨l, rfl, hf⟩
  · obtain ⟨kvs, rfl, e1, e2⟩ := flat_of r hf
    have ey := keyP_V hκ ry
    subst ey
    obtain ⟨z0, hs, vs', rel, dd⟩ := dk_of I.hok hD
    have hn : (kvs.map (·.1)).Nodup := by
      rw [rel.keys]
      obtain ⟨_, _, _, _, _, _, _, _, n⟩ := dd
      exact n
    have ln : kvs.length < sizeLine := by
      have := pairedRK_len e1
      rw [List.length_map] at this
      omega
    obtain ⟨a1, a2⟩ := fd_put hκ rz e1 e2
    rw [← putK_eq hn] at a1 a2
    exact ⟨.dK (L2.putK kvs κ v), trivial, .inl ⟨_, rfl, a1, a2⟩, fun Q E h => d_dictSet I hD ln ru rr h, fun Q h => d_setItem (by omega) I (.inl ⟨kvs, κ, hD, rfl, ln, rfl⟩) ru rr h⟩
  · obtain ⟨xs, ws, Dx⟩ := xd_of I hP hw (.inl hD) r (by rcases hf with h | ⟨m, r, h⟩; exact .inl h; exact .inr ⟨m, r, h⟩)
    have hk8 : P.isKey 8 (.tup l) = true := by unfold keyOk at hk; rw [Bool.and_eq_true] at hk; exact hk.2
    obtain ⟨κ, e1, d1⟩ := nk_some 8 _ hk8
    obtain ⟨b, ys, rfl, eb, rl⟩ := RP.tup_iff.mp ry
    cases ru
    have ki : (nestedKind C.P C.w).is s.heap κ b := ⟨nis I _ _ _ _ ry rfl e1, d1⟩
    have hn : (xs.map (·.1)).Nodup := by
      obtain ⟨_, _, _, _, _, _, _, _, n⟩ := Dx.dict
      exact n
    obtain ⟨ws', b1, b2, b3, b4⟩ := xd_put e1 ry rz rr Dx.keys Dx.vals Dx.rv Dx.rk
    have lx : xs.length < sizeLine := by
      have := nks_len Dx.keys
      rw [List.length_map] at this
      omega
    have mu : Mut (H D) := by
      rw [hD]
      rcases r with ⟨kvs, rfl, _⟩ | ⟨_, _, _, rfl, _⟩ <;> trivial
    have nx : ∀ (t : Nat) (h' : Heap), h'.DictOfH (nestedKind C.P C.w) D (storedH xs κ b rv) → Heap.SameBut D s.heap h' → Inv X pins σ (upd H D (DX C D (putH xs κ b rv))) { s with heap := h', toks := t } := fun t h' dd sb => by
      rw [storedH_eq hn] at dd
      obtain ⟨o, es, ep, q1, q2, q3, q4, q5, q6⟩ := dd
      exact d_write I mu sb ⟨o, q1⟩ ⟨⟨o, es, ep, q1, q2, q3, q4⟩, ⟨o, q1⟩, fun h1 h2 ⟨o, es, ep, p1, p2⟩ st => ⟨o, es, ep, st o p1, p2⟩⟩
    have nd : ((putH xs κ b rv).map (·.1)).Nodup := by
      have go : ∀ {l : List (NestedKey × Addr × Value)}, (l.map (·.1)).Nodup → ((putH l κ b rv).map (·.1)).Nodup ∧ ∀ q, q ∈ (putH l κ b rv).map (·.1) → q = κ ∨ q ∈ l.map (·.1) := by
        intro l
        induction l with
        | nil => intro _; simp [putH]
        | cons p l ih =>
          intro h
          have h' := h
          rw [List.map_cons, List.nodup_cons] at h
          rw [putH]
          by_cases e : p.1 = κ
          · rw [if_pos e]
            exact ⟨h', fun q hq => .inr hq⟩
          · rw [if_neg e]
            obtain ⟨i1, i2⟩ := ih h.2
            refine ⟨?_, fun q hq => ?_⟩
            · rw [List.map_cons, List.nodup_cons]
              exact ⟨fun z => (i2 _ z).elim e h.1, i1⟩
            · rw [List.map_cons, List.mem_cons] at hq ⊢
              rcases hq with hq | hq
              · exact .inr (.inl hq)
              · exact (i2 q hq).imp id .inr
      exact (go hn).1
    refine ⟨DX C D (putH xs κ b rv), trivial, .inr ⟨_, ws', dputK_ne, rfl, Nat.le_trans putH_len lx, Dx.nsys, nd, b2, b1, are_put hk8 Dx.are, b4, b3⟩, fun Q E h => ?_, fun Q h => ?_⟩
    · have room : (nestedKind C.P C.w).room X.A := by show X.A.units + 8 < cLine; omega
      rw [hP, hw]
      exact wpAny_dictSet_heap room ki Dx.dict (fun h' dd sb => h _ (nx _ h' dd sb)) (Nat.le_of_lt lx)
    · have room : (nestedKind C.P C.w).room X.A.in1 := by show X.A.units + 1 + 8 < cLine; omega
      rw [hP, hw]
      exact wpAny_setItem_heap room ki Dx.dict (fun h' dd sb => h _ (nx _ h' dd sb)) (Nat.le_of_lt lx)
end
end Ev

set_option Elab.async false
set_option linter.all false
set_option maxRecDepth 100000
set_option maxHeartbeats 1000000
namespace Ev
open PySem PySem.Spec PyProof.Rows L2

/-- a row of turns, each by f -/
inductive Go (f : P → Ob → St → Ob → St → Prop) : List P → Ob → St → Ob → St → Prop
  | nil {a : Ob} {s : St} : Go f [] a s a s
  | cons {x : P} {l : List P} {a b c : Ob} {s s1 s2 : St} : f x a s b s1 → Go f l b s1 c s2 → Go f (x :: l) a s c s2
theorem Go.fits {f : P → Ob → St → Ob → St → Prop} {ft : Ob → Prop} (m : ∀ x a s b s1, f x a s b s1 → ft b → ft a) : ∀ {l : List P} {a b : Ob} {s s' : St}, Go f l a s b s' → ft b → ft a
  | _, _, _, _, _, .nil, h => h
  | _, _, _, _, _, .cons h t, q => m _ _ _ _ _ h (Go.fits m t q)
section
variable {C : Gc} {M : Md} {F : Fr} {cf : Cf} {k : Nat} {W : XW} {X : Cx}
theorem loop_go {J : It} {tg : G} {tt : TT} {tb : PBod} {vs : List Nat} {σ : L2.St} {μ1 : List Addr} {H1 : Hp} {D : Addr} {Q : Hp → Prop} {l : List P} {f : P → Ob → St → Ob → St → Prop} {ft : Ob → Prop} (fm : ∀ x a s b s1, f x a s b s1 → ft b → ft a)
    (hst : ∀ x a s a1 s1 μ H u v (N : Hp → Prop), f x a s a1 s1 → ft a1 → LS C μ1 H1 D a μ s H u → RP C H x v → (∀ μ' H' u', LS C μ1 H1 D a1 μ' s1 H' u' → N H') →
      gRd C tg v (L2.wipe σ vs) H fun σ2 H2 => L2.wipe σ2 vs = L2.wipe σ vs ∧ tt σ2 H2 fun b H3 => if b = true then tb σ2 H3 N else N H3)
    (hJ : Yields C J l H1) {a a' : Ob} {st st' : St} {μ : List Addr} {H : Hp} {u : HO} (L : LS C μ1 H1 D a μ st H u) (g : Go f l a st a' st') (hf : ft a') (hQ : ∀ μ' H' u', LS C μ1 H1 D a' μ' st' H' u' → Q H') :
    tLoop J (gRd C tg) tt tb vs σ H Q := by
  refine ⟨fun i m H => m = l.length - i ∧ i ≤ l.length ∧ ∃ a μ st u, LS C μ1 H1 D a μ st H u ∧ Go f (l.drop i) a st a' st', ⟨l.length, by simp, Nat.zero_le _, a, μ, st, u, L, by rw [List.drop_zero]; exact g⟩, ?_⟩
  rintro i m H ⟨rfl, hi, a, μ, st, u, L, g⟩
  obtain ⟨y1, y2⟩ := hJ H L.keep1
  by_cases hlt : i < l.length
  · obtain ⟨x, hx, hd⟩ := drop_at hlt
    rw [hd] at g
    obtain ⟨go, y3⟩ := y2 i x hx
    cases g with
    | cons g1 g2 =>
      refine .inr ⟨go, fun H' => i + 1 ≤ l.length ∧ ∃ a μ st u, LS C μ1 H1 D a μ st H' u ∧ Go f (l.drop (i + 1)) a st a' st', fun H' q => ⟨l.length - (i + 1), by omega, rfl, q⟩, fun v H' hy => ?_⟩
      obtain ⟨sm, rx⟩ := y3 v H' hy
      exact hst x _ _ _ _ μ H' u v _ g1 (g2.fits fm hf) (L.same sm) rx fun μ' H'' u' L' => ⟨hlt, _, μ', _, u', L', g2⟩
  · have e0 : i = l.length := by omega
    subst e0
    rw [List.drop_length] at g
    cases g
    exact .inl ⟨y1 _ (Nat.le_refl _), hQ _ _ _ L⟩
/-- nothing but the object that is made has changed its base -/
theorem LS.base {μ1 μ : List Addr} {H1 H : Hp} {D : Addr} {ob : Ob} {st : St} {u : HO} (L : LS C μ1 H1 D ob μ st H u) : LS C μ (del H D) D ob μ st H u := ⟨L.at_, L.mu, L.nc, L.ob, Nx.refl _ _, L.wd, L.nm⟩
theorem LS.rebase {μ1 μa μ : List Addr} {H1 Ha H : Hp} {D : Addr} {ob : Ob} {st : St} {u : HO} (L : LS C μa Ha D ob μ st H u) (n : Nx μ1 H1 μa Ha) : LS C μ1 H1 D ob μ st H u := ⟨L.at_, L.mu, L.nc, L.ob, n.trans L.nx, L.wd, L.nm⟩
theorem REn.kp {μ : List Addr} {H H' : Hp} {r : En} {σ : L2.St} (h : REn C H μ r σ) (kk : Keep H H') : REn C H' μ r σ := ⟨h.len, fun i d e => by
  obtain ⟨v, q, x⟩ := h.at_ i d e
  refine ⟨v, q, ?_⟩
  cases d with
  | p y => exact RP.keep kk _ _ x
  | obj n => exact x⟩
/-! ### [elt for .. for ..] -/
def lstOk : Ob → Prop
  | .lst l => l.length ≤ sizeLine
  | _ => True
/-- one turn of a list comprehension -/
def lTurn (f : P → St → R (List P)) : P → Ob → St → Ob → St → Prop := fun x a s b s1 => ∃ l o, a = .lst l ∧ f x s = .ok o s1 ∧ b = .lst (l ++ o)
theorem lTurn_fits {f : P → St → R (List P)} : ∀ x a s b s1, lTurn f x a s b s1 → lstOk b → lstOk a := by
  rintro x a s b s1 ⟨l, o, rfl, _, rfl⟩ h
  have h : (l ++ o).length ≤ sizeLine := h
  rw [List.length_append] at h
  show l.length ≤ sizeLine
  omega
theorem compGo_go {f : P → St → R (List P)} : ∀ {l : List P} {s s' : St} {out acc : List P}, compGo f l s = .ok out s' → Go (lTurn f) l (.lst acc) s (.lst (acc ++ out)) s'
  | [], s, s', out, acc, h => by
    cases h
    rw [List.append_nil]; exact .nil
  | x :: l, s, s', out, acc, h => by
    obtain ⟨o, s1, m, h1, h2, rfl⟩ := compGo_ok h
    rw [← List.append_assoc]
    exact .cons ⟨acc, o, rfl, h1, rfl⟩ (compGo_go h2)
def tbL (te : TE) (D : Addr) : PBod := fun σ2 H3 N => te σ2 H3 fun y H4 => ∃ acc, H4 D = some (.lst acc) ∧ acc.length < sizeLine ∧ N (upd H4 D (.lst (acc ++ [y])))
/-- one turn of the inner clause -/
theorem item2 {vs : List Nat} {tg : G} {ifs : To} {elt : E} {r : En} {σ : L2.St} {μ1 : List Addr} {H1 : Hp} {D : Addr} (hsl : ∀ i ∈ tg.slots, i ∈ vs) (hr1 : REn C H1 μ1 r σ) : ∀ x a s a1 s1 μ H u v (N : Hp → Prop), lTurn (compF cf vs tg ifs elt r) x a s a1 s1 → lstOk a1 → LS C μ1 H1 D a μ s H u → RP C H x v → (∀ μ' H' u', LS C μ1 H1 D a1 μ' s1 H' u' → N H') →
      gRd C tg v (L2.wipe σ vs) H fun σ2 H2 => L2.wipe σ2 vs = L2.wipe σ vs ∧ rdT C WF (evTo cf ifs) σ2 H2 fun b H3 => if b = true then tbL (rdE C WF (evE cf elt)) D σ2 H3 N else N H3 := by
  rintro x a s a1 s1 μ H u v N ⟨l, o, rfl, h1, rfl⟩ hz L rx hN
  have hz : (l ++ o).length ≤ sizeLine := hz
  rw [List.length_append] at hz
  exact item_rd hsl L hr1 rx h1 hz hN
def comp2F (cf : Cf) (vs : List Nat) (tg : G) (ifs : To) (vs1 : List Nat) (tg1 : G) (it1 : I) (ifs1 : To) (elt : E) (r : En) : P → St → R (List P) := fun x s2 => match asgG tg x (wipeE r vs) with
  | some r1 => (R.noexc (evTo cf ifs r1 s2)).bind fun c s3 => if c then (R.noexc (evI cf it1 r1 s3)).bind fun ys s4 => compGo (compF cf vs1 tg1 ifs1 elt r1) ys s4 else .ok [] s3
  | none => .bad
theorem evL_comp2 {vs : List Nat} {tg : G} {it : I} {ifs : To} {vs1 : List Nat} {tg1 : G} {it1 : I} {ifs1 : To} {elt : E} {r : En} {s : St} :
    evL cf (.comp2 vs tg it ifs vs1 tg1 it1 ifs1 elt) r s = ((evI cf it r s).bind fun xs s1 => compGo (comp2F cf vs tg ifs vs1 tg1 it1 ifs1 elt r) xs s1).bind fun l s2 => if decide (l.length ≤ big) then .ok l s2 else .bad := by
  rw [evL]; rfl
theorem comp2F_nox {vs : List Nat} {tg : G} {ifs : To} {vs1 : List Nat} {tg1 : G} {it1 : I} {ifs1 : To} {elt : E} {r : En} (x : P) (s : St) : NoX (comp2F cf vs tg ifs vs1 tg1 it1 ifs1 elt r x s) := by
  unfold comp2F
  split
  · refine (nox_no _).bind fun c s3 => ?_
    cases c with
    | true =>
      rw [if_pos rfl]
      exact (nox_no _).bind fun d s4 => compGo_nox (fun x s => compF_nox x s) _ _
    | false => rw [if_neg Bool.false_ne_true]; exact .ok
  · exact .bad
theorem comp2F_ok {vs : List Nat} {tg : G} {ifs : To} {vs1 : List Nat} {tg1 : G} {it1 : I} {ifs1 : To} {elt : E} {r : En} {x : P} {s s' : St} {o : List P} (h : comp2F cf vs tg ifs vs1 tg1 it1 ifs1 elt r x s = .ok o s') :
    ∃ r1 c s3, asgG tg x (wipeE r vs) = some r1 ∧ evTo cf ifs r1 s = .ok c s3 ∧ ((c = true ∧ ∃ ys s4, evI cf it1 r1 s3 = .ok ys s4 ∧ compGo (compF cf vs1 tg1 ifs1 elt r1) ys s4 = .ok o s') ∨ (c = false ∧ o = [] ∧ s' = s3)) := by
  unfold comp2F at h
  split at h
  · rename_i r1 e1
    obtain ⟨c, s3, h1, h2⟩ := bind_ok h
    refine ⟨r1, c, s3, e1, noexc_ok h1, ?_⟩
    cases c with
    | true =>
      rw [if_pos rfl] at h2
      obtain ⟨ys, s4, h3, h4⟩ := bind_ok h2
      exact .inl ⟨rfl, ys, s4, noexc_ok h3, h4⟩
    | false =>
      rw [if_neg Bool.false_ne_true] at h2
      cases h2
      exact .inr ⟨rfl, rfl, rfl⟩
  · cases h
/-- a turn of the outer clause, whatever is made -/
theorem outer_rd {vs vs1 : List Nat} {tg tg1 : G} {ifs ifs1 : To} {it1 : I} {r r1 : En} {σ : L2.St} {μ1 μ : List Addr} {H1 H : Hp} {D : Addr} {a a1 : Ob} {s s1 s3 : St} {u : HO} {x : P} {v : V} {c : Bool} {N : Hp → Prop} {tb1 : PBod} {ft : Ob → Prop} (hsl : ∀ i ∈ tg.slots, i ∈ vs)
    (L : LS C μ1 H1 D a μ s H u) (hr1 : REn C H1 μ1 r σ) (rx : RP C H x v) (e1 : asgG tg x (wipeE r vs) = some r1) (e2 : evTo cf ifs r1 s = .ok c s3) {f : P → Ob → St → Ob → St → Prop} (fm : ∀ x a s b s1, f x a s b s1 → ft b → ft a) (hf : ft a1)
    (e3 : (c = true ∧ ∃ ys s4, evI cf it1 r1 s3 = .ok ys s4 ∧ Go f ys a s4 a1 s1) ∨ (c = false ∧ a1 = a ∧ s1 = s3))
    (hst : ∀ (σ2 : L2.St) (μa : List Addr) (Ha : Hp), REn C Ha μa r1 σ2 → ∀ x a s a1 s1 μ H u v (N : Hp → Prop), f x a s a1 s1 → ft a1 → LS C μa Ha D a μ s H u → RP C H x v → (∀ μ' H' u', LS C μa Ha D a1 μ' s1 H' u' → N H') →
      gRd C tg1 v (L2.wipe σ2 vs1) H fun σ3 H2 => L2.wipe σ3 vs1 = L2.wipe σ2 vs1 ∧ rdT C WF (evTo cf ifs1) σ3 H2 fun b H3 => if b = true then tb1 σ3 H3 N else N H3)
    (hN : ∀ μ' H' u', LS C μ1 H1 D a1 μ' s1 H' u' → N H') :
    gRd C tg v (L2.wipe σ vs) H fun σ2 H2 => L2.wipe σ2 vs = L2.wipe σ vs ∧ rdT C WF (evTo cf ifs) σ2 H2 fun b H3 => if b = true then tIn (rdI C WF (evI cf it1)) (gRd C tg1) (rdT C WF (evTo cf ifs1)) tb1 vs1 σ2 H3 N else N H3 := by
  refine ⟨μ, x, wipeE r vs, r1, (hr1.nx L.nx1).wipe vs, rx, e1, fun σ2 hr2 off => ⟨wipe_off hsl off, ?_⟩⟩
  refine rd_known L.wd hr2 e2 fun μ' H3 n3 w3 => ?_
  have L3 := L.go n3 w3
  have hr3 := hr2.nx n3
  show if c = true then _ else _
  rcases e3 with ⟨rfl, ys, s4, e4, g⟩ | ⟨rfl, rfl, rfl⟩
  · rw [if_pos rfl]
    refine rd_known w3 hr3 e4 fun μ'' H4 n4 w4 J1 hJ => ?_
    have L4 := L3.go n4 w4
    have hr4 := hr3.nx n4
    have kd := keep_del L4.at_ (mut_im L4.mu)
    exact loop_go fm (hst σ2 μ'' (del H4 D) (hr4.kp kd)) (hJ.keep kd) L4.base g hf fun μ5 H5 u5 L5 => hN _ _ _ (L5.rebase L4.nx)
  · rw [if_neg Bool.false_ne_true]
    exact hN _ _ _ L3
theorem comp2_rd {vs : List Nat} {tg : G} {it : I} {ifs : To} {vs1 : List Nat} {tg1 : G} {it1 : I} {ifs1 : To} {elt : E} (hsl : ∀ i ∈ tg.slots, i ∈ vs) (hsl1 : ∀ i ∈ tg1.slots, i ∈ vs1) {σ : L2.St} {H : Hp} {Q : VK} (h : rdL C W (evL cf (.comp2 vs tg it ifs vs1 tg1 it1 ifs1 elt)) σ H Q) :
    tLc2 (rdI C W (evI cf it)) (gRd C tg) (rdT C WF (evTo cf ifs)) (rdI C WF (evI cf it1)) (gRd C tg1) (rdT C WF (evTo cf ifs1)) (rdE C WF (evE cf elt)) vs vs1 σ H Q := by
  obtain ⟨μ, st, r, w, hr, h⟩ := h
  rw [evL_comp2, bind_assoc] at h
  refine step w hr h fun l st1 μ1 H1 n1 w1 hr1 h1 J hJ D hD => ?_
  obtain ⟨out, stn, e, hz, h2⟩ := chk_ok (compGo_nox (fun x s => comp2F_nox x s) l st1) h1
  have L0 : LS C μ1 H1 D (.lst []) μ1 st1 (upd H1 D (.lst [])) (.lst []) := LS.start w1 hD trivial nc_lst fun H' k e => ⟨[], e, .nil⟩
  refine loop_go (f := lTurn (comp2F cf vs tg ifs vs1 tg1 it1 ifs1 elt r)) (ft := lstOk) (tb := tIn (rdI C WF (evI cf it1)) (gRd C tg1) (rdT C WF (evTo cf ifs1)) (tbL (rdE C WF (evE cf elt)) D) vs1) lTurn_fits ?_ hJ L0 (compGo_go e) (show ([] ++ out).length ≤ sizeLine from hz) fun μ' H' u' L => okL_fin L h2
  rintro x a s a1 s1 μ H u v N ⟨l, o, rfl, f1, rfl⟩ fa L rx hN
  obtain ⟨r1, c, s3, e1, e2, e3⟩ := comp2F_ok f1
  refine outer_rd (f := lTurn (compF cf vs1 tg1 ifs1 elt r1)) (ft := lstOk) hsl L hr1 rx e1 e2 lTurn_fits fa ?_ (fun σ2 μa Ha hra => item2 hsl1 hra) hN
  rcases e3 with ⟨rfl, ys, s4, e4, e5⟩ | ⟨rfl, rfl, rfl⟩
  · exact .inl ⟨rfl, ys, s4, e4, compGo_go e5⟩
  · exact .inr ⟨rfl, by rw [List.append_nil], rfl⟩
end
end Ev

set_option Elab.async false
set_option linter.all false
set_option maxRecDepth 100000
set_option maxHeartbeats 1000000
namespace Ev
open PySem PySem.Spec PyProof.Rows L2

section
variable {C : Gc} {M : Md} {F : Fr} {cf : Cf} {k : Nat} {W : XW} {X : Cx}
abbrev Mp := List P × List P
/-- one entry -/
def dctF (cf : Cf) (vs : List Nat) (tg : G) (ifs : To) (k v : E) (r : En) : P → List P → List P → St → R Mp := fun x ks ws s2 => match asgG tg x (wipeE r vs) with
  | some r1 => (R.noexc (evTo cf ifs r1 s2)).bind fun c s3 => if c then (R.noexc (evE cf k r1 s3)).bind fun d s4 => (R.noexc (evE cf v r1 s4)).bind fun d' s5 => (match d, d' with
      | .p y, .p z => if keyOk ks y && decide (ks.length < big) then .ok (dputK ks y, dputV ks ws y z) s5 else .bad
      | _, _ => .bad) else .ok (ks, ws) s3
  | none => .bad
def dct2F (cf : Cf) (vs : List Nat) (tg : G) (ifs : To) (vs1 : List Nat) (tg1 : G) (it1 : I) (ifs1 : To) (k v : E) (r : En) : P → List P → List P → St → R Mp := fun x ks ws s2 => match asgG tg x (wipeE r vs) with
  | some r1 => (R.noexc (evTo cf ifs r1 s2)).bind fun c s3 => if c then (R.noexc (evI cf it1 r1 s3)).bind fun ys s4 => dictGo (dctF cf vs1 tg1 ifs1 k v r1) ys ks ws s4 else .ok (ks, ws) s3
  | none => .bad
theorem evM_comp {vs : List Nat} {tg : G} {it : I} {ifs : To} {k v : E} {r : En} {s : St} : evM cf (.comp vs tg it ifs k v) r s = (evI cf it r s).bind fun xs s1 => dictGo (dctF cf vs tg ifs k v r) xs [] [] s1 := by
  rw [evM]; rfl
theorem evM_comp2 {vs : List Nat} {tg : G} {it : I} {ifs : To} {vs1 : List Nat} {tg1 : G} {it1 : I} {ifs1 : To} {k v : E} {r : En} {s : St} : evM cf (.comp2 vs tg it ifs vs1 tg1 it1 ifs1 k v) r s = (evI cf it r s).bind fun xs s1 => dictGo (dct2F cf vs tg ifs vs1 tg1 it1 ifs1 k v r) xs [] [] s1 := by
  rw [evM]; rfl
theorem dictGo_nox {f : P → List P → List P → St → R Mp} (hf : ∀ x ks ws s, NoX (f x ks ws s)) : ∀ (l : List P) (ks ws : List P) (s : St), NoX (dictGo f l ks ws s)
  | [], ks, ws, s => .ok
  | x :: l, ks, ws, s => by
    rw [dictGo]
    exact (hf x ks ws s).bind fun o s1 => dictGo_nox hf l _ _ s1
theorem dctF_nox {vs : List Nat} {tg : G} {ifs : To} {k v : E} {r : En} (x : P) (ks ws : List P) (s : St) : NoX (dctF cf vs tg ifs k v r x ks ws s) := by
  unfold dctF
  split
  · refine (nox_no _).bind fun c s3 => ?_
    cases c with
    | true =>
      rw [if_pos rfl]
      refine (nox_no _).bind fun d s4 => (nox_no _).bind fun d' s5 => ?_
      split
      · split
        · exact .ok
        · exact .bad
      · exact .bad
    | false => rw [if_neg Bool.false_ne_true]; exact .ok
  · exact .bad
theorem dct2F_nox {vs : List Nat} {tg : G} {ifs : To} {vs1 : List Nat} {tg1 : G} {it1 : I} {ifs1 : To} {k v : E} {r : En} (x : P) (ks ws : List P) (s : St) : NoX (dct2F cf vs tg ifs vs1 tg1 it1 ifs1 k v r x ks ws s) := by
  unfold dct2F
  split
  · refine (nox_no _).bind fun c s3 => ?_
    cases c with
    | true =>
      rw [if_pos rfl]
      exact (nox_no _).bind fun d s4 => dictGo_nox (fun x ks ws s => dctF_nox x ks ws s) _ _ _ _
    | false => rw [if_neg Bool.false_ne_true]; exact .ok
  · exact .bad
theorem dctF_ok {vs : List Nat} {tg : G} {ifs : To} {k v : E} {r : En} {x : P} {ks ws : List P} {s s' : St} {o : Mp} (h : dctF cf vs tg ifs k v r x ks ws s = .ok o s') :
    ∃ r1 c s3, asgG tg x (wipeE r vs) = some r1 ∧ evTo cf ifs r1 s = .ok c s3 ∧ ((c = true ∧ ∃ y z s4, evE cf k r1 s3 = .ok (.p y) s4 ∧ evE cf v r1 s4 = .ok (.p z) s' ∧ keyOk ks y = true ∧ ks.length < big ∧ o = (dputK ks y, dputV ks ws y z)) ∨ (c = false ∧ o = (ks, ws) ∧ s' = s3)) := by
  unfold dctF at h
  split at h
  · rename_i r1 e1
    obtain ⟨c, s3, h1, h2⟩ := bind_ok h
    refine ⟨r1, c, s3, e1, noexc_ok h1, ?_⟩
    cases c with
    | true =>
      rw [if_pos rfl] at h2
      obtain ⟨d, s4, h3, h4⟩ := bind_ok h2
      obtain ⟨d', s5, h5, h6⟩ := bind_ok h4
      split at h6
      · rename_i y z
        split at h6
        · rename_i hh
          rw [Bool.and_eq_true, decide_eq_true_eq] at hh
          cases h6
          exact .inl ⟨rfl, y, z, s4, noexc_ok h3, noexc_ok h5, hh.1, hh.2, rfl⟩
        · cases h6
      · cases h6
    | false =>
      rw [if_neg Bool.false_ne_true] at h2
      cases h2
      exact .inr ⟨rfl, rfl, rfl⟩
  · cases h
theorem dct2F_ok {vs : List Nat} {tg : G} {ifs : To} {vs1 : List Nat} {tg1 : G} {it1 : I} {ifs1 : To} {k v : E} {r : En} {x : P} {ks ws : List P} {s s' : St} {o : Mp} (h : dct2F cf vs tg ifs vs1 tg1 it1 ifs1 k v r x ks ws s = .ok o s') :
    ∃ r1 c s3, asgG tg x (wipeE r vs) = some r1 ∧ evTo cf ifs r1 s = .ok c s3 ∧ ((c = true ∧ ∃ ys s4, evI cf it1 r1 s3 = .ok ys s4 ∧ dictGo (dctF cf vs1 tg1 ifs1 k v r1) ys ks ws s4 = .ok o s') ∨ (c = false ∧ o = (ks, ws) ∧ s' = s3)) := by
  unfold dct2F at h
  split at h
  · rename_i r1 e1
    obtain ⟨c, s3, h1, h2⟩ := bind_ok h
    refine ⟨r1, c, s3, e1, noexc_ok h1, ?_⟩
    cases c with
    | true =>
      rw [if_pos rfl] at h2
      obtain ⟨ys, s4, h3, h4⟩ := bind_ok h2
      exact .inl ⟨rfl, ys, s4, noexc_ok h3, h4⟩
    | false =>
      rw [if_neg Bool.false_ne_true] at h2
      cases h2
      exact .inr ⟨rfl, rfl, rfl⟩
  · cases h
def mTurn (f : P → List P → List P → St → R Mp) : P → Ob → St → Ob → St → Prop := fun x a s b s1 => ∃ ks ws o, a = .dct ks ws ∧ f x ks ws s = .ok o s1 ∧ b = .dct o.1 o.2
theorem dictGo_go {f : P → List P → List P → St → R Mp} : ∀ {l : List P} {s s' : St} {o : Mp} {ks ws : List P}, dictGo f l ks ws s = .ok o s' → Go (mTurn f) l (.dct ks ws) s (.dct o.1 o.2) s'
  | [], s, s', o, ks, ws, h => by
    cases h
    exact .nil
  | x :: l, s, s', o, ks, ws, h => by
    rw [dictGo] at h
    obtain ⟨p, s1, h1, h2⟩ := bind_ok h
    exact .cons ⟨ks, ws, p, rfl, h1, rfl⟩ (dictGo_go h2)
theorem em_rd (hP : X.prog = C.P) (hw : X.w = C.w) (hu : X.A.units + 65 < cLine) {vs : List Nat} {tg : G} {ifs : To} {k v : E} {r : En} {σ : L2.St} {μ1 : List Addr} {H1 : Hp} {D : Addr} (hsl : ∀ i ∈ tg.slots, i ∈ vs) (hr1 : REn C H1 μ1 r σ) :
    ∀ x a s a1 s1 μ H u w (N : Hp → Prop), mTurn (dctF cf vs tg ifs k v r) x a s a1 s1 → True → LS C μ1 H1 D a μ s H u → RP C H x w → (∀ μ' H' u', LS C μ1 H1 D a1 μ' s1 H' u' → N H') →
      gRd C tg w (L2.wipe σ vs) H fun σ2 H2 => L2.wipe σ2 vs = L2.wipe σ vs ∧ rdT C WF (evTo cf ifs) σ2 H2 fun b H3 => if b = true then tEmit X.prog X.w X.A (rdE C WF (evE cf k)) (rdE C WF (evE cf v)) D σ2 H3 N else N H3 := by
  rintro x a s a1 s1 μ H u w N ⟨ks, ws, o, rfl, e, rfl⟩ _ L rx hN
  obtain ⟨r1, c, s3, e1, e2, e3⟩ := dctF_ok e
  refine ⟨μ, x, wipeE r vs, r1, (hr1.nx L.nx1).wipe vs, rx, e1, fun σ2 hr2 off => ⟨wipe_off hsl off, ?_⟩⟩
  refine rd_known L.wd hr2 e2 fun μ' H3 n3 w3 => ?_
  have L3 := L.go n3 w3
  have hr3 := hr2.nx n3
  show if c = true then _ else _
  rcases e3 with ⟨rfl, y, z, s4, e4, e5, hk, hz, rfl⟩ | ⟨rfl, rfl, rfl⟩
  · rw [if_pos rfl]
    refine rd_known w3 hr3 e4 fun μ4 H4 n4 w4 v4 r4 => ?_
    have L4 := L3.go n4 w4
    refine rd_known w4 (hr3.nx n4) e5 fun μ5 H5 n5 w5 v5 r5 => ?_
    have L5 := L4.go n5 w5
    have r4 : RP C H4 y v4 := r4
    have r5 : RP C H5 z v5 := r5
    intro Y pn s τ u' rv' E Q p1 p2 p3 I ry rz fin
    obtain ⟨ud, q1, q2⟩ := L5.ob H5 (Keep.refl _) L5.at_
    rw [L5.at_] at q1
    cases q1
    obtain ⟨un, mu, rd', wr, _⟩ := dct_write (X := Y) (p1.trans hP) (p2.trans hw) (by rw [p3]; exact hu) I L5.at_ q2 hk hz (RP.keep n5.keep _ _ r4) ry r5 rz
    rw [p1, p2, p3] at wr
    exact wr Q E fun s' I' => fin s' _ I' (hN _ _ _ (L5.put mu (nc_dct rd') fun H' kk e => ⟨un, e, rd'.keep ((Keep.mut _ L5.at_ (mut_im L5.mu)).trans kk)⟩))
  · rw [if_neg Bool.false_ne_true]
    exact hN _ _ _ L3
theorem okM_fin {σ : L2.St} {Q : VK} {μ1 μ : List Addr} {H1 H : Hp} {D : Addr} {o : Mp} {stn : St} {u : HO} (L : LS C μ1 H1 D (.dct o.1 o.2) μ stn H u) (h : post C W σ μ1 H1 (.ok o stn) (okM C Q)) : Q (.ref D) H := by
  obtain ⟨ud, q1, q2⟩ := L.ob H (Keep.refl _) L.at_
  rw [L.at_] at q1
  cases q1
  have := h μ (del H D) L.nx L.fin D u del_same L.mu (q2.keep (keep_del L.at_ (mut_im L.mu)))
  rw [upd_del L.at_] at this
  exact this
theorem okM_ok {σ : L2.St} {μ : List Addr} {H : Hp} {res : R Mp} {ok : Mp → St → List Addr → Hp → Prop} (nx : NoX res) (h : post C W σ μ H res ok) : ∃ o stn, res = .ok o stn := by
  cases res with
  | ok o stn => exact ⟨o, stn, rfl⟩
  | exc c fs s => exact absurd rfl (nx c fs s)
  | bad => exact h.elim
theorem LS.startM {μ1 : List Addr} {H1 : Hp} {D : Addr} {st1 : St} (w : Wd C H1 μ1 st1) (hD : H1 D = none) : LS C μ1 H1 D (.dct [] []) μ1 st1 (upd H1 D (.dK [])) (.dK []) :=
  LS.start w hD trivial (fun q z => by cases z) fun H' k e => ⟨_, e, .inl ⟨[], rfl, .nil, .nil⟩⟩
theorem dcomp_rd (hP : X.prog = C.P) (hw : X.w = C.w) (hu : X.A.units + 65 < cLine) {vs : List Nat} {tg : G} {it : I} {ifs : To} {k v : E} (hsl : ∀ i ∈ tg.slots, i ∈ vs) {σ : L2.St} {H : Hp} {Q : VK} (h : rdM C W (evM cf (.comp vs tg it ifs k v)) σ H Q) :
    tDcX (rdI C W (evI cf it)) (gRd C tg) (rdT C WF (evTo cf ifs)) (tEmit X.prog X.w X.A (rdE C WF (evE cf k)) (rdE C WF (evE cf v))) vs σ H Q := by
  obtain ⟨μ, st, r, w, hr, h⟩ := h
  rw [evM_comp] at h
  refine step w hr h fun l st1 μ1 H1 n1 w1 hr1 h1 J hJ D hD => ?_
  obtain ⟨o, stn, e⟩ := okM_ok (dictGo_nox (fun x ks ws s => dctF_nox x ks ws s) l [] [] st1) h1
  rw [e] at h1
  exact loop_go (f := mTurn (dctF cf vs tg ifs k v r)) (ft := fun _ => True) (fun _ _ _ _ _ _ _ => trivial) (em_rd hP hw hu hsl hr1) hJ (LS.startM w1 hD) (dictGo_go e) trivial fun μ' H' u' L => okM_fin L h1
theorem dcomp2_rd (hP : X.prog = C.P) (hw : X.w = C.w) (hu : X.A.units + 65 < cLine) {vs : List Nat} {tg : G} {it : I} {ifs : To} {vs1 : List Nat} {tg1 : G} {it1 : I} {ifs1 : To} {k v : E} (hsl : ∀ i ∈ tg.slots, i ∈ vs) (hsl1 : ∀ i ∈ tg1.slots, i ∈ vs1) {σ : L2.St} {H : Hp} {Q : VK} (h : rdM C W (evM cf (.comp2 vs tg it ifs vs1 tg1 it1 ifs1 k v)) σ H Q) :
    tDcX (rdI C W (evI cf it)) (gRd C tg) (rdT C WF (evTo cf ifs)) (fun D => tIn (rdI C WF (evI cf it1)) (gRd C tg1) (rdT C WF (evTo cf ifs1)) (tEmit X.prog X.w X.A (rdE C WF (evE cf k)) (rdE C WF (evE cf v)) D) vs1) vs σ H Q := by
  obtain ⟨μ, st, r, w, hr, h⟩ := h
  rw [evM_comp2] at h
  refine step w hr h fun l st1 μ1 H1 n1 w1 hr1 h1 J hJ D hD => ?_
  obtain ⟨o, stn, e⟩ := okM_ok (dictGo_nox (fun x ks ws s => dct2F_nox x ks ws s) l [] [] st1) h1
  rw [e] at h1
  refine loop_go (f := mTurn (dct2F cf vs tg ifs vs1 tg1 it1 ifs1 k v r)) (ft := fun _ => True) (fun _ _ _ _ _ _ _ => trivial) ?_ hJ (LS.startM w1 hD) (dictGo_go e) trivial fun μ' H' u' L => okM_fin L h1
  rintro x a s a1 s1 μ H u w N ⟨ks, ws, p, rfl, f1, rfl⟩ _ L rx hN
  obtain ⟨r1, c, s3, e1, e2, e3⟩ := dct2F_ok f1
  refine outer_rd (f := mTurn (dctF cf vs1 tg1 ifs1 k v r1)) (ft := fun _ => True) hsl L hr1 rx e1 e2 (fun _ _ _ _ _ _ _ => trivial) trivial ?_ (fun σ2 μa Ha hra => em_rd hP hw hu hsl1 hra) hN
  rcases e3 with ⟨rfl, ys, s4, e4, e5⟩ | ⟨rfl, rfl, rfl⟩
  · exact .inl ⟨rfl, ys, s4, e4, dictGo_go e5⟩
  · exact .inr ⟨rfl, rfl, rfl⟩
end
end Ev

set_option Elab.async false
set_option linter.all false
set_option maxRecDepth 100000
set_option maxHeartbeats 1000000
namespace Ev
open PySem PySem.Spec PyProof.Rows L2
open AutoSeq1 (wpAny_loadPart')

/-! ### enumerate(tuple) -/
theorem newT (t : Addr) (items : Array Value) (n : Nat) (dct : Option Addr) (sl : Array (Option Value)) :
    Meets (Builtin.«enumerate.__new__» ⟨[.type "enumerate", .ref t], []⟩) (fun _ R s => s.heap.get? t = some { cls := .type "tuple", dict := dct, data := .seq items n, slots := sl } ∧
      R (.ok (.ret (.ref (s.heap.push { cls := .type "tuple_iterator", data := .fields #[.ref t, .int 0 0] }).objs.size)))
        { s with heap := (s.heap.push { cls := .type "tuple_iterator", data := .fields #[.ref t, .int 0 0] }).push { cls := .type "enumerate", data := .fields #[.none, .bool false, .ref s.heap.objs.size, rawInt 0, .none, .none] } }) :=
  .of_wp fun prog w A R s h => by
    obtain ⟨hp, g, d, tk, os⟩ := s
    obtain ⟨hl, h⟩ := h
    have hsub := sub_enumerate
    have hL : Heap.IsTuple (Shared.heap ⟨hp, g, d, tk, os⟩) t items := ⟨_, hl, rfl, n, rfl⟩
    wp_walk using wpAny_loadPart' hl
    refine wpAny_stack_any fun st => wpAny_pure ?_
    split
    · rename_i c _ _ _ _ _
      cases (c == Value.type "enumerate")
      · wp_walk using wpAny_loadPart' hl, wpAny_pyIter_tuple hL
        exact ⟨_, rfl, h⟩
      · wp_walk using wpAny_loadPart' hl, wpAny_pyIter_tuple hL
        exact ⟨_, rfl, h⟩
    · wp_walk using wpAny_loadPart' hl, wpAny_pyIter_tuple hL
      exact ⟨_, rfl, h⟩
section
variable {prog : Program} {w : World} {A : Around} {E : Value → Shared → Prop} {s : Shared}
theorem call_enumT {t : Addr} {items : Array Value} {Q : Value → Shared → Prop} (hL : s.heap.IsTuple t items)
    (h : ∀ h', IsEnum h' (s.heap.objs.size + 1) s.heap.objs.size 0 .none → h'.IsTupleIter s.heap.objs.size t 0 → h'.objs.size = s.heap.objs.size + 2 →
      (∀ b o, s.heap.get? b = some o → h'.get? b = some o) → Q (.ref (s.heap.objs.size + 1)) { s with heap := h' }) :
    wpAny (model prog w) A (call (.type "enumerate") [.ref t]) Q E s := by
  obtain ⟨⟨c, dct, dt, sl⟩, hl, hc, n, hd⟩ := hL
  replace hc : c = .type "tuple" := hc
  replace hd : dt = .seq items n := hd
  subst hc hd
  refine callType_new F.called_enumerate (by decide) (F.typeCall_enumerate_1 _) (F.newCall_enumerate_1 _) (fun obj => F.args_object_init_2 obj _) F.entry_enumerate_new (newT t items n dct sl) ⟨hl, ?_⟩
  have hz : (s.heap.push { cls := .type "tuple_iterator", data := .fields #[.ref t, .int 0 0] }).objs.size = s.heap.objs.size + 1 := Heap.size_push ..
  show _ ∧ _
  rw [hz]
  have he := Heap.get?_push_size (s.heap.push { cls := .type "tuple_iterator", data := .fields #[.ref t, .int 0 0] }) (o := { cls := .type "enumerate", data := .fields #[.none, .bool false, .ref s.heap.objs.size, rawInt 0, .none, .none] }) rfl
  rw [hz] at he
  exact ⟨⟨_, he, rfl⟩, h _ he ⟨_, Heap.get?_push_of_some _ (Heap.get?_push_size _ rfl), rfl, rfl⟩ (by rw [Heap.size_push, hz]) fun b o x => Heap.get?_push_of_some _ (Heap.get?_push_of_some _ x)⟩
theorem enum_endT {e it t : Addr} {items : Array Value} {j : Nat} {i : Int} {old : Value} {Q : Option Value → Shared → Prop} (hh : A.handled = none) (he : IsEnum s.heap e it i old) (hit : s.heap.IsTupleIter it t j) (ht : s.heap.IsTuple t items) (hx : items[j]? = none)
    (hQ : ∀ h', Heap.ExtBut it s.heap h' → Q none { s with heap := h' }) : wpAny (model prog w) A (pyNext (.ref e)) Q E s := by
  have hT : s.TypeIs (.ref e) "enumerate" := ⟨_, he, rfl⟩
  unfold pyNext
  refine wpAny_bind (wpAny_attempt (wpAny_callSpecial?_slot (name := Str.ofString "__next__") hT F.slot_enumerate_next (wpAny_call_entry F.slot_enumerate_next hT F.entry_enumerate_next ?_ (F.args_enumerate_next_1 _))))
  show wpAny _ _ (field (.ref e) 2 >>= _) _ _ _
  refine wpAny_bind (wpAny_field he rfl (x := .ref it) rfl ?_)
  refine wpAny_bind (wpAny_nextOf_tuple_end (A := A.in1) hh hit ht hx fun h' x he' hx' => ?_)
  obtain ⟨o, ho, hc⟩ := hx'
  refine wpAny_bind (wpAny_isInstance (T := "StopIteration") (b := true) ⟨o, ho, hc⟩ isSubtype_stop ?_)
  exact wpAny_pure (hQ _ he')
end
/-- the tuple at a as it stands at each turn, each item in a new pair -/
def IteT (K : PySem.W.Frag) (a : Addr) : It :=
  ⟨fun i H => ∃ (xs : List V) (x : V), SqT K H a xs ∧ xs[i]? = some x, fun i H v H' => ∃ T x, v = .ref T ∧ H T = none ∧ H' = upd H T (.tup [.int (i : Nat), x]) ∧ ∀ xs, SqT K H a xs → xs[i]? = some x, fun i H => ∃ xs : List V, SqT K H a xs ∧ xs.length ≤ i⟩
theorem iter_apart {h : Heap} {it t : Addr} {i : Nat} {items : Array Value} (hit : h.IsTupleIter it t i) (ht : h.IsTuple t items) : t ≠ it := fun z => by
  obtain ⟨o, ho, hc, _⟩ := hit
  obtain ⟨o', ho', hc', _⟩ := ht
  rw [z, ho] at ho'
  cases ho'
  have hc : o.cls = .type "tuple_iterator" := hc
  have hc' : o.cls = .type "tuple" := hc'
  rw [hc] at hc'
  exact absurd (Value.type.inj hc') (by decide)
theorem enum_apart {h : Heap} {e it t : Addr} {i : Int} {old : Value} {items : Array Value} (he : IsEnum h e it i old) (ht : h.IsTuple t items) : e ≠ t := fun z => by
  have he : h.get? e = some _ := he
  obtain ⟨o', ho', hc', _⟩ := ht
  rw [← z, he] at ho'
  cases ho'
  have hc' : Value.type "enumerate" = .type "tuple" := hc'
  exact absurd (Value.type.inj hc') (by decide)
theorem turn_enumT {P : Program} {w : World} {K : PySem.W.Frag} {elts : List Expr} {kk : Nat} {tpos : Pos} (a e it : Addr) :
    Turn P w K (.Tuple elts kk tpos) (IteT K a) [e, it] e (fun i h => (∃ old, IsEnum h e it ((i : Nat) : Int) old) ∧ h.IsTupleIter it a i ∧ e ≠ it) where
  mem := by simp
  obj := fun i h st b hb => by
    obtain ⟨⟨old, he⟩, ⟨o, ho, hc, hd⟩, _⟩ := st
    have e' : b = e ∨ b = it := by simpa using hb
    rcases e' with z | z
    · rw [z]; exact ⟨_, he, fun v q => nomatch q⟩
    · rw [z]; exact ⟨o, ho, fun v q => by rw [hd] at q; cases q⟩
  keep := fun i h h' st k => let ⟨⟨old, he⟩, hi, hne⟩ := st; ⟨⟨old, k e (by simp) _ he⟩, hi.at fun o q => k it (by simp) o q, hne⟩
  item := by
    intro X hP hw hK hc i pins s σ H E I hf st hg
    subst hP hw hK
    obtain ⟨⟨old, he⟩, hit, hne⟩ := st
    obtain ⟨xs, x, hq, hx⟩ := hg
    obtain ⟨its, rv, p, hz⟩ := I.tuple hq
    have p : s.heap.IsTuple a its.toArray := p
    obtain ⟨u, hu, ru⟩ := rv.get hx
    have hel : e < s.heap.objs.size := Heap.lt_size he
    have hil : it < s.heap.objs.size := by obtain ⟨_, q, _⟩ := hit; exact Heap.lt_size q
    have n1 := iter_apart hit p
    have n2 := enum_apart he p
    have hi : i < its.toArray.size := by
      obtain ⟨z, _⟩ := List.getElem?_eq_some_iff.mp hu
      simpa using z
    refine wpAny_pyNext_enum_itemD (Draws.tuple (prog := X.prog) (w := X.w) (A := X.A.in1) (I.ok.hd hc) it a n1 its.toArray) he ⟨hit, p⟩ hi hne (by simp [hne, n2]) fun y h' tk hP ho hst' hT hsz hk => ?_
    have ey : y = u := by
      have hP : its.toArray[i]? = some y := hP
      rw [List.getElem?_toArray, hu] at hP
      exact (Option.some.inj hP).symm
    subst ey
    refine ⟨_, rfl, wpAny_letOwnedTupleGo_enum (s := { s with heap := h', toks := tk + 1 }) ho fun h'' he' sb => ?_⟩
    have hT2 : h''.get? s.heap.objs.size = some { cls := .type "tuple", data := .seq #[.int i tk, y] } := (sb.2 _ (Nat.ne_of_gt hel)).trans hT
    have new : ObjOk X.prog X.w (upd H s.heap.objs.size (.tup [.int (i : Nat), x])) h'' s.heap.objs.size (.tup [.int (i : Nat), x]) :=
      ⟨by show 2 ≤ sizeLine; decide, [.int i tk, y], .cons ⟨_, rfl⟩ (.cons ru .nil), ⟨_, hT2, rfl, _, rfl⟩⟩
    have I1 : Inv X pins σ (upd H s.heap.objs.size (.tup [.int (i : Nat), x])) { s with heap := h'', toks := tk + 1 } :=
      I.turnedNew (ch := [e, it]) (fun b ob hb q => (sb.2 b (fun z => hb (by simp [z]))).trans (hk b ob (fun z => hb (by simp [z])) (fun z => hb (by simp [z])) q)) hf (Nat.le_refl _) new
    refine ⟨.ref s.heap.objs.size, _, I1, rfl, ⟨_, x, rfl, I.hok.fresh (Nat.le_refl _), rfl, fun ys hy => by rw [I.tuple_inj hy hq]; exact hx⟩, ⟨⟨y, ?_⟩, hst'.1.at fun o q => (sb.2 it (Ne.symm hne)).trans q, hne⟩, fun b hb => ?_⟩
    · have e1 : ((i + 1 : Nat) : Int) = (i : Int) + 1 := by omega
      rw [e1]; exact he'
    · have e' : b = e ∨ b = it := by simpa using hb
      have hlt : b < s.heap.objs.size := by
        rcases e' with z | z <;> rw [z] <;> assumption
      rw [upd_ne (Nat.ne_of_lt hlt)]
      exact (hf b hb).1
  done := by
    intro X hP hw hK hc i pins s σ H E I hf st hg
    subst hP hw hK
    obtain ⟨⟨old, he⟩, hit, hne⟩ := st
    obtain ⟨xs, hq, hx⟩ := hg
    obtain ⟨its, rv, p, hz⟩ := I.tuple hq
    obtain ⟨f0, f1, f2, f3, f4, f5⟩ := hf it (by simp)
    have hl := rv.length
    exact enum_endT (I.ok.hd hc) he hit (show s.heap.IsTuple a its.toArray from p) (by simp; omega) fun h' eb => ⟨rfl, I.turned (t' := s.toks) (fun b o hb q => eb b o hb q) f0 f1 f3 f4 f5⟩
  self := fun A i s Q E st h => let ⟨⟨_, he⟩, _⟩ := st; wpAny_pyIter_enum he h
section
variable {C : Gc} {M : Md} {F : Fr} {cf : Cf} {k : Nat} {W : XW} {X : Cx}
theorem pi_enumA {e : Expr} {ta : TA} {p pos tpos : Pos} {elts : List Expr} {kk : Nat} (hg : Gl X "enumerate") (hm : X.mg "enumerate" = none) (ha : PA X [e] ta) (hs : starEach [e] X.env = [(false, eval e X.env)]) :
    PI X (.Tuple elts kk tpos) (.Call (.Name "enumerate" p) [e] [] pos) (fun σ H R => ta σ H fun vs H1 => ∃ a, vs = [.ref a] ∧ (((∃ xs, SqL X.K H1 a xs) ∧ R (Ite X.K a) H1) ∨ ((∃ xs, SqT X.K H1 a xs) ∧ R (IteT X.K a) H1))) := by
  refine ⟨fun pins s σ H R I h => ?_⟩
  refine Call_ (ld_blt I hg hm boot_enumerate (PyProof.Rows.callWith_type1 (thn (ha.run pos pins s σ H _ I h) fun us s1 ⟨vs, H1, I1, r1, q1⟩ => ?_) hs rfl))
  obtain ⟨a, ex, q⟩ := q1
  subst ex
  rw [Vals.ref1 r1]
  have fp : ∀ h' : Heap, ∀ b ∈ [s1.heap.objs.size + 1, s1.heap.objs.size], FpOk X pins H1 b := fun h' b hb => by
    have e' : b = s1.heap.objs.size + 1 ∨ b = s1.heap.objs.size := by simpa using hb
    have hle : s1.heap.objs.size ≤ b := by
      rcases e' with z | z
      · rw [z]; exact Nat.le_add_right _ _
      · rw [z]; exact Nat.le_refl _
    exact I1.fpOk hle (I1.hok.fresh hle)
  rcases q with ⟨⟨xs, hq⟩, q⟩ | ⟨⟨xs, hq⟩, q⟩
  · obtain ⟨its, rv, p', hz⟩ := I1.list hq
    refine call_enumerate_list p'.isList fun h' he hit hsz hk => wpAny_pyIter_enum he ?_
    exact ⟨s1.heap.objs.size + 1, [s1.heap.objs.size + 1, s1.heap.objs.size], _, _, H1, rfl, I1.kept (t' := s1.toks) hk, turn_enum a (s1.heap.objs.size + 1) s1.heap.objs.size, ⟨⟨.none, he⟩, hit, Nat.succ_ne_self _⟩, fp h', q⟩
  · obtain ⟨its, rv, p', hz⟩ := I1.tuple hq
    refine call_enumT (show s1.heap.IsTuple a its.toArray from p') fun h' he hit hsz hk => wpAny_pyIter_enum he ?_
    exact ⟨s1.heap.objs.size + 1, [s1.heap.objs.size + 1, s1.heap.objs.size], _, _, H1, rfl, I1.kept (t' := s1.toks) hk, turn_enumT a (s1.heap.objs.size + 1) s1.heap.objs.size, ⟨⟨.none, he⟩, hit, Nat.succ_ne_self _⟩, fp h', q⟩
theorem yields_enumT {K : PySem.W.Frag} {H : Hp} {a : Addr} {l : List P} {xs : List V} (h : H a = some (.tup xs)) (r : RPs C H l xs) : Yields C (IteT K a) (enumP 0 l) H := by
  intro H' k
  have h' : SqT K H' a xs := SqT.of (k _ _ h trivial)
  have r' := r.keep k
  refine ⟨fun i hi => ⟨xs, h', by rw [enumP_len] at hi; rw [← r'.length]; exact hi⟩, fun i x hx => ?_⟩
  obtain ⟨y, hy, rfl⟩ := enumP_get hx
  obtain ⟨v, h1, h2⟩ := r'.get hy
  refine ⟨⟨xs, v, h', h1⟩, fun v' H2 hy => ?_⟩
  obtain ⟨T, z, rfl, hT, rfl, hz⟩ := hy
  have := hz xs h'
  rw [h1] at this
  cases this
  refine ⟨Same.new hT, pair_rp hT ?_ h2⟩
  rw [Nat.zero_add]; exact RP.int_iff.mpr rfl
theorem g_enum (o : XOk C M F cf k W X) {a : E} {e : Expr} {elts : List Expr} {kk : Nat} {p pos tpos : Pos} (hs : notStar e = true) (hg : glB F.sc "enumerate" = true) (h1 : PE X e (rdE C W (evE cf a))) : PI X (.Tuple elts kk tpos) (.Call (.Name "enumerate" p) [e] [] pos) (rdI C W (evI cf (.enum a))) := by
  refine weakI (pi_enumA (glB_of o.sc hg) (o.blt _ (by decide +kernel)) (pa_cons h1 pa_nil (star_cons hs)) (star_cons hs)) fun σ H Q ⟨μ, st, r, w, hr, h⟩ => ?_
  rw [evI] at h
  refine step w hr h fun d st1 μ1 H1 n1 w1 hr1 h1 v rv => ?_
  split at h1
  · rename_i l
    have rv : RP C H1 (.lst l) v := rv
    obtain ⟨a, xs, rfl, ⟨o, e3⟩, rr⟩ := RP.lst_iff.mp rv
    exact ⟨a, rfl, .inl ⟨⟨xs, .inl (.inr ⟨o, e3⟩)⟩, post.here h1 w1 _ (yields_enum e3 rr)⟩⟩
  · rename_i l
    have rv : RP C H1 (.tup l) v := rv
    obtain ⟨a, xs, rfl, e3, rr⟩ := RP.tup_iff.mp rv
    exact ⟨a, rfl, .inr ⟨⟨xs, SqT.of e3⟩, post.here h1 w1 _ (yields_enumT e3 rr)⟩⟩
  · exact h1.elim
/-! ### a range as a value -/
theorem cr_range1 : CallR X (.type "range") (fun vs H Q => ∃ n, vs = [V.int n] ∧ ∀ p, H p = none → Q (.ref p) (upd H p (.rng 0 n))) := by
  intro pins s σ H vs us Q I r h
  obtain ⟨n, rfl, q⟩ := h
  obtain ⟨u, rfl, t, rfl⟩ := vals1 r
  refine call_range_1 ⟨.ref s.heap.objs.size, upd H s.heap.objs.size (.rng 0 n), I.laid (t' := s.toks + 2) (fun b o e => Heap.get?_push_of_some _ e) (Nat.le_refl _) ?_, rfl, q _ (I.hok.fresh (Nat.le_refl _))⟩
  exact ⟨_, t, _, Heap.get?_push_size _ rfl⟩
theorem g_rngv (o : XOk C M F cf k W X) {a : E} {e : Expr} {p pos : Pos} (hs : notStar e = true) (hg : glB F.sc "range" = true) (h1 : PE X e (rdE C W (evE cf a))) : PE X (.Call (.Name "range" p) [e] [] pos) (rdE C W (evE cf (.rngv a))) := by
  refine weak (pe_callTy cr_range1 (glB_of o.sc hg) (o.blt _ (by decide +kernel)) (by decide +kernel) (pa_cons h1 pa_nil (star_cons hs)) (by decide +kernel) (by decide +kernel) (star_cons hs) rfl) fun σ H Q ⟨μ, st, r, w, hr, h⟩ => ?_
  rw [evE] at h
  refine step w hr h fun d st1 μ1 H1 n1 w1 hr1 h1 v rv => ?_
  split at h1
  · rename_i n
    have rv : RP C H1 (.int n) v := rv
    split at h1
    · refine ⟨n, by rw [RP.int_iff.mp rv], fun q hq => ?_⟩
      exact h1 μ1 _ (Nx.fresh hq) (w1.fresh hq) _ (show RP C _ (.rng 0 n) (.ref q) from RP.rng_iff.mpr ⟨q, rfl, upd_same⟩)
    · exact h1.elim
  · exact h1.elim
/-! ### len(set(list of tuples of ints)) -/
theorem any_beq {x : P} {l : List P} : l.any (P.beq x) = true ↔ x ∈ l := by
  rw [List.any_eq_true]
  exact ⟨fun ⟨y, h1, h2⟩ => by rw [P.eq_of_beq _ _ h2]; exact h1, fun h => ⟨x, h, P.beq_self x⟩⟩
theorem mem_dedupP {x : P} : ∀ {l : List P}, x ∈ dedupP l ↔ x ∈ l
  | [] => by simp [dedupP]
  | y :: l => by
    rw [dedupP]
    split
    · rename_i h
      rw [mem_dedupP, List.mem_cons]
      exact ⟨.inr, fun z => z.elim (fun e => e ▸ any_beq.mp h) id⟩
    · rw [List.mem_cons, List.mem_cons, mem_dedupP]
theorem nodup_dedupP : ∀ {l : List P}, (dedupP l).Nodup
  | [] => .nil
  | y :: l => by
    rw [dedupP]
    split
    · exact nodup_dedupP
    · rename_i h
      rw [List.nodup_cons]
      exact ⟨fun m => h (any_beq.mpr (mem_dedupP.mp m)), nodup_dedupP⟩
def tupI (p : Addr × List Int) : P := .tup (p.2.map .int)
theorem mapInt_inj {a b : List Int} (h : a.map P.int = b.map P.int) : a = b := by
  induction a generalizing b with
  | nil => cases b with
    | nil => rfl
    | cons y b => cases h
  | cons x a ih => cases b with
    | nil => cases h
    | cons y b =>
      rw [List.map_cons, List.map_cons] at h
      injection h with h1 h2
      injection h1 with h1
      rw [h1, ih h2]
theorem ints_rps {H : Hp} : ∀ {l : List P} {xs : List V}, RPs C H l xs → P.hasAll .int l = true → ∃ ns : List Int, l = ns.map P.int ∧ xs = ns.map V.int
  | [], xs, r, _ => ⟨[], rfl, r.of_nil⟩
  | x :: l, xs, r, h => by
    obtain ⟨v, w, rfl, h1, h2⟩ := r.of_cons
    rw [P.hasAll, Bool.and_eq_true] at h
    obtain ⟨ns, e1, e2⟩ := ints_rps h2 h.2
    cases x with
    | int i => exact ⟨i :: ns, by rw [e1]; rfl, by rw [e2, RP.int_iff.mp h1]; rfl⟩
    | _ => exact absurd h.1 (by simp [P.has])
theorem tups_rps {K : PySem.W.Frag} {H : Hp} : ∀ {l : List P} {xs : List V}, RPs C H l xs → P.hasAll (.seq .int) l = true → ∃ ks : List (Addr × List Int), l = ks.map tupI ∧ xs = ks.map (fun p => V.ref p.1) ∧ ∀ p ∈ ks, SqT K H p.1 (p.2.map V.int)
  | [], xs, r, _ => ⟨[], rfl, r.of_nil, fun p h => by cases h⟩
  | x :: l, xs, r, h => by
    obtain ⟨v, w, rfl, h1, h2⟩ := r.of_cons
    rw [P.hasAll, Bool.and_eq_true] at h
    obtain ⟨ks, e1, e2, e3⟩ := tups_rps (K := K) h2 h.2
    cases x with
    | tup m =>
      obtain ⟨a, ys, rfl, ha, rm⟩ := RP.tup_iff.mp h1
      have hm : P.hasAll .int m = true := by simpa [P.has] using h.1
      obtain ⟨ns, f1, f2⟩ := ints_rps rm hm
      refine ⟨(a, ns) :: ks, by rw [e1]; show _ = P.tup (ns.map P.int) :: _; rw [f1], by rw [e2]; rfl, fun p hp => ?_⟩
      rcases List.mem_cons.mp hp with rfl | hp
      · rw [← f2]; exact SqT.of ha
      · exact e3 p hp
    | _ => exact absurd h.1 (by simp [P.has])
theorem dedup_len {ks L : List (Addr × List Int)} (nd : (L.map (·.2)).Nodup) (sub : ∀ p ∈ L, p ∈ ks) (all : ∀ p ∈ ks, p.2 ∈ L.map (·.2)) : (dedupP (ks.map tupI)).length = L.length := by
  have e : (dedupP (ks.map tupI)).Perm ((L.map (·.2)).map fun n => P.tup (n.map P.int)) := by
    refine (List.perm_ext_iff_of_nodup nodup_dedupP ?_).mpr fun x => ?_
    · rw [List.Nodup, List.pairwise_map]
      exact nd.imp fun {a b} h e => h (mapInt_inj (P.tup.inj e))
    · rw [mem_dedupP]
      constructor
      · intro h
        obtain ⟨p, hp, rfl⟩ := List.mem_map.mp h
        exact List.mem_map.mpr ⟨p.2, all p hp, rfl⟩
      · intro h
        obtain ⟨n, hn, rfl⟩ := List.mem_map.mp h
        obtain ⟨p, hp, rfl⟩ := List.mem_map.mp hn
        exact List.mem_map.mpr ⟨p, sub p hp, rfl⟩
  rw [e.length_eq, List.length_map, List.length_map]
theorem g_nset (o : XOk C M F cf k W X) {a : E} {e : Expr} {p p2 q pos : Pos} (hs : notStar e = true) (hg : glB F.sc "len" = true) (hg2 : glB F.sc "set" = true) (h1 : PE X e (rdE C W (evE cf a))) : PE X (.Call (.Name "len" p) [.Call (.Name "set" p2) [e] [] q] [] pos) (rdE C W (evE cf (.un .nset a))) := by
  refine ⟨fun pins s σ H Q I ⟨μ, st, r, w, hr, h⟩ => ?_⟩
  rw [evE] at h
  refine Call_ (ld_blt I (glB_of o.sc hg) (o.blt _ (by decide +kernel)) PySem.boot_len ?_)
  refine PyProof.Rows.callWith_builtin1 (PyProof.Rows.args_cons ?_ rfl) rfl rfl
  refine Call_ (ld_blt I (glB_of o.sc hg2) (o.blt _ (by decide +kernel)) PyProof.Rows.boot_set ?_)
  have hst := star_cons (es := []) (env := X.env) hs
  refine PyProof.Rows.callWith_type1 (PyProof.Rows.args_cons (thn (h1.run pins s σ H (fun v H1 => ∃ (d : D) (st1 : St) (μ1 : List Addr), Wd C H1 μ1 st1 ∧ RD C H1 μ1 d v ∧ post C W σ μ1 H1 (match view st1 d with
      | some x => (match evU .nset x with | some y => R.ok (.p y) st1 | none => .bad)
      | none => .bad) (okD C Q)) I (step w hr h fun d st1 μ1 H1 n1 w1 hr1 h1 v rv => ⟨d, st1, μ1, w1, rv, h1⟩)) fun v s1 ⟨x, H1, I1, r1, q1⟩ => PyProof.Rows.args_nil ?_) hst) hst rfl
  obtain ⟨d, st1, μ1, w1, rv, h1⟩ := q1
  split at h1
  · rename_i y ev
    cases y with
    | lst l =>
      obtain ⟨b, xs, rfl, e1, rr⟩ := view_ok w1 rv ev
      by_cases hb : (P.hasAll (.seq .int) l && decide (l.length < 64)) = true
      · rw [show evU .nset (.lst l) = some (.int (dedupP l).length) from if_pos hb] at h1
        rw [Bool.and_eq_true, decide_eq_true_eq] at hb
        obtain ⟨ks, k1, k2, k3⟩ := tups_rps (K := X.K) rr hb.1
        cases r1
        have hl : SqL X.K H1 b (ks.map fun p => V.ref p.1) := by rw [← k2]; exact .inl e1
        obtain ⟨its, rvs, pl, hz⟩ := I1.list hl
        refine call_set_tups (P := X.prog) (w := X.w) ks (I1.ok.hd o.calm) pl.isList (by simpa using refs_of_vals rvs) (fun p hp => I1.isT (k3 p hp)) (by have := hb.2; rw [k1, List.length_map] at this; exact this) (by have := o.units; omega) fun h' tk L es ep t R g kk => ?_
        refine PyProof.Rows.args_nil ?_
        obtain ⟨ob, ho, hex, hd⟩ := R.ob
        have I2 : Inv X pins σ H1 { s1 with heap := h', toks := tk } := I1.kept kk
        have hn : es.size = (dedupP l).length := by
          rw [SetTR.size (s := { s1 with heap := h', toks := tk }) R, k1]
          exact (dedup_len R.nd (fun p hp => List.mem_of_mem_take (g.sub p hp)) fun p hp => g.all p (by rw [List.take_length]; exact hp)).symm
        have hf := R.few
        refine call_len_set ho hex hd (SetTR.fits (s := { s1 with heap := h', toks := tk }) R) (by rw [SetTR.size (s := { s1 with heap := h', toks := tk }) R]; omega) ⟨.int (dedupP l).length, H1, I2.tok _, ⟨_, by rw [hn]⟩, ?_⟩
        exact post.here h1 w1 (.int (dedupP l).length) (show RP C H1 (.int (dedupP l).length) _ from RP.int_iff.mpr rfl)
      · rw [show evU .nset (.lst l) = none from if_neg hb] at h1
        exact h1.elim
    | _ => exact h1.elim
  · exact h1.elim
end
end Ev

set_option Elab.async false
set_option linter.all false
set_option maxRecDepth 100000
set_option maxHeartbeats 1000000
namespace Ev
open PySem PySem.Spec PyProof.Rows L2

/-! ### methods of built-in types -/
/-- what stands at x is plainly of the type T -/
def TyAt (X : Cx) (T : String) (x : V) (H : Hp) : Prop := ∀ (pins : List (Addr × Obj)) (σ : L2.St) (s : Shared) (v : Value), Inv X pins σ H s → RelV x v → s.TypeIs v T ∧ ∀ a, v = .ref a → ∃ ob, s.heap.get? a = some ob ∧ ob.dict = none
def tMeth (X : Cx) (T : String) (r : V → List V → Hp → VK → Prop) (to : TE) (t : TA) : TE := fun σ H Q => to σ H fun x H1 => TyAt X T x H1 ∧ t σ H1 fun xs H2 => r x xs H2 Q
section
variable {C : Gc} {M : Md} {F : Fr} {cf : Cf} {k : Nat} {W : XW} {X : Cx}
theorem pe_meth1 {o e : Expr} {to : TE} {t : TA} {name : Str} {apos cpos : Pos} {T id : String} {r : V → List V → Hp → VK → Prop} (pa : PlainAttrs T) (slot : Slot T name id) (hty : typeOf (.builtin id) = pure (.type "method_descriptor")) (hm : MtR X id r)
    (ho : PE X o to) (ha : PA X [e] t) (hs : notStar e = true) (hbase : attributeBase o name X.env (eval o X.env) = eval o X.env) (hline : (apos.endLine == cpos.line) = true) : PE X (.Call (.Attribute o name apos) [e] [] cpos) (tMeth X T r to t) := by
  have hst := star_cons (es := []) (env := X.env) hs
  refine ⟨fun pins s σ H Q I h => ?_⟩
  refine wpAny_Call_method_late hbase (by rw [hst]; rfl) hline rfl (thn (ho.run pins s σ H _ I h) fun v s1 ⟨x, H1, I1, r1, ty, q1⟩ => ?_)
  obtain ⟨h1, h2⟩ := ty pins σ s1 v I1 r1
  refine ⟨T, id, pa, slot, hty, h1, h2, ?_⟩
  have hA := ha.run cpos pins s1 σ H1 _ I1 q1
  rw [hst] at hA ⊢
  refine Calls.callWith_builtin (by rfl) (Calls.evalArgs_plain ?_)
  exact thn hA fun us s2 ⟨vs, H2, I2, r2, q2⟩ => hm pins s2 σ H2 x vs v us Q I2 r1 r2 q2
theorem ty_list {a : Addr} {xs : List V} {H : Hp} (h : SqL X.K H a xs) : TyAt X "list" (.ref a) H := fun pins σ s v I r => by
  cases r
  obtain ⟨its, _, ⟨o, n, ho, hc, hd, _⟩, _⟩ := I.list h
  exact ⟨⟨o, ho, hc⟩, fun b e => by cases e; exact ⟨o, ho, hd⟩⟩
theorem base_name {x : Str} {p : Pos} {name : Str} : attributeBase (.Name x p) name X.env (eval (.Name x p) X.env) = eval (.Name x p) X.env := rfl
theorem bind_bind {α β γ : Type} (r : R α) (f : α → St → R β) (g : β → St → R γ) : (r.bind f).bind g = r.bind fun a s => (f a s).bind g := by cases r <;> rfl
/-! ### list(range(..)) -/
theorem rps_rng {H : Hp} {a b : Int} : RPs C H (rngP a b) (rgV a b) := by
  unfold rngP rgV
  induction List.range (b - a).toNat with
  | nil => exact .nil
  | cons i l ih => exact .cons (RP.int_iff.mpr rfl) ih
theorem rgOk_of {a b : Int} (h : rngOk a b = true) : RgOk a b := by
  unfold rngOk at h
  simp only [Bool.and_eq_true, decide_eq_true_eq] at h
  exact ⟨h.1.1.1.1, h.1.1.1.2, h.1.1.2, h.1.2, h.2⟩
theorem g_ofR1 (o : XOk C M F cf k W X) {a : E} {e : Expr} {p pos p2 pos2 : Pos} (hs : notStar e = true) (hg : glB F.sc "list" = true) (hg2 : glB F.sc "range" = true) (h1 : PE X e (rdE C W (evE cf a))) :
    PE X (.Call (.Name "list" p) [.Call (.Name "range" p2) [e] [] pos2] [] pos) (rdL C W (evL cf (.ofR (.rng1 a)))) := by
  refine weak (pe_listRg o.calm (glB_of o.sc hg) (o.blt _ (by decide +kernel)) (prg_1 (glB_of o.sc hg2) (o.blt _ (by decide +kernel)) h1 (star_cons hs))) fun σ H Q ⟨μ, st, r, w, hr, h⟩ => ?_
  rw [evL, evI] at h
  refine step w hr h fun d st1 μ1 H1 n1 w1 hr1 h1 v rv => ?_
  split at h1
  · rename_i n
    have rv : RP C H1 (.int n) v := rv
    split at h1
    · rename_i hok
      exact ⟨n, RP.int_iff.mp rv, rgOk_of hok, fun q hq => listL w1 h1 hq rps_rng⟩
    · exact h1.elim
  · exact h1.elim
theorem g_ofR2 (o : XOk C M F cf k W X) {a b : E} {e e' : Expr} {p pos p2 pos2 : Pos} (hs : notStar e = true) (hs' : notStar e' = true) (hg : glB F.sc "list" = true) (hg2 : glB F.sc "range" = true) (h1 : PE X e (rdE C W (evE cf a))) (h2 : PE X e' (rdE C W (evE cf b))) :
    PE X (.Call (.Name "list" p) [.Call (.Name "range" p2) [e, e'] [] pos2] [] pos) (rdL C W (evL cf (.ofR (.rng2 a b)))) := by
  refine weak (pe_listRg o.calm (glB_of o.sc hg) (o.blt _ (by decide +kernel)) (prg_2 (glB_of o.sc hg2) (o.blt _ (by decide +kernel)) h1 h2 (star_cons hs) (star_cons hs') (star_any (by simp [hs'])))) fun σ H Q ⟨μ, st, r, w, hr, h⟩ => ?_
  rw [evL, evI] at h
  refine step w hr h fun d st1 μ1 H1 n1 w1 hr1 h1 v rv => ?_
  refine step w1 hr1 h1 fun d' st2 μ2 H2 n2 w2 hr2 h2 v' rv' => ?_
  split at h2
  · rename_i i j
    have rv : RP C H2 (.int i) v := rv.nx n2
    have rv' : RP C H2 (.int j) v' := rv'
    split at h2
    · rename_i hok
      exact ⟨i, j, RP.int_iff.mp rv, RP.int_iff.mp rv', rgOk_of hok, fun q hq => listL w2 h2 hq rps_rng⟩
    · exact h2.elim
  · exact h2.elim
/-! ### tuple(range(..)) -/
theorem rng_tup {d : V} {a b : Int} {st : St} {μ : List Addr} {H : Hp} {σ : L2.St} {Q : VK} (w : Wd C H μ st) (h : post C W σ μ H (match view st (.p (.lst (rngP a b))) with
    | some x => (match evU .tuple x with | some y => R.ok (.p y) st | none => .bad)
    | none => .bad) (okD C Q)) (q : Addr) (hq : H q = none) : Q (.ref q) (upd H q (.tup (rgV a b))) :=
  h μ _ (Nx.fresh hq) (w.fresh hq) _ (tupOf hq rps_rng)
theorem g_tupR1 (o : XOk C M F cf k W X) {a : E} {e : Expr} {p pos p2 pos2 : Pos} (hs : notStar e = true) (hg : glB F.sc "tuple" = true) (hg2 : glB F.sc "range" = true) (h1 : PE X e (rdE C W (evE cf a))) :
    PE X (.Call (.Name "tuple" p) [.Call (.Name "range" p2) [e] [] pos2] [] pos) (rdE C W (evE cf (.un .tuple (.frz (.ofR (.rng1 a)))))) := by
  refine weak (pe_tupRg o.calm (glB_of o.sc hg) (o.blt _ (by decide +kernel)) (prg_1 (glB_of o.sc hg2) (o.blt _ (by decide +kernel)) h1 (star_cons hs))) fun σ H Q ⟨μ, st, r, w, hr, h⟩ => ?_
  rw [evE, evE, evL, evI, bind_bind, bind_bind] at h
  refine step w hr h fun d st1 μ1 H1 n1 w1 hr1 h1 v rv => ?_
  split at h1
  · rename_i n
    have rv : RP C H1 (.int n) v := rv
    split at h1
    · rename_i hok
      exact ⟨n, RP.int_iff.mp rv, rgOk_of hok, fun q hq => rng_tup (d := v) w1 h1 q hq⟩
    · exact h1.elim
  · exact h1.elim
theorem g_tupR2 (o : XOk C M F cf k W X) {a b : E} {e e' : Expr} {p pos p2 pos2 : Pos} (hs : notStar e = true) (hs' : notStar e' = true) (hg : glB F.sc "tuple" = true) (hg2 : glB F.sc "range" = true) (h1 : PE X e (rdE C W (evE cf a))) (h2 : PE X e' (rdE C W (evE cf b))) :
    PE X (.Call (.Name "tuple" p) [.Call (.Name "range" p2) [e, e'] [] pos2] [] pos) (rdE C W (evE cf (.un .tuple (.frz (.ofR (.rng2 a b)))))) := by
  refine weak (pe_tupRg o.calm (glB_of o.sc hg) (o.blt _ (by decide +kernel)) (prg_2 (glB_of o.sc hg2) (o.blt _ (by decide +kernel)) h1 h2 (star_cons hs) (star_cons hs') (star_any (by simp [hs'])))) fun σ H Q ⟨μ, st, r, w, hr, h⟩ => ?_
  rw [evE, evE, evL, evI, bind_bind, bind_bind] at h
  refine step w hr h fun d st1 μ1 H1 n1 w1 hr1 h1 v rv => ?_
  rw [bind_bind] at h1
  refine step w1 hr1 h1 fun d' st2 μ2 H2 n2 w2 hr2 h2 v' rv' => ?_
  split at h2
  · rename_i i j
    have rv : RP C H2 (.int i) v := rv.nx n2
    have rv' : RP C H2 (.int j) v' := rv'
    split at h2
    · rename_i hok
      exact ⟨i, j, RP.int_iff.mp rv, RP.int_iff.mp rv', rgOk_of hok, fun q hq => rng_tup (d := v) w2 h2 q hq⟩
    · exact h2.elim
  · exact h2.elim
/-! ### a name's own list or dict, from now on never changed -/
theorem view_mut {μ : List Addr} {st : St} {H : Hp} {n : Nat} {a : Addr} {x : P} (w : Wd C H μ st) (hn : μ[n]? = some a) (e : view st (.obj n) = some x) :
    ∃ u, H a = some u ∧ Mut (some u) ∧ ∀ (H' : Hp) (od : Obj), Keep H H' → H' a = some (.frz od u) → RP C H' x (.ref a) := by
  have hl : n < st.length := by rw [← w.len]; exact (List.getElem?_eq_some_iff.mp hn).1
  have e2 : st[n]? = some st[n] := by simp [hl]
  have hw := w.at_ n a _ hn e2
  dsimp only [view] at e
  rw [e2] at e
  cases q : st[n] with
  | lst l =>
    rw [q] at e hw
    cases e
    obtain ⟨xs, h3, h4⟩ := hw
    exact ⟨_, h3, trivial, fun H' od kk h => RP.lst_iff.mpr ⟨a, xs, rfl, ⟨od, h⟩, h4.keep kk⟩⟩
  | dct ks vs =>
    rw [q] at e hw
    cases e
    obtain ⟨u, h3, h4⟩ := hw
    refine ⟨u, h3, ?_, fun H' od kk h => RP.dct_iff.mpr ⟨a, od, u, rfl, h, h4.keep kk⟩⟩
    rcases h4 with ⟨_, rfl, _⟩ | ⟨_, _, _, rfl, _⟩ <;> trivial
  | ins c fs => rw [q] at e; cases e
  | gone => rw [q] at e; cases e
theorem g_fz (o : XOk C M F cf k W X) {i : Nat} {x : Str} {p : Pos} (hi : F.N[i]? = some x) (hv : visB F.sc x = true) (hn : nmB x = true) : PE X (.Name x p) (rdE C W (evE cf (.fz i))) := by
  obtain ⟨m1, m2, _⟩ := nmB_of hn
  have hx : PE X (.Name x p) (tVar i) := pe_var (by rw [o.N]; exact hi) (by rw [o.sc]; exact visB_of hv) m1 m2
  refine ⟨fun pins s σ H Q I ⟨μ, st, r, w, hr, h⟩ => ?_⟩
  rw [evE] at h
  split at h
  · rename_i n er
    split at h
    · rename_i y ev
      obtain ⟨v, q1, a, q2, rfl⟩ := hr.at_ i (.obj n) er
      obtain ⟨u, hu, mu, rp⟩ := view_mut w q2 ev
      refine thn (hx.run pins s σ H (fun v H2 => v = .ref a ∧ H2 = H) I ⟨.ref a, q1, rfl, rfl⟩) fun v s1 ⟨x1, H2, I1, r1, e1, e2⟩ => ?_
      subst e1 e2
      obtain ⟨od, I2⟩ := I1.lock hu mu
      have ni := mut_im mu
      refine ⟨.ref a, _, I2, r1, h μ _ (Nx.mut (List.mem_of_getElem? q2) hu ni) (w.set q2 hu ni ⟨od, u, upd_same⟩) _ (rp _ od (Keep.mut _ hu ni) upd_same)⟩
    · exact h.elim
  · exact h.elim
/-! ### the place of a number in a list -/
theorem eqV_int {i j : Int} : eqV (.int i) (.int j) = decide (i = j) := by
  show (i == j) = _
  by_cases h : i = j <;> simp [h]
theorem idx_ints {H : Hp} {z : Int} : ∀ {l : List P} {xs : List V} {b : Nat} {q : Int}, RPs C H l xs → P.hasAll .int l = true → idxP (.int z) b l = some q → xs.all flatV = true ∧ ∃ j v, q = ((b + j : Nat) : Int) ∧ xs[j]? = some v ∧ eqV v (.int z) = true ∧ ∀ (m : Nat) (v' : V), m < j → xs[m]? = some v' → eqV v' (.int z) = false
  | [], xs, b, q, h, ha, e => by cases e
  | x :: l, xs, b, q, h, ha, e => by
    obtain ⟨v, w, rfl, h1, h2⟩ := h.of_cons
    rw [P.hasAll, Bool.and_eq_true] at ha
    cases x with
    | int i =>
      have hv : v = .int i := RP.int_iff.mp h1
      subst hv
      have flat : ∀ {l : List P} {xs : List V}, RPs C H l xs → P.hasAll .int l = true → xs.all flatV = true := by
        intro l
        induction l with
        | nil => intro xs h _; rw [h.of_nil]; rfl
        | cons y l ih =>
          intro xs h ha
          obtain ⟨v, w, rfl, h1, h2⟩ := h.of_cons
          rw [P.hasAll, Bool.and_eq_true] at ha
          cases y with
          | int j => rw [RP.int_iff.mp h1, List.all_cons, ih h2 ha.2]; rfl
          | _ => exact absurd ha.1 (by simp [P.has])
      refine ⟨by rw [List.all_cons, flat h2 ha.2]; rfl, ?_⟩
      rw [idxP] at e
      by_cases hb : P.beq (.int i) (.int z) = true
      · rw [if_pos hb] at e
        cases e
        have : i = z := by cases P.eq_of_beq _ _ hb; rfl
        subst this
        exact ⟨0, .int i, by simp, rfl, by rw [eqV_int]; simp, fun m v' hm => absurd hm (Nat.not_lt_zero m)⟩
      · rw [if_neg hb] at e
        obtain ⟨_, j, v, e1, e2, e3, e4⟩ := idx_ints h2 ha.2 e
        refine ⟨j + 1, v, by rw [e1]; congr 1; omega, e2, e3, fun m v' hm hv => ?_⟩
        cases m with
        | zero =>
          cases hv
          rw [eqV_int]
          exact decide_eq_false fun z' => hb (by rw [z']; exact P.beq_self _)
        | succ m => exact e4 m v' (by omega) hv
    | _ => exact absurd ha.1 (by simp [P.has])
theorem g_idxL (o : XOk C M F cf k W X) {a b : E} {x : Str} {e : Expr} {p apos cpos : Pos} (hs : notStar e = true) (hline : (apos.endLine == cpos.line) = true) (h1 : PE X (.Name x p) (rdE C W (evE cf a))) (h2 : PE X e (rdE C W (evE cf b))) :
    PE X (.Call (.Attribute (.Name x p) "index" apos) [e] [] cpos) (rdE C W (evE cf (.idxOf a b))) := by
  refine weak (pe_meth1 PySem.F.plainAttrs_list PySem.F.slot_list_index PySem.F.type_list_index mt_index h1 (pa_cons h2 pa_nil (star_cons hs)) hs base_name hline) fun σ H Q ⟨μ, st, r, w, hr, h⟩ => ?_
  rw [evE] at h
  refine step w hr h fun d st1 μ1 H1 n1 w1 hr1 h1 v rv => ?_
  split at h1
  · rename_i l0 ev0
    obtain ⟨a, xs0, rfl, e0, r0⟩ := view_ok w1 rv ev0
    refine ⟨ty_list (.inl e0), ?_⟩
    refine step w1 hr1 h1 fun d' st2 μ2 H2 n2 w2 hr2 h2 v' rv' => ?_
    split at h2
    · rename_i l z ev
      obtain ⟨a2, xs, ea, e2, r2⟩ := view_ok w2 (rv.nx n2) ev
      split at h2
      · rename_i hall
        split at h2
        · rename_i q eq
          obtain ⟨fl, j, u, rfl, c1, c2, c3⟩ := idx_ints r2 hall eq
          rw [Nat.zero_add] at h2
          exact ⟨a2, xs, .int z, j, u, ea, by rw [RP.int_iff.mp (show RP C H2 (.int z) v' from rv')], .inl e2, rfl, fl, c1, c2, c3, hereD h2 w2 (show RP C H2 (.int (j : Nat)) (.int (j : Nat)) from RP.int_iff.mpr rfl)⟩
        · exact h2.elim
      · exact h2.elim
    · exact h2.elim
  · exact h1.elim
end
end Ev

set_option Elab.async false
set_option linter.all false
set_option maxRecDepth 100000
set_option maxHeartbeats 1000000
namespace Ev
open PySem PySem.Spec PyProof.Rows L2

/-! ### a lambda handed to a def that calls it and tells of its error -/
/-- what a def's exceptions want -/
def leaveX (C : Gc) (E : XK) : XW := fun c fs st μ H σ => ∀ A, C.ga[c]? = some A → ∀ d, ExD C H fs d → E (.ref A) d H
section
variable {C : Gc} {M : Md} {F : Fr} {cf : Cf} {k : Nat} {W : XW} {X : Cx}
/-- the lambda's body, as an expression of its own -/
theorem lam_ok (o : XOk C M F cf k W X) {scope : Scope} {A : Around} {outer : List Env} {s : Shared} {H : Hp} {E : XK} {f c' : Addr} (hr : Room k (A.deeper (LamX.lamEnv X scope s.heap.objs.size f c'))) :
    XOk C M ⟨F.N, scope, fun _ => false, false⟩ cf k (leaveX C E) (LamX.lamCx X A outer s H E scope f c') := by
  have tk := takes_of (X := LamX.lamCx X A outer s H E scope f c') rfl rfl rfl rfl
  refine ⟨o.prog, o.w, o.K, rfl, o.N, o.nd, rfl, fun _ z => (by cases z), hr, o.blt, o.fns, o.fok, o.gcs, fun σ => ?_, fun z => (by cases z), o.ctc⟩
  exact fun pins H1 s1 e s' I c => tk e s' (XE.of_call I (fun cls d H' ⟨c, fs, st, μ, A, hA, ec, hd, _, hw⟩ => by subst ec; exact hw A hA d hd) c)
/-- the store, while tables grow -/
theorem Wd.tabs {μ : List Addr} {st : St} {H H1 : Hp} (w : Wd C H μ st) (e : LamX.ExtN H H1) (t : LamX.Tabs C.tbs H1) : Wd C H1 μ st ∧ Nx μ H μ H1 := by
  have kp : Keep H H1 := fun b o h i => e b o h fun ps z => by subst z; exact i
  have same : ∀ a ∈ μ, H1 a = H a ∧ NT ((H a).getD (.own 0)) ∧ ∀ q, H a ≠ some (LamX.CodeO a q) := fun a ha => by
    obtain ⟨n, hn, en⟩ := List.mem_iff_getElem.mp ha
    have h2 : n < st.length := by rw [← w.len]; exact hn
    have ob := w.at_ n a st[n] (by simp [hn, en]) (by simp [h2])
    cases hq : st[n] with
    | lst l =>
      rw [hq] at ob
      obtain ⟨xs, q, _⟩ := ob
      exact ⟨by rw [e a _ q (fun ps z => by cases z), q], by rw [q]; exact fun ps z => (by cases z), fun q' z => by rw [q] at z; cases z⟩
    | dct ks vs =>
      rw [hq] at ob
      obtain ⟨u, q, r⟩ := ob
      have nt : NT u := by rcases r with ⟨_, rfl, _⟩ | ⟨_, _, _, rfl, _⟩ <;> exact fun ps z => by cases z
      exact ⟨by rw [e a _ q nt, q], by rw [q]; exact nt, fun q' z => by rw [q] at z; exact nc_dct r q' (Option.some.inj z)⟩
    | ins c fs =>
      rw [hq] at ob
      obtain ⟨dx, A, vs, _, q, _⟩ := ob
      exact ⟨by rw [e a _ q (fun ps z => by cases z), q], by rw [q]; exact fun ps z => (by cases z), fun q' z => by rw [q] at z; cases z⟩
    | gone =>
      rw [hq] at ob
      obtain ⟨od, u, q⟩ := ob
      exact ⟨by rw [e a _ q (fun ps z => by cases z), q], by rw [q]; exact fun ps z => (by cases z), fun q' z => by rw [q] at z; cases z⟩
  refine ⟨w.keep kp (fun a ha => (same a ha).1) fun p hp => ?_, List.prefix_rfl, kp, fun b o h m nt => e b o h nt, fun b m n => absurd m n⟩
  obtain ⟨ps, h1, h2, h3⟩ := t p hp
  have nT : ∀ a ∈ μ, ∀ ps, H1 a ≠ some (.tbl ps) := fun a ha ps z => by
    obtain ⟨q1, q2, _⟩ := same a ha
    rw [q1] at z
    rw [z] at q2
    exact q2 ps rfl
  have nC : ∀ a ∈ μ, ∀ q, H1 a ≠ some (LamX.CodeO a q) := fun a ha q z => by
    obtain ⟨q1, _, q3⟩ := same a ha
    rw [q1] at z
    exact q3 q z
  refine ⟨ps, h1, h2, fun m => nT _ m _ h1, fun pos cv hc => ?_⟩
  obtain ⟨c, e1, e2⟩ := h3 pos cv hc
  exact ⟨c, e1, e2, fun m => nC _ m _ e2⟩
theorem TabO.tabs {μ : List Addr} {H : Hp} (t : TabO C H μ) : LamX.Tabs C.tbs H := fun p hp => by
  obtain ⟨ps, h1, h2, _, h4⟩ := t p hp
  exact ⟨ps, h1, h2, fun pos cv hc => let ⟨c, e1, e2, _⟩ := h4 pos cv hc; ⟨c, e1, e2⟩⟩
theorem take_back {μ μ1 : List Addr} {H H1 : Hp} {st s1 : St} (w : Wd C H μ st) (n : Nx μ H μ1 H1) (w1 : Wd C H1 μ1 s1) : Nx μ H μ H1 ∧ Wd C H1 μ (s1.take st.length) := by
  have e : μ1.take st.length = μ := by
    obtain ⟨t, rfl⟩ := n.pre
    rw [← w.len, List.take_left]
  have w2 := w1.take st.length
  rw [e] at w2
  exact ⟨⟨List.prefix_rfl, n.keep, n.rest, fun b m z => absurd m z⟩, w2⟩
theorem g_word (o : XOk C M F cf k W X) {g : Nat} {okv : P} {tab : List (Nat × Tell)} {a : E} {x : Str} {body : Expr} {scope : Scope} {p lpos pos : Pos} (hl : F.lam = true) (hct : (x, okv, tab) ∈ M.cts) (hg : glB F.sc x = true) (hn : nmB x = true) (L : LamX.lamSB F.sc scope = true)
    (hb : ∀ W' X', XOk C M ⟨F.N, scope, fun _ => false, false⟩ cf k W' X' → PE X' body (rdE C W' (evE cf a))) :
    PE X (.Call (.Name x p) [.Lambda ⟨[], [], none, [], [], none, []⟩ body scope lpos] [] pos) (rdE C W (evE cf (.word g okv tab a))) := by
  obtain ⟨rm, c, P, hcode, TB, hmT, hu⟩ := o.lam hl
  obtain ⟨a0, gA, pg, bg, sg, dV, kV, doc, pm, cdv, ct, oc, an, od, osl, Ng, hm, hk, lk, hcg, hbd, Sg, hNg, hva, hd1, hd2, G⟩ := o.ctc x okv tab hct
  obtain ⟨n1, n2, n3⟩ := nmB_of hn
  refine weak (LamX.pe_lamcall (T := C.tbs) (TT := TTw C okv tab) (t := fun E => rdE C (leaveX C E) (evE cf a)) (glB_of o.sc hg) hm (by rw [o.K]; exact hk) (by rw [o.K]; exact lk) (by rw [o.K]; exact hcg) (by rw [o.K]; exact hbd) Sg hNg hva (G X _ o.prog o.w o.K rfl rfl) TB hcode hmT hu rm (LamX.lamS_by (by rw [o.sc]; exact L)) rfl (fun _ _ _ _ _ => rfl)
    (fun A outer s H E f c' hr => hb _ _ (lam_ok o hr)) n1 hd1 hd2) fun σ H Q ⟨μ, st, r, w, hr, h⟩ => ?_
  refine ⟨w.tab.tabs, fun H1 e1 t1 => ?_⟩
  obtain ⟨w1, nx1⟩ := w.tabs e1 t1
  refine ⟨μ, st, r, w1, hr.nx nx1, ?_⟩
  rw [evE] at h
  cases er : evE cf a r st with
  | ok d s1 =>
    rw [er] at h
    intro μ2 H2 n2 w2 v rv H3 v' sm rp
    obtain ⟨n3, w3⟩ := take_back w1 n2 w2
    exact h μ H3 ((nx1.trans n3).trans (Nx.same sm)) (w3.same sm) v' rp
  | exc c fs s1 =>
    rw [er] at h
    intro μ2 H2 n2 w2 A hA d hd
    obtain ⟨n3, w3⟩ := take_back w1 n2 w2
    have h : post C W σ μ H (match wordOf tab c fs with | some x => R.ok (.p x) (s1.take st.length) | none => .bad) (okD C Q) := h
    split at h
    · rename_i y ey
      exact ⟨c, A, fs, y, hA, rfl, hd, ey, fun H3 v' sm rp => h μ H3 ((nx1.trans n3).trans (Nx.same sm)) (w3.same sm) v' rp⟩
    · exact h.elim
  | bad => rw [er] at h; exact h.elim
end
end Ev

set_option Elab.async false
set_option linter.all false
set_option maxRecDepth 100000
set_option maxHeartbeats 1000000
namespace Ev
open PySem PySem.Spec PyProof.Rows L2

/-! ### the check: an own term is this syntax -/
def asLC : Expr → Option (Expr × List Comprehension × Scope)
  | .ListComp e g s _ => some (e, g, s)
  | _ => none
theorem asLC_of {e x : Expr} {g : List Comprehension} {s : Scope} (h : asLC e = some (x, g, s)) : ∃ p, e = .ListComp x g s p := by
  cases e <;> first | (cases h; exact ⟨_, rfl⟩) | cases h
def asDC : Expr → Option (Expr × Expr × List Comprehension × Scope)
  | .DictComp a b g s _ => some (a, b, g, s)
  | _ => none
theorem asDC_of {e x y : Expr} {g : List Comprehension} {s : Scope} (h : asDC e = some (x, y, g, s)) : ∃ p, e = .DictComp x y g s p := by
  cases e <;> first | (cases h; exact ⟨_, rfl⟩) | cases h
def asG1 : List Comprehension → Option (Expr × Expr × List Expr)
  | [⟨t, i, f, 0⟩] => some (t, i, f)
  | _ => none
theorem asG1_of {g : List Comprehension} {t i : Expr} {f : List Expr} (h : asG1 g = some (t, i, f)) : g = [⟨t, i, f, 0⟩] := by
  unfold asG1 at h
  split at h
  · cases h; rfl
  · cases h
def asG2 : List Comprehension → Option ((Expr × Expr × List Expr) × Expr × Expr × List Expr)
  | [⟨t, i, f, 0⟩, ⟨t1, i1, f1, 0⟩] => some ((t, i, f), t1, i1, f1)
  | _ => none
theorem asG2_of {g : List Comprehension} {t i t1 i1 : Expr} {f f1 : List Expr} (h : asG2 g = some ((t, i, f), t1, i1, f1)) : g = [⟨t, i, f, 0⟩, ⟨t1, i1, f1, 0⟩] := by
  unfold asG2 at h
  split at h
  · cases h; rfl
  · cases h
/-- a method of one argument, on one line with its name -/
def asM1 : Expr → Option (Str × Pos × Str × Expr)
  | .Call (.Attribute (.Name x p) m apos) [e] [] cpos => if (apos.endLine == cpos.line) = true then some (x, p, m, e) else none
  | _ => none
theorem asM1_of {e a : Expr} {x m : Str} {p : Pos} (h : asM1 e = some (x, p, m, a)) : ∃ apos cpos, e = .Call (.Attribute (.Name x p) m apos) [a] [] cpos ∧ (apos.endLine == cpos.line) = true := by
  unfold asM1 at h
  split at h
  · split at h
    · rename_i hl
      cases h; exact ⟨_, _, rfl, hl⟩
    · cases h
  · cases h
/-- a def that gets a lambda -/
def asLam : Expr → Option (Str × Expr × Scope)
  | .Call (.Name x _) [.Lambda ⟨[], [], none, [], [], none, []⟩ body scope _] [] _ => some (x, body, scope)
  | _ => none
theorem asLam_of {e b : Expr} {x : Str} {s : Scope} (h : asLam e = some (x, b, s)) : ∃ p lpos pos, e = .Call (.Name x p) [.Lambda ⟨[], [], none, [], [], none, []⟩ b s lpos] [] pos := by
  unfold asLam at h
  split at h
  · cases h; exact ⟨_, _, _, rfl⟩
  · cases h
def unB : U → Str → Bool
  | .len, f => decide (f = "len") | .abs, f => decide (f = "abs") | .sum, f => decide (f = "sum") | .all, f => decide (f = "all") | .any, f => decide (f = "any")
  | .int, f => decide (f = "int") | .tuple, f => decide (f = "tuple")
  | _, _ => false
def isB : U → Str → Bool
  | .isInt, t => decide (t = "int") | .isBool, t => decide (t = "bool") | .isTup, t => decide (t = "tuple") | .isStr, t => decide (t = "str")
  | _, _ => false
def bB : B → Operator → Bool
  | .add, .Add => true | .sub, .Sub => true | .mul, .Mult => true | .fdiv, .FloorDiv => true | .mod, .Mod => true | .pow, .Pow => true
  | _, _ => false
def mmB : B → Str → Bool
  | .min2, f => decide (f = "min") | .max2, f => decide (f = "max")
  | _, _ => false
def ownOf (F : Fr) (vs : List Nat) : List (Str × Nat) := vs.map fun i => ((F.N[i]?).getD "", i)
theorem own_map (F : Fr) (vs : List Nat) : (ownOf F vs).map (·.2) = vs := by
  unfold ownOf
  rw [List.map_map]
  exact List.map_id' _
def slB (a b : List Nat) : Bool := a.all fun i => b.contains i
theorem slB_of {a b : List Nat} (h : slB a b = true) : ∀ i ∈ a, i ∈ b := fun i hi => by
  unfold slB at h
  rw [List.all_eq_true] at h
  simpa using h i hi
section
variable (M : Md)
mutual
def ckE : E → Fr → Expr → Bool
  | .var i, F, e => (match asName e with | some x => decide (F.N[i]? = some x) && (visB F.sc x && nmB x) | none => false)
  | .lit x, F, e => constB x e
  | .gc y nm, F, e => (match asName e with | some x => decide (x = nm) && (decide (M.gcs.lookup x = some y) && (glB F.sc x && nmB x)) | none => false)
  | .glo g, F, e => (match asName e with | some x => decide (M.fns.lookup x = some g) && (glB F.sc x && nmB x) | none => false)
  | .tup es, F, e => (match asTup e with | some l => decide (l.length ≤ 1000) && (decide (es.len = l.length) && ckEs es F l) | none => false)
  | .un u a, F, e => (decide (u = .tuple) && ckTR a F e) || ((match asCall e with
    | some (f, [y]) => (match asCall y with
      | some (f2, [x]) => decide (u = .nset) && (decide (f = "len") && (decide (f2 = "set") && (notStar x && (glB F.sc f && (glB F.sc f2 && ckE a F x)))))
      | _ => false)
    | _ => false) || (match asNeg e with
    | some x => decide (u = .neg) && ckE a F x
    | none => match asCall e with
      | some (f, [x]) => unB u f && (notStar x && (glB F.sc f && ckE a F x))
      | some (f, [x, y]) => (match asName y with
        | some t => decide (f = "isinstance") && (isB u t && (glB F.sc f && (glB F.sc t && (notStar x && ckE a F x))))
        | none => false)
      | _ => false))
  | .bin o a b, F, e => (match asSub e with
    | some (x, y) => decide (o = .idx) && (notSlice y && (ckE a F x && ckE b F y))
    | none => match asBin e with
      | some (x, op, y) => bB o op && (ckE a F x && ckE b F y)
      | none => match asCall e with
        | some (f, [x, y]) => mmB o f && (notStar x && (notStar y && (glB F.sc f && (ckE a F x && ckE b F y))))
        | _ => false)
  | .slc a lo hi, F, e => (match asSub e with
    | some (x, s) => (match asSlice s with | some (l, u) => ckE a F x && (ckO lo F l && ckO hi F u) | none => false)
    | none => false)
  | .ife t a b, F, e => (match asIf e with | some (c, x, y) => ckT t F c && (ckE a F x && ckE b F y) | none => false)
  | .tv t, F, e => ckT t F e
  | .frz l, F, e => ckL l F e
  | .new l, F, e => ckL l F e
  | .frzM m, F, e => ckM m F e
  | .newM m, F, e => ckM m F e
  | .call g es, F, e => (match asCall e with
    | some (f, x :: xs) => decide (M.fns.lookup f = some g) && (glB F.sc f && (nmB f && (notStar x && (xs.all notStar && ckEs es F (x :: xs)))))
    | _ => false)
  | .mx mn t a, F, e => (match asCall e with
    | some (f, [x]) => decide (f = if mn = true then "min" else "max") && (notStar x && (glB F.sc f && ckE a F x))
    | _ => false)
  | .rngv a, F, e => (match asCall e with
    | some (f, [x]) => decide (f = "range") && (notStar x && (glB F.sc f && ckE a F x))
    | _ => false)
  | .fz i, F, e => (match asName e with | some x => decide (F.N[i]? = some x) && (visB F.sc x && nmB x) | none => false)
  | .idxOf a b, F, e => (match asM1 e with
    | some (x, p, m, y) => decide (m = "index") && (notStar y && (ckE a F (.Name x p) && ckE b F y))
    | none => false)
  | .word g okv tab a, F, e => (match asLam e with
    | some (x, body, scope) => F.lam && (decide ((x, okv, tab) ∈ M.cts) && (glB F.sc x && (nmB x && (LamX.lamSB F.sc scope && ckE a ⟨F.N, scope, fun _ => false, false⟩ body))))
    | none => false)
  | _, _, _ => false
def ckTR : E → Fr → Expr → Bool
  | .frz (.ofR (.rng1 a)), F, e => (match asCall e with
    | some (f, [y]) => (match asCall y with
      | some (f2, [x]) => decide (f = "tuple") && (decide (f2 = "range") && (notStar x && (glB F.sc f && (glB F.sc f2 && ckE a F x))))
      | _ => false)
    | _ => false)
  | .frz (.ofR (.rng2 a b)), F, e => (match asCall e with
    | some (f, [z]) => (match asCall z with
      | some (f2, [x, y]) => decide (f = "tuple") && (decide (f2 = "range") && (notStar x && (notStar y && (glB F.sc f && (glB F.sc f2 && (ckE a F x && ckE b F y))))))
      | _ => false)
    | _ => false)
  | _, _, _ => false
def ckEs : Es → Fr → List Expr → Bool
  | .nil, _, [] => true
  | .cons a as, F, e :: es => notStar e && (ckE a F e && ckEs as F es)
  | _, _, _ => false
def ckO : Oe → Fr → Option Expr → Bool
  | .none, _, none => true
  | .some a, F, some e => ckE a F e
  | _, _, _ => false
def ckT : T → Fr → Expr → Bool
  | .cmp c a b, F, e => (match asCmp1 e with | some (x, op, y) => cOk c op && (notSet y && (ckE a F x && ckE b F y)) | none => false)
  | .chain c c' a b d, F, e => (match asCmp2 e with | some (x, op, y, op', z) => cOk c op && (cOk c' op' && (notSet z && (ckE a F x && (ckE b F y && ckE d F z)))) | none => false)
  | .not t, F, e => (match asNot e with | some x => ckT t F x | none => false)
  | .and t u, F, e => (match asBool e with
    | some (.And, x, [y], _) => ckT t F x && ckT u F y
    | some (.And, x, y :: z :: r, p) => ckT t F x && ckT u F (.BoolOp .And (y :: z :: r) p)
    | _ => false)
  | .or t u, F, e => (match asBool e with
    | some (.Or, x, [y], _) => ckT t F x && ckT u F y
    | some (.Or, x, y :: z :: r, p) => ckT t F x && ckT u F (.BoolOp .Or (y :: z :: r) p)
    | _ => false)
  | .tru a, F, e => plainT e && ckE a F e
  | .emp _ _, _, _ => false
def ckTo : To → Fr → List Expr → Bool
  | .yes, _, [] => true
  | .if1 t, F, [e] => ckT t F e
  | _, _, _ => false
def ckL : L → Fr → Expr → Bool
  | .disp es, F, e => (match asLst e with | some l => decide (l.length ≤ 1000) && (decide (es.len = l.length) && ckEs es F l) | none => false)
  | .comp vs tg it ifs elt, F, e => (match asLC e with
    | some (x, g, s) => (match asG1 g with
      | some (t, i, f) => blkC F.N F.sc s (ownOf F vs) && (notSet i && (slB tg.slots vs && (ckI it F t i && (ckG (F.blk s) tg t && (ckTo ifs (F.blk s) f && ckE elt (F.blk s) x)))))
      | none => false)
    | none => false)
  | .comp2 vs tg it ifs vs1 tg1 it1 ifs1 elt, F, e => (match asLC e with
    | some (x, g, s) => (match asG2 g with
      | some ((t, i, f), t1, i1, f1) => blkC F.N F.sc s (ownOf F vs) && (notSet i && (notSet i1 && (slB tg.slots vs && (slB tg1.slots vs1 && (slB vs1 vs && (ckI it F t i && (ckG (F.blk s) tg t && (ckTo ifs (F.blk s) f && (ckI it1 (F.blk s) t1 i1 && (ckG (F.blk s) tg1 t1 && (ckTo ifs1 (F.blk s) f1 && ckE elt (F.blk s) x)))))))))))
      | none => false)
    | none => false)
  | .ofE a, F, e => (match asCall e with
    | some (f, [x]) => decide (f = "list") && (notStar x && (glB F.sc f && ckE a F x))
    | _ => false)
  | .ofR (.rng1 a), F, e => (match asCall e with
    | some (f, [y]) => (match asCall y with
      | some (f2, [x]) => decide (f = "list") && (decide (f2 = "range") && (notStar x && (glB F.sc f && (glB F.sc f2 && ckE a F x))))
      | _ => false)
    | _ => false)
  | .ofR (.rng2 a b), F, e => (match asCall e with
    | some (f, [z]) => (match asCall z with
      | some (f2, [x, y]) => decide (f = "list") && (decide (f2 = "range") && (notStar x && (notStar y && (glB F.sc f && (glB F.sc f2 && (ckE a F x && ckE b F y))))))
      | _ => false)
    | _ => false)
  | .sorted t a, F, e => (match asCall e with
    | some (f, [x]) => decide (f = "sorted") && (notStar x && (glB F.sc f && ckE a F x))
    | _ => false)
  | .cat a b, F, e => (match asBin e with | some (x, .Add, y) => ckE a F x && ckE b F y | _ => false)
  | .rep a b, F, e => (match asBin e with | some (x, .Mult, y) => ckE a F x && ckE b F y | _ => false)
  | .slc a lo hi, F, e => (match asSub e with
    | some (x, s) => (match asSlice s with | some (l, u) => ckE a F x && (ckO lo F l && ckO hi F u) | none => false)
    | none => false)
  | _, _, _ => false
def ckM : Ev.M → Fr → Expr → Bool
  | .comp vs tg it ifs k v, F, e => (match asDC e with
    | some (x, y, g, s) => (match asG1 g with
      | some (t, i, f) => blkC F.N F.sc s (ownOf F vs) && (notSet i && (slB tg.slots vs && (ckI it F t i && (ckG (F.blk s) tg t && (ckTo ifs (F.blk s) f && (ckE k (F.blk s) x && ckE v (F.blk s) y))))))
      | none => false)
    | none => false)
  | .comp2 vs tg it ifs vs1 tg1 it1 ifs1 k v, F, e => (match asDC e with
    | some (x, y, g, s) => (match asG2 g with
      | some ((t, i, f), t1, i1, f1) => blkC F.N F.sc s (ownOf F vs) && (notSet i && (notSet i1 && (slB tg.slots vs && (slB tg1.slots vs1 && (slB vs1 vs && (ckI it F t i && (ckG (F.blk s) tg t && (ckTo ifs (F.blk s) f && (ckI it1 (F.blk s) t1 i1 && (ckG (F.blk s) tg1 t1 && (ckTo ifs1 (F.blk s) f1 && (ckE k (F.blk s) x && ckE v (F.blk s) y))))))))))))
      | none => false)
    | none => false)
  | _, _, _ => false
def ckI : I → Fr → Expr → Expr → Bool
  | .ex a, F, _, e => ckE a F e
  | .rng1 a, F, _, e => (match asCall e with
    | some (f, [x]) => decide (f = "range") && (notStar x && (glB F.sc f && ckE a F x))
    | _ => false)
  | .rng2 a b, F, _, e => (match asCall e with
    | some (f, [x, y]) => decide (f = "range") && (notStar x && (notStar y && (glB F.sc f && (ckE a F x && ckE b F y))))
    | _ => false)
  | .enum a, F, t, e => (match asTup t with
    | some _ => (match asCall e with
      | some (f, [x]) => decide (f = "enumerate") && (notStar x && (glB F.sc f && ckE a F x))
      | _ => false)
    | none => false)
  | .zip a b, F, t, e => (match asTup t with
    | some _ => (match asCall e with
      | some (f, [x, y]) => decide (f = "zip") && (notStar x && (notStar y && (glB F.sc f && (ckE a F x && ckE b F y))))
      | _ => false)
    | none => false)
  | _, _, _, _ => false
end
end
/-! ### the names of built-ins -/
theorem un_call {C : Gc} {M : Md} {F : Fr} {cf : Cf} {k : Nat} {W : XW} {X : Cx} (o : XOk C M F cf k W X) {u : U} {f : Str} {a : E} {x : Expr} {p pos : Pos} (h : unB u f = true) (hs : notStar x = true) (hg : glB F.sc f = true) (h1 : PE X x (rdE C W (evE cf a))) : PE X (.Call (.Name f p) [x] [] pos) (rdE C W (evE cf (.un u a))) := by
  cases u <;> first | (cases h; done) | (obtain rfl := of_decide_eq_true h)
  · exact g_un o hs (by decide +kernel) (by decide +kernel) hg (by decide +kernel) (u_len o.prog o.w o.K) h1
  · exact g_un o hs (by decide +kernel) (by decide +kernel) hg (by decide +kernel) u_abs h1
  · exact g_unTy o hs (by decide +kernel) (by decide +kernel) hg (by decide +kernel) u_int h1
  · exact g_un o hs (by decide +kernel) (by decide +kernel) hg (by decide +kernel) (u_sum o.K o.calm) h1
  · exact g_un o hs (by decide +kernel) (by decide +kernel) hg (by decide +kernel) (u_all o.K o.calm) h1
  · exact g_un o hs (by decide +kernel) (by decide +kernel) hg (by decide +kernel) (u_any o.K o.calm) h1
  · exact g_unTy o hs (by decide +kernel) (by decide +kernel) hg (by decide +kernel) (u_tuple o.K) h1
theorem isi_call {C : Gc} {M : Md} {F : Fr} {cf : Cf} {k : Nat} {W : XW} {X : Cx} (o : XOk C M F cf k W X) {u : U} {f t : Str} {a : E} {x : Expr} {p p2 pos : Pos} (hf : f = "isinstance") (h : isB u t = true) (hg : glB F.sc f = true) (ht : glB F.sc t = true) (hs : notStar x = true) (h1 : PE X x (rdE C W (evE cf a))) : PE X (.Call (.Name f p) [x, .Name t p2] [] pos) (rdE C W (evE cf (.un u a))) := by
  cases u <;> first | (cases h; done) | (obtain rfl := of_decide_eq_true h)
  · exact g_isi (t := "int") o hs hf (hf ▸ hg) (by decide +kernel) (by decide +kernel) ht (by decide +kernel) (fun q z e => isi_int e) h1
  · exact g_isi (t := "bool") o hs hf (hf ▸ hg) (by decide +kernel) (by decide +kernel) ht (by decide +kernel) (fun q z e => isi_bool e) h1
  · exact g_isi (t := "tuple") o hs hf (hf ▸ hg) (by decide +kernel) (by decide +kernel) ht (by decide +kernel) (fun q z e => isi_tup e) h1
  · exact g_isi (t := "str") o hs hf (hf ▸ hg) (by decide +kernel) (by decide +kernel) ht (by decide +kernel) (fun q z e => isi_str e) h1
theorem bin_op {C : Gc} {M : Md} {F : Fr} {cf : Cf} {k : Nat} {W : XW} {X : Cx} (o : XOk C M F cf k W X) {u : B} {op : Operator} {a b : E} {x y : Expr} {pos : Pos} (h : bB u op = true) (h1 : PE X x (rdE C W (evE cf a))) (h2 : PE X y (rdE C W (evE cf b))) : PE X (.BinOp x op y pos) (rdE C W (evE cf (.bin u a b))) := by
  cases u <;> first
    | (obtain rfl : op = .Add := by cases op <;> first | rfl | exact absurd h (by decide)
       exact g_bin (b_add o.K) h1 h2)
    | (obtain rfl : op = .Sub := by cases op <;> first | rfl | exact absurd h (by decide)
       exact g_bin b_sub h1 h2)
    | (obtain rfl : op = .Mult := by cases op <;> first | rfl | exact absurd h (by decide)
       exact g_bin (b_mul o.K) h1 h2)
    | (obtain rfl : op = .FloorDiv := by cases op <;> first | rfl | exact absurd h (by decide)
       exact g_bin b_fdiv h1 h2)
    | (obtain rfl : op = .Mod := by cases op <;> first | rfl | exact absurd h (by decide)
       exact g_bin b_mod h1 h2)
    | (obtain rfl : op = .Pow := by cases op <;> first | rfl | exact absurd h (by decide)
       exact g_bin b_pow h1 h2)
    | (exfalso; cases op <;> exact absurd h (by decide))
theorem mm_call {C : Gc} {M : Md} {F : Fr} {cf : Cf} {k : Nat} {W : XW} {X : Cx} (o : XOk C M F cf k W X) {u : B} {f : Str} {a b : E} {x y : Expr} {p pos : Pos} (h : mmB u f = true) (hs : notStar x = true) (hs' : notStar y = true) (hg : glB F.sc f = true) (h1 : PE X x (rdE C W (evE cf a))) (h2 : PE X y (rdE C W (evE cf b))) : PE X (.Call (.Name f p) [x, y] [] pos) (rdE C W (evE cf (.bin u a b))) := by
  cases u <;> first | (cases h; done) | (obtain rfl := of_decide_eq_true h)
  · exact g_min2 o hs hs' (by decide +kernel) (by decide +kernel) hg (by decide +kernel) (b_min2 o.calm) h1 h2
  · exact g_min2 o hs hs' (by decide +kernel) (by decide +kernel) hg (by decide +kernel) (b_max2 o.calm) h1 h2
end Ev

set_option Elab.async false
set_option linter.all false
set_option maxRecDepth 100000
set_option maxHeartbeats 4000000
namespace Ev
open PySem PySem.Spec PyProof.Rows L2

theorem and3 {a b : Bool} (h : (a && b) = true) : a = true ∧ b = true := by rwa [Bool.and_eq_true] at h
section
variable {C : Gc} {M : Md} {cf : Cf} {k : Nat}
theorem blk_ok {F : Fr} {W : XW} {X : Cx} (o : XOk C M F cf k W X) {s : Scope} {vs : List Nat} (h : blkC F.N F.sc s (ownOf F vs) = true) : BlkOk X.N X.env.scope s (ownOf F vs) := by
  rw [o.N, o.sc]; exact blkOk_by h
mutual
theorem sE : ∀ (a : E) (F : Fr) (e : Expr) (W : XW) (X : Cx), XOk C M F cf k W X → ckE M a F e = true → PE X e (rdE C W (evE cf a))
  | .var i, F, e, W, X, o, h => by
    rw [ckE] at h
    split at h
    · rename_i x hx
      obtain ⟨p, rfl⟩ := asName_of hx
      obtain ⟨h1, h⟩ := and3 h
      obtain ⟨h2, h3⟩ := and3 h
      exact g_var o (of_decide_eq_true h1) h2 h3
    · cases h
  | .lit x, F, e, W, X, o, h => by
    rw [ckE] at h
    exact g_lit h
  | .gc y nm, F, e, W, X, o, h => by
    rw [ckE] at h
    split at h
    · rename_i x hx
      obtain ⟨p, rfl⟩ := asName_of hx
      obtain ⟨h1, h⟩ := and3 h
      obtain ⟨h2, h⟩ := and3 h
      obtain ⟨h3, h4⟩ := and3 h
      obtain rfl := of_decide_eq_true h1
      exact g_gc o (of_decide_eq_true h2) h3 h4
    · cases h
  | .glo g, F, e, W, X, o, h => by
    rw [ckE] at h
    split at h
    · rename_i x hx
      obtain ⟨p, rfl⟩ := asName_of hx
      obtain ⟨h1, h⟩ := and3 h
      obtain ⟨h2, h3⟩ := and3 h
      exact g_glo o (of_decide_eq_true h1) h2 h3
    · cases h
  | .tup es, F, e, W, X, o, h => by
    rw [ckE] at h
    split at h
    · rename_i l hx
      obtain ⟨kk, p, rfl⟩ := asTup_of hx
      obtain ⟨h1, h⟩ := and3 h
      obtain ⟨h2, h3⟩ := and3 h
      exact g_tup (of_decide_eq_true h1) (of_decide_eq_true h2) (sEs es F l W X o h3)
    · cases h
  | .un u a, F, e, W, X, o, h => by
    rw [ckE, Bool.or_eq_true] at h
    rcases h with h | h
    · obtain ⟨h1, h2⟩ := and3 h
      obtain rfl := of_decide_eq_true h1
      exact sTR a F e W X o h2
    rw [Bool.or_eq_true] at h
    rcases h with h | h
    · split at h
      · rename_i f y hx
        obtain ⟨p, pos, rfl⟩ := asCall_of hx
        split at h
        · rename_i f2 x hy
          obtain ⟨p2, pos2, rfl⟩ := asCall_of hy
          obtain ⟨h0, h⟩ := and3 h
          obtain ⟨h1, h⟩ := and3 h
          obtain ⟨h2, h⟩ := and3 h
          obtain ⟨h3, h⟩ := and3 h
          obtain ⟨h4, h⟩ := and3 h
          obtain ⟨h5, h6⟩ := and3 h
          obtain rfl := of_decide_eq_true h0
          obtain rfl := of_decide_eq_true h1
          obtain rfl := of_decide_eq_true h2
          exact g_nset o h3 h4 h5 (sE a F x W X o h6)
        · cases h
      · cases h
    split at h
    · rename_i x hx
      obtain ⟨p, rfl⟩ := asNeg_of hx
      obtain ⟨h1, h2⟩ := and3 h
      obtain rfl := of_decide_eq_true h1
      exact g_neg (sE a F x W X o h2)
    · split at h
      · rename_i f x hx
        obtain ⟨p, pos, rfl⟩ := asCall_of hx
        obtain ⟨h1, h⟩ := and3 h
        obtain ⟨h2, h⟩ := and3 h
        obtain ⟨h3, h4⟩ := and3 h
        exact un_call o h1 h2 h3 (sE a F x W X o h4)
      · rename_i f x y hx
        obtain ⟨p, pos, rfl⟩ := asCall_of hx
        split at h
        · rename_i t ht
          obtain ⟨p2, rfl⟩ := asName_of ht
          obtain ⟨h1, h⟩ := and3 h
          obtain ⟨h2, h⟩ := and3 h
          obtain ⟨h3, h⟩ := and3 h
          obtain ⟨h4, h⟩ := and3 h
          obtain ⟨h5, h6⟩ := and3 h
          exact isi_call o (of_decide_eq_true h1) h2 h3 h4 h5 (sE a F x W X o h6)
        · cases h
      · cases h
  | .bin u a b, F, e, W, X, o, h => by
    rw [ckE] at h
    split at h
    · rename_i x y hx
      obtain ⟨p, rfl⟩ := asSub_of hx
      obtain ⟨h1, h⟩ := and3 h
      obtain ⟨h2, h⟩ := and3 h
      obtain ⟨h3, h4⟩ := and3 h
      obtain rfl := of_decide_eq_true h1
      exact g_idx o h2 (sE a F x W X o h3) (sE b F y W X o h4)
    · split at h
      · rename_i x op y hx
        obtain ⟨p, rfl⟩ := asBin_of hx
        obtain ⟨h1, h⟩ := and3 h
        obtain ⟨h3, h4⟩ := and3 h
        exact bin_op o h1 (sE a F x W X o h3) (sE b F y W X o h4)
      · split at h
        · rename_i f x y hx
          obtain ⟨p, pos, rfl⟩ := asCall_of hx
          obtain ⟨h1, h⟩ := and3 h
          obtain ⟨h2, h⟩ := and3 h
          obtain ⟨h3, h⟩ := and3 h
          obtain ⟨h4, h⟩ := and3 h
          obtain ⟨h5, h6⟩ := and3 h
          exact mm_call o h1 h2 h3 h4 (sE a F x W X o h5) (sE b F y W X o h6)
        · cases h
  | .get1 _ _, F, e, W, X, o, h => absurd (show false = true from h) Bool.false_ne_true
  | .get2 _ _ _, F, e, W, X, o, h => absurd (show false = true from h) Bool.false_ne_true
  | .slc a lo hi, F, e, W, X, o, h => by
    rw [ckE] at h
    split at h
    · rename_i x s hx
      obtain ⟨p, rfl⟩ := asSub_of hx
      split at h
      · rename_i l u hs
        obtain ⟨p2, rfl⟩ := asSlice_of hs
        obtain ⟨h1, h⟩ := and3 h
        obtain ⟨h2, h3⟩ := and3 h
        exact g_slc o (sE a F x W X o h1) (sO lo F l W X o h2) (sO hi F u W X o h3)
      · cases h
    · cases h
  | .ife t a b, F, e, W, X, o, h => by
    rw [ckE] at h
    split at h
    · rename_i c x y hx
      obtain ⟨p, rfl⟩ := asIf_of hx
      obtain ⟨h1, h⟩ := and3 h
      obtain ⟨h2, h3⟩ := and3 h
      exact g_ife (sT t F c W X o h1) (sE a F x W X o h2) (sE b F y W X o h3)
    · cases h
  | .tv t, F, e, W, X, o, h => by
    rw [ckE] at h
    exact g_tv (sT t F e W X o h)
  | .frz l, F, e, W, X, o, h => by
    rw [ckE] at h
    exact g_frz (sL l F e W X o h)
  | .new l, F, e, W, X, o, h => by
    rw [ckE] at h
    exact g_new (sL l F e W X o h)
  | .frzM l, F, e, W, X, o, h => by
    rw [ckE] at h
    exact g_frzM (sM l F e W X o h)
  | .newM l, F, e, W, X, o, h => by
    rw [ckE] at h
    exact g_newM (sM l F e W X o h)
  | .call g es, F, e, W, X, o, h => by
    rw [ckE] at h
    split at h
    · rename_i f x xs hx
      obtain ⟨p, pos, rfl⟩ := asCall_of hx
      obtain ⟨h1, h⟩ := and3 h
      obtain ⟨h2, h⟩ := and3 h
      obtain ⟨h3, h⟩ := and3 h
      obtain ⟨h4, h⟩ := and3 h
      obtain ⟨h5, h6⟩ := and3 h
      exact g_call o (of_decide_eq_true h1) h2 h3 h4 h5 (sEs es F (x :: xs) W X o h6)
    · cases h
  | .callv _ _, F, e, W, X, o, h => absurd (show false = true from h) Bool.false_ne_true
  | .pop _, F, e, W, X, o, h => absurd (show false = true from h) Bool.false_ne_true
  | .mx mn t a, F, e, W, X, o, h => by
    rw [ckE] at h
    split at h
    · rename_i f x hx
      obtain ⟨p, pos, rfl⟩ := asCall_of hx
      obtain ⟨h1, h⟩ := and3 h
      obtain ⟨h2, h⟩ := and3 h
      obtain ⟨h3, h4⟩ := and3 h
      obtain rfl := of_decide_eq_true h1
      refine g_mx o h2 ?_ ?_ h3 ?_ (sE a F x W X o h4)
      · cases mn <;> decide +kernel
      · cases mn <;> decide +kernel
      · cases mn <;> decide +kernel
    · cases h
  | .idxOf a b, F, e, W, X, o, h => by
    rw [ckE] at h
    split at h
    · rename_i x p m y hx
      obtain ⟨apos, cpos, rfl, hl⟩ := asM1_of hx
      obtain ⟨h1, h⟩ := and3 h
      obtain ⟨h2, h⟩ := and3 h
      obtain ⟨h3, h4⟩ := and3 h
      obtain rfl := of_decide_eq_true h1
      exact g_idxL o h2 hl (sE a F (.Name x p) W X o h3) (sE b F y W X o h4)
    · cases h
  | .rngv a, F, e, W, X, o, h => by
    rw [ckE] at h
    split at h
    · rename_i f x hx
      obtain ⟨p, pos, rfl⟩ := asCall_of hx
      obtain ⟨h1, h⟩ := and3 h
      obtain ⟨h2, h⟩ := and3 h
      obtain ⟨h3, h4⟩ := and3 h
      obtain rfl := of_decide_eq_true h1
      exact g_rngv o h2 h3 (sE a F x W X o h4)
    · cases h
  | .fz i, F, e, W, X, o, h => by
    rw [ckE] at h
    split at h
    · rename_i x hx
      obtain ⟨p, rfl⟩ := asName_of hx
      obtain ⟨h1, h⟩ := and3 h
      obtain ⟨h2, h3⟩ := and3 h
      exact g_fz o (of_decide_eq_true h1) h2 h3
    · cases h
  | .rev _, F, e, W, X, o, h => absurd (show false = true from h) Bool.false_ne_true
  | .word g okv tab a, F, e, W, X, o, h => by
    rw [ckE] at h
    split at h
    · rename_i x body scope hx
      obtain ⟨p, lpos, pos, rfl⟩ := asLam_of hx
      obtain ⟨h1, h⟩ := and3 h
      obtain ⟨h2, h⟩ := and3 h
      obtain ⟨h3, h⟩ := and3 h
      obtain ⟨h4, h⟩ := and3 h
      obtain ⟨h5, h6⟩ := and3 h
      exact g_word o h1 (of_decide_eq_true h2) h3 h4 h5 fun W' X' o' => sE a _ body W' X' o' h6
    · cases h
  | .cnt _ _, F, e, W, X, o, h => absurd (show false = true from h) Bool.false_ne_true
  | .fld _ _, F, e, W, X, o, h => absurd (show false = true from h) Bool.false_ne_true
theorem sTR : ∀ (a : E) (F : Fr) (e : Expr) (W : XW) (X : Cx), XOk C M F cf k W X → ckTR M a F e = true → PE X e (rdE C W (evE cf (.un .tuple a)))
  | .frz (.ofR (.rng1 a)), F, e, W, X, o, h => by
    rw [ckTR] at h
    split at h
    · rename_i f y hx
      obtain ⟨p, pos, rfl⟩ := asCall_of hx
      split at h
      · rename_i f2 x hy
        obtain ⟨p2, pos2, rfl⟩ := asCall_of hy
        obtain ⟨h1, h⟩ := and3 h
        obtain ⟨h2, h⟩ := and3 h
        obtain ⟨h3, h⟩ := and3 h
        obtain ⟨h4, h⟩ := and3 h
        obtain ⟨h5, h6⟩ := and3 h
        obtain rfl := of_decide_eq_true h1
        obtain rfl := of_decide_eq_true h2
        exact g_tupR1 o h3 h4 h5 (sE a F x W X o h6)
      · cases h
    · cases h
  | .frz (.ofR (.rng2 a b)), F, e, W, X, o, h => by
    rw [ckTR] at h
    split at h
    · rename_i f y hx
      obtain ⟨p, pos, rfl⟩ := asCall_of hx
      split at h
      · rename_i f2 x z hy
        obtain ⟨p2, pos2, rfl⟩ := asCall_of hy
        obtain ⟨h1, h⟩ := and3 h
        obtain ⟨h2, h⟩ := and3 h
        obtain ⟨h3, h⟩ := and3 h
        obtain ⟨h4, h⟩ := and3 h
        obtain ⟨h5, h⟩ := and3 h
        obtain ⟨h6, h⟩ := and3 h
        obtain ⟨h7, h8⟩ := and3 h
        obtain rfl := of_decide_eq_true h1
        obtain rfl := of_decide_eq_true h2
        exact g_tupR2 o h3 h4 h5 h6 (sE a F x W X o h7) (sE b F z W X o h8)
      · cases h
    · cases h
  | .frz (.ofR (.ex _)), F, e, W, X, o, h => absurd (show false = true from h) Bool.false_ne_true
  | .frz (.ofR (.enum _)), F, e, W, X, o, h => absurd (show false = true from h) Bool.false_ne_true
  | .frz (.ofR (.zip _ _)), F, e, W, X, o, h => absurd (show false = true from h) Bool.false_ne_true
  | .frz (.ofR (.items _)), F, e, W, X, o, h => absurd (show false = true from h) Bool.false_ne_true
  | .frz (.disp _), F, e, W, X, o, h => absurd (show false = true from h) Bool.false_ne_true
  | .frz (.comp _ _ _ _ _), F, e, W, X, o, h => absurd (show false = true from h) Bool.false_ne_true
  | .frz (.comp2 _ _ _ _ _ _ _ _ _), F, e, W, X, o, h => absurd (show false = true from h) Bool.false_ne_true
  | .frz (.ofE _), F, e, W, X, o, h => absurd (show false = true from h) Bool.false_ne_true
  | .frz (.sorted _ _), F, e, W, X, o, h => absurd (show false = true from h) Bool.false_ne_true
  | .frz (.cat _ _), F, e, W, X, o, h => absurd (show false = true from h) Bool.false_ne_true
  | .frz (.rep _ _), F, e, W, X, o, h => absurd (show false = true from h) Bool.false_ne_true
  | .frz (.slc _ _ _), F, e, W, X, o, h => absurd (show false = true from h) Bool.false_ne_true
  | .frz (.vals _), F, e, W, X, o, h => absurd (show false = true from h) Bool.false_ne_true
  | .frz (.sortset _ _), F, e, W, X, o, h => absurd (show false = true from h) Bool.false_ne_true
  | .frz (.sortI _ _), F, e, W, X, o, h => absurd (show false = true from h) Bool.false_ne_true
  | .frz (.sortV _ _), F, e, W, X, o, h => absurd (show false = true from h) Bool.false_ne_true
  | .frz (.sumL _), F, e, W, X, o, h => absurd (show false = true from h) Bool.false_ne_true
  | .frz (.rev _), F, e, W, X, o, h => absurd (show false = true from h) Bool.false_ne_true
  | .var _, F, e, W, X, o, h => absurd (show false = true from h) Bool.false_ne_true
  | .lit _, F, e, W, X, o, h => absurd (show false = true from h) Bool.false_ne_true
  | .gc _ _, F, e, W, X, o, h => absurd (show false = true from h) Bool.false_ne_true
  | .glo _, F, e, W, X, o, h => absurd (show false = true from h) Bool.false_ne_true
  | .tup _, F, e, W, X, o, h => absurd (show false = true from h) Bool.false_ne_true
  | .un _ _, F, e, W, X, o, h => absurd (show false = true from h) Bool.false_ne_true
  | .bin _ _ _, F, e, W, X, o, h => absurd (show false = true from h) Bool.false_ne_true
  | .get1 _ _, F, e, W, X, o, h => absurd (show false = true from h) Bool.false_ne_true
  | .get2 _ _ _, F, e, W, X, o, h => absurd (show false = true from h) Bool.false_ne_true
  | .slc _ _ _, F, e, W, X, o, h => absurd (show false = true from h) Bool.false_ne_true
  | .ife _ _ _, F, e, W, X, o, h => absurd (show false = true from h) Bool.false_ne_true
  | .tv _, F, e, W, X, o, h => absurd (show false = true from h) Bool.false_ne_true
  | .new _, F, e, W, X, o, h => absurd (show false = true from h) Bool.false_ne_true
  | .frzM _, F, e, W, X, o, h => absurd (show false = true from h) Bool.false_ne_true
  | .newM _, F, e, W, X, o, h => absurd (show false = true from h) Bool.false_ne_true
  | .call _ _, F, e, W, X, o, h => absurd (show false = true from h) Bool.false_ne_true
  | .callv _ _, F, e, W, X, o, h => absurd (show false = true from h) Bool.false_ne_true
  | .pop _, F, e, W, X, o, h => absurd (show false = true from h) Bool.false_ne_true
  | .mx _ _ _, F, e, W, X, o, h => absurd (show false = true from h) Bool.false_ne_true
  | .idxOf _ _, F, e, W, X, o, h => absurd (show false = true from h) Bool.false_ne_true
  | .cnt _ _, F, e, W, X, o, h => absurd (show false = true from h) Bool.false_ne_true
  | .fld _ _, F, e, W, X, o, h => absurd (show false = true from h) Bool.false_ne_true
  | .rngv _, F, e, W, X, o, h => absurd (show false = true from h) Bool.false_ne_true
  | .fz _, F, e, W, X, o, h => absurd (show false = true from h) Bool.false_ne_true
  | .rev _, F, e, W, X, o, h => absurd (show false = true from h) Bool.false_ne_true
  | .word _ _ _ _, F, e, W, X, o, h => absurd (show false = true from h) Bool.false_ne_true
theorem sEs : ∀ (as : Es) (F : Fr) (es : List Expr) (W : XW) (X : Cx), XOk C M F cf k W X → ckEs M as F es = true → PA X es (rdA C W (evEs cf as))
  | .nil, F, [], W, X, o, h => g_nil
  | .nil, F, _ :: _, W, X, o, h => absurd (show false = true from h) Bool.false_ne_true
  | .cons a as, F, [], W, X, o, h => absurd (show false = true from h) Bool.false_ne_true
  | .cons a as, F, e :: es, W, X, o, h => by
    rw [ckEs] at h
    obtain ⟨h1, h⟩ := and3 h
    obtain ⟨h2, h3⟩ := and3 h
    exact g_cons h1 (sE a F e W X o h2) (sEs as F es W X o h3)
theorem sO : ∀ (a : Oe) (F : Fr) (e : Option Expr) (W : XW) (X : Cx), XOk C M F cf k W X → ckO M a F e = true → PO X e (rdO C W (evO cf a))
  | .none, F, none, W, X, o, h => g_oNone
  | .none, F, some _, W, X, o, h => absurd (show false = true from h) Bool.false_ne_true
  | .some a, F, none, W, X, o, h => absurd (show false = true from h) Bool.false_ne_true
  | .some a, F, some e, W, X, o, h => by
    rw [ckO] at h
    exact g_oSome (sE a F e W X o h)
theorem sT : ∀ (t : T) (F : Fr) (e : Expr) (W : XW) (X : Cx), XOk C M F cf k W X → ckT M t F e = true → Both C W X e (evT cf t)
  | .cmp c a b, F, e, W, X, o, h => by
    rw [ckT] at h
    split at h
    · rename_i x op y hx
      obtain ⟨p, rfl⟩ := asCmp1_of hx
      obtain ⟨h1, h⟩ := and3 h
      obtain ⟨h2, h⟩ := and3 h
      obtain ⟨h3, h4⟩ := and3 h
      exact g_cmp o h1 h2 (sE a F x W X o h3) (sE b F y W X o h4)
    · cases h
  | .chain c c' a b d, F, e, W, X, o, h => by
    rw [ckT] at h
    split at h
    · rename_i x op y op' z hx
      obtain ⟨p, rfl⟩ := asCmp2_of hx
      obtain ⟨h1, h⟩ := and3 h
      obtain ⟨h2, h⟩ := and3 h
      obtain ⟨h3, h⟩ := and3 h
      obtain ⟨h4, h⟩ := and3 h
      obtain ⟨h5, h6⟩ := and3 h
      exact g_chain o h1 h2 h3 (sE a F x W X o h4) (sE b F y W X o h5) (sE d F z W X o h6)
    · cases h
  | .not t, F, e, W, X, o, h => by
    rw [ckT] at h
    split at h
    · rename_i x hx
      obtain ⟨p, rfl⟩ := asNot_of hx
      exact g_not (sT t F x W X o h)
    · cases h
  | .and t u, F, e, W, X, o, h => by
    rw [ckT] at h
    split at h
    · rename_i x y p hx
      obtain rfl := asBool_of hx
      obtain ⟨h1, h2⟩ := and3 h
      exact g_and (sT t F x W X o h1) (g_one (sT u F y W X o h2))
    · rename_i x y z r p hx
      obtain rfl := asBool_of hx
      obtain ⟨h1, h2⟩ := and3 h
      exact g_and (sT t F x W X o h1) (sT u F _ W X o h2)
    · cases h
  | .or t u, F, e, W, X, o, h => by
    rw [ckT] at h
    split at h
    · rename_i x y p hx
      obtain rfl := asBool_of hx
      obtain ⟨h1, h2⟩ := and3 h
      exact g_or (sT t F x W X o h1) (g_one (sT u F y W X o h2))
    · rename_i x y z r p hx
      obtain rfl := asBool_of hx
      obtain ⟨h1, h2⟩ := and3 h
      exact g_or (sT t F x W X o h1) (sT u F _ W X o h2)
    · cases h
  | .tru a, F, e, W, X, o, h => by
    rw [ckT] at h
    obtain ⟨h1, h2⟩ := and3 h
    exact g_tru h1 (sE a F e W X o h2)
  | .emp _ _, F, e, W, X, o, h => absurd (show false = true from h) Bool.false_ne_true
theorem sTo : ∀ (t : To) (F : Fr) (es : List Expr) (W : XW) (X : Cx), XOk C M F cf k W X → ckTo M t F es = true → PTs X es (rdT C W (evTo cf t))
  | .yes, F, [], W, X, o, h => g_yes
  | .yes, F, _ :: _, W, X, o, h => absurd (show false = true from h) Bool.false_ne_true
  | .if1 t, F, [], W, X, o, h => absurd (show false = true from h) Bool.false_ne_true
  | .if1 t, F, [e], W, X, o, h => by
    rw [ckTo] at h
    exact g_if1 (sT t F e W X o h)
  | .if1 t, F, _ :: _ :: _, W, X, o, h => absurd (show false = true from h) Bool.false_ne_true
theorem sL : ∀ (l : L) (F : Fr) (e : Expr) (W : XW) (X : Cx), XOk C M F cf k W X → ckL M l F e = true → PE X e (rdL C W (evL cf l))
  | .disp es, F, e, W, X, o, h => by
    rw [ckL] at h
    split at h
    · rename_i l hx
      obtain ⟨p, rfl⟩ := asLst_of hx
      obtain ⟨h1, h⟩ := and3 h
      obtain ⟨h2, h3⟩ := and3 h
      exact g_disp (of_decide_eq_true h1) (of_decide_eq_true h2) (sEs es F l W X o h3)
    · cases h
  | .comp vs tg it ifs elt, F, e, W, X, o, h => by
    rw [ckL] at h
    split at h
    · rename_i x g s hx
      obtain ⟨p, rfl⟩ := asLC_of hx
      split at h
      · rename_i t i f hg
        obtain rfl := asG1_of hg
        obtain ⟨h1, h⟩ := and3 h
        obtain ⟨h2, h⟩ := and3 h
        obtain ⟨h3, h⟩ := and3 h
        obtain ⟨h4, h⟩ := and3 h
        obtain ⟨h5, h⟩ := and3 h
        obtain ⟨h6, h7⟩ := and3 h
        refine weak (pe_lc o.calm o.nd (sI it F t i W X o h4) (blk_ok o h1) (fun s' H c cl fp => g_tg (o.blk s' H c cl fp) tg t h5) (fun s' H c cl fp => sTo ifs _ f WF _ (o.blk s' H c cl fp) h6) (fun s' H c cl fp => sE elt _ x WF _ (o.blk s' H c cl fp) h7) (folded_set h2)) fun σ H Q hh => ?_
        rw [own_map]
        exact comp_rd (slB_of h3) hh
      · cases h
    · cases h
  | .comp2 vs tg it ifs vs1 tg1 it1 ifs1 elt, F, e, W, X, o, h => by
    rw [ckL] at h
    split at h
    · rename_i x g s hx
      obtain ⟨p, rfl⟩ := asLC_of hx
      split at h
      · rename_i t i f t1 i1 f1 hg
        obtain rfl := asG2_of hg
        obtain ⟨h1, h⟩ := and3 h
        obtain ⟨h2, h⟩ := and3 h
        obtain ⟨h3, h⟩ := and3 h
        obtain ⟨h4, h⟩ := and3 h
        obtain ⟨h5, h⟩ := and3 h
        obtain ⟨h6, h⟩ := and3 h
        obtain ⟨h7, h⟩ := and3 h
        obtain ⟨h8, h⟩ := and3 h
        obtain ⟨h9, h⟩ := and3 h
        obtain ⟨h10, h⟩ := and3 h
        obtain ⟨h11, h⟩ := and3 h
        obtain ⟨h12, h13⟩ := and3 h
        refine weak (pe_lc2 (vs1 := vs1) o.calm o.nd (sI it F t i W X o h7) (blk_ok o h1) (by rw [own_map]; exact slB_of h6) (fun s' H c cl fp => g_tg (o.blk s' H c cl fp) tg t h8) (fun s' H c cl fp => sTo ifs _ f WF _ (o.blk s' H c cl fp) h9) (fun s' H c cl fp => sI it1 _ t1 i1 WF _ (o.blk s' H c cl fp) h10) (fun s' H c cl fp => g_tg (o.blk s' H c cl fp) tg1 t1 h11) (fun s' H c cl fp => sTo ifs1 _ f1 WF _ (o.blk s' H c cl fp) h12) (fun s' H c cl fp => sE elt _ x WF _ (o.blk s' H c cl fp) h13) (folded_set h2) (fun env => folded_set h3)) fun σ H Q hh => ?_
        rw [own_map]
        exact comp2_rd (slB_of h4) (slB_of h5) hh
      · cases h
    · cases h
  | .ofE a, F, e, W, X, o, h => by
    rw [ckL] at h
    split at h
    · rename_i f x hx
      obtain ⟨p, pos, rfl⟩ := asCall_of hx
      obtain ⟨h1, h⟩ := and3 h
      obtain ⟨h2, h⟩ := and3 h
      obtain ⟨h3, h4⟩ := and3 h
      obtain rfl := of_decide_eq_true h1
      exact g_ofE o h2 h3 (sE a F x W X o h4)
    · cases h
  | .ofR (.rng1 a), F, e, W, X, o, h => by
    rw [ckL] at h
    split at h
    · rename_i f y hx
      obtain ⟨p, pos, rfl⟩ := asCall_of hx
      split at h
      · rename_i f2 x hy
        obtain ⟨p2, pos2, rfl⟩ := asCall_of hy
        obtain ⟨h1, h⟩ := and3 h
        obtain ⟨h2, h⟩ := and3 h
        obtain ⟨h3, h⟩ := and3 h
        obtain ⟨h4, h⟩ := and3 h
        obtain ⟨h5, h6⟩ := and3 h
        obtain rfl := of_decide_eq_true h1
        obtain rfl := of_decide_eq_true h2
        exact g_ofR1 o h3 h4 h5 (sE a F x W X o h6)
      · cases h
    · cases h
  | .ofR (.rng2 a b), F, e, W, X, o, h => by
    rw [ckL] at h
    split at h
    · rename_i f y hx
      obtain ⟨p, pos, rfl⟩ := asCall_of hx
      split at h
      · rename_i f2 x z hy
        obtain ⟨p2, pos2, rfl⟩ := asCall_of hy
        obtain ⟨h1, h⟩ := and3 h
        obtain ⟨h2, h⟩ := and3 h
        obtain ⟨h3, h⟩ := and3 h
        obtain ⟨h4, h⟩ := and3 h
        obtain ⟨h5, h⟩ := and3 h
        obtain ⟨h6, h⟩ := and3 h
        obtain ⟨h7, h8⟩ := and3 h
        obtain rfl := of_decide_eq_true h1
        obtain rfl := of_decide_eq_true h2
        exact g_ofR2 o h3 h4 h5 h6 (sE a F x W X o h7) (sE b F z W X o h8)
      · cases h
    · cases h
  | .ofR (.ex _), F, e, W, X, o, h => absurd (show false = true from h) Bool.false_ne_true
  | .ofR (.enum _), F, e, W, X, o, h => absurd (show false = true from h) Bool.false_ne_true
  | .ofR (.zip _ _), F, e, W, X, o, h => absurd (show false = true from h) Bool.false_ne_true
  | .ofR (.items _), F, e, W, X, o, h => absurd (show false = true from h) Bool.false_ne_true
  | .sorted t a, F, e, W, X, o, h => by
    rw [ckL] at h
    split at h
    · rename_i f x hx
      obtain ⟨p, pos, rfl⟩ := asCall_of hx
      obtain ⟨h1, h⟩ := and3 h
      obtain ⟨h2, h⟩ := and3 h
      obtain ⟨h3, h4⟩ := and3 h
      obtain rfl := of_decide_eq_true h1
      exact g_sorted o h2 h3 (sE a F x W X o h4)
    · cases h
  | .cat a b, F, e, W, X, o, h => by
    rw [ckL] at h
    split at h
    · rename_i x y hx
      obtain ⟨p, rfl⟩ := asBin_of hx
      obtain ⟨h1, h2⟩ := and3 h
      exact g_cat (sE a F x W X o h1) (sE b F y W X o h2)
    · cases h
  | .rep a b, F, e, W, X, o, h => by
    rw [ckL] at h
    split at h
    · rename_i x y hx
      obtain ⟨p, rfl⟩ := asBin_of hx
      obtain ⟨h1, h2⟩ := and3 h
      exact g_rep (sE a F x W X o h1) (sE b F y W X o h2)
    · cases h
  | .slc a lo hi, F, e, W, X, o, h => by
    rw [ckL] at h
    split at h
    · rename_i x s hx
      obtain ⟨p, rfl⟩ := asSub_of hx
      split at h
      · rename_i l u hs
        obtain ⟨p2, rfl⟩ := asSlice_of hs
        obtain ⟨h1, h⟩ := and3 h
        obtain ⟨h2, h3⟩ := and3 h
        exact g_lslc o (sE a F x W X o h1) (sO lo F l W X o h2) (sO hi F u W X o h3)
      · cases h
    · cases h
  | .vals _, F, e, W, X, o, h => absurd (show false = true from h) Bool.false_ne_true
  | .sortset _ _, F, e, W, X, o, h => absurd (show false = true from h) Bool.false_ne_true
  | .sortI _ _, F, e, W, X, o, h => absurd (show false = true from h) Bool.false_ne_true
  | .sortV _ _, F, e, W, X, o, h => absurd (show false = true from h) Bool.false_ne_true
  | .sumL _, F, e, W, X, o, h => absurd (show false = true from h) Bool.false_ne_true
  | .rev _, F, e, W, X, o, h => absurd (show false = true from h) Bool.false_ne_true
theorem sM : ∀ (m : Ev.M) (F : Fr) (e : Expr) (W : XW) (X : Cx), XOk C M F cf k W X → ckM M m F e = true → PE X e (rdM C W (evM cf m))
  | .disp _ _, F, e, W, X, o, h => absurd (show false = true from h) Bool.false_ne_true
  | .comp vs tg it ifs a b, F, e, W, X, o, h => by
    rw [ckM] at h
    split at h
    · rename_i x y g s hx
      obtain ⟨p, rfl⟩ := asDC_of hx
      split at h
      · rename_i t i f hg
        obtain rfl := asG1_of hg
        obtain ⟨h1, h⟩ := and3 h
        obtain ⟨h2, h⟩ := and3 h
        obtain ⟨h3, h⟩ := and3 h
        obtain ⟨h4, h⟩ := and3 h
        obtain ⟨h5, h⟩ := and3 h
        obtain ⟨h6, h⟩ := and3 h
        obtain ⟨h7, h8⟩ := and3 h
        refine weak (pe_dcx (bod := bEmit x y) (tb := tEmit X.prog X.w X.A (rdE C WF (evE cf a)) (rdE C WF (evE cf b))) o.calm o.nd (sI it F t i W X o h4) (blk_ok o h1) h2 (fun Y it D => turn_emit) (fun s' H c cl fp => g_tg (o.blk s' H c cl fp) tg t h5) (fun s' H c cl fp => sTo ifs _ f WF _ (o.blk s' H c cl fp) h6) (fun s' H c cl fp D => pb_emit (Y := X.blk s' H s (compEnvC s cl c X.env) fp) rfl (sE a _ x WF _ (o.blk s' H c cl fp) h7) (sE b _ y WF _ (o.blk s' H c cl fp) h8))) fun σ H Q hh => ?_
        rw [own_map]
        exact dcomp_rd o.prog o.w o.units (slB_of h3) hh
      · cases h
    · cases h
  | .comp2 vs tg it ifs vs1 tg1 it1 ifs1 a b, F, e, W, X, o, h => by
    rw [ckM] at h
    split at h
    · rename_i x y g s hx
      obtain ⟨p, rfl⟩ := asDC_of hx
      split at h
      · rename_i t i f t1 i1 f1 hg
        obtain rfl := asG2_of hg
        obtain ⟨h1, h⟩ := and3 h
        obtain ⟨h2, h⟩ := and3 h
        obtain ⟨h3, h⟩ := and3 h
        obtain ⟨h4, h⟩ := and3 h
        obtain ⟨h5, h⟩ := and3 h
        obtain ⟨h6, h⟩ := and3 h
        obtain ⟨h7, h⟩ := and3 h
        obtain ⟨h8, h⟩ := and3 h
        obtain ⟨h9, h⟩ := and3 h
        obtain ⟨h10, h⟩ := and3 h
        obtain ⟨h11, h⟩ := and3 h
        obtain ⟨h12, h⟩ := and3 h
        obtain ⟨h13, h14⟩ := and3 h
        refine weak (pe_dcx (bod := bIn (.DictComp x y [⟨t, i, f, 0⟩, ⟨t1, i1, f1, 0⟩] s p) i1) (tb := fun D => tIn (rdI C WF (evI cf it1)) (gRd C tg1) (rdT C WF (evTo cf ifs1)) (tEmit X.prog X.w X.A (rdE C WF (evE cf a)) (rdE C WF (evE cf b)) D) vs1) o.calm o.nd (sI it F t i W X o h7) (blk_ok o h1) h2 (fun Y it D => turn_out) (fun s' H c cl fp => g_tg (o.blk s' H c cl fp) tg t h8) (fun s' H c cl fp => sTo ifs _ f WF _ (o.blk s' H c cl fp) h9) (fun s' H c cl fp D => pb_in (Y := X.blk s' H s (compEnvC s cl c X.env) fp) rfl o.calm h3 (by rw [own_map]; exact slB_of h6) (sI it1 _ t1 i1 WF _ (o.blk s' H c cl fp) h10) (g_tg (o.blk s' H c cl fp) tg1 t1 h11) (sTo ifs1 _ f1 WF _ (o.blk s' H c cl fp) h12) (pb_emit (Y := X.blk s' H s (compEnvC s cl c X.env) fp) rfl (sE a _ x WF _ (o.blk s' H c cl fp) h13) (sE b _ y WF _ (o.blk s' H c cl fp) h14)))) fun σ H Q hh => ?_
        rw [own_map]
        exact dcomp2_rd o.prog o.w o.units (slB_of h4) (slB_of h5) hh
      · cases h
    · cases h
theorem sI : ∀ (i : I) (F : Fr) (t e : Expr) (W : XW) (X : Cx), XOk C M F cf k W X → ckI M i F t e = true → PI X t e (rdI C W (evI cf i))
  | .ex a, F, t, e, W, X, o, h => by
    rw [ckI] at h
    exact g_ex (sE a F e W X o h)
  | .rng1 a, F, t, e, W, X, o, h => by
    rw [ckI] at h
    split at h
    · rename_i f x hx
      obtain ⟨p, pos, rfl⟩ := asCall_of hx
      obtain ⟨h1, h⟩ := and3 h
      obtain ⟨h2, h⟩ := and3 h
      obtain ⟨h3, h4⟩ := and3 h
      obtain rfl := of_decide_eq_true h1
      exact g_rng1 o h2 h3 (sE a F x W X o h4)
    · cases h
  | .rng2 a b, F, t, e, W, X, o, h => by
    rw [ckI] at h
    split at h
    · rename_i f x y hx
      obtain ⟨p, pos, rfl⟩ := asCall_of hx
      obtain ⟨h1, h⟩ := and3 h
      obtain ⟨h2, h⟩ := and3 h
      obtain ⟨h3, h⟩ := and3 h
      obtain ⟨h4, h⟩ := and3 h
      obtain ⟨h5, h6⟩ := and3 h
      obtain rfl := of_decide_eq_true h1
      exact g_rng2 o h2 h3 h4 (sE a F x W X o h5) (sE b F y W X o h6)
    · cases h
  | .enum a, F, t, e, W, X, o, h => by
    rw [ckI] at h
    split at h
    · rename_i ts ht
      obtain ⟨kk, tp, rfl⟩ := asTup_of ht
      split at h
      · rename_i f x hx
        obtain ⟨p, pos, rfl⟩ := asCall_of hx
        obtain ⟨h1, h⟩ := and3 h
        obtain ⟨h2, h⟩ := and3 h
        obtain ⟨h3, h4⟩ := and3 h
        obtain rfl := of_decide_eq_true h1
        exact g_enum o h2 h3 (sE a F x W X o h4)
      · cases h
    · cases h
  | .zip a b, F, t, e, W, X, o, h => by
    rw [ckI] at h
    split at h
    · rename_i ts ht
      obtain ⟨kk, tp, rfl⟩ := asTup_of ht
      split at h
      · rename_i f x y hx
        obtain ⟨p, pos, rfl⟩ := asCall_of hx
        obtain ⟨h1, h⟩ := and3 h
        obtain ⟨h2, h⟩ := and3 h
        obtain ⟨h3, h⟩ := and3 h
        obtain ⟨h4, h⟩ := and3 h
        obtain ⟨h5, h6⟩ := and3 h
        obtain rfl := of_decide_eq_true h1
        exact g_zip o h2 h3 h4 (sE a F x W X o h5) (sE b F y W X o h6)
      · cases h
    · cases h
  | .items _, F, t, e, W, X, o, h => absurd (show false = true from h) Bool.false_ne_true
end
end
end Ev

set_option Elab.async false
set_option linter.all false
set_option maxRecDepth 100000
set_option maxHeartbeats 4000000
namespace Ev
open PySem PySem.Spec PyProof.Rows L2

/-! ### statements -/
def postS (C : Gc) (W : XW) (k0 : Nat) (μ : List Addr) (H : Hp) (res : R Fl) (D : Ends) : Prop := match res with
  | .ok (.next r') st' => ∀ μ' H' σ', Ns k0 μ H μ' H' → Wd C H' μ' st' → REn C H' μ' r' σ' → D.nx σ' H'
  | .ok (.ret d) st' => ∀ μ' H' v, Ns k0 μ H μ' H' → Wd C H' μ' st' → RD C H' μ' d v → D.rt v H'
  | .exc c fs st' => ∀ μ' H' σ', Ns k0 μ H μ' H' → Wd C H' μ' st' → W c fs st' μ' H' σ'
  | .bad => False
def rdS (C : Gc) (W : XW) (k0 : Nat) (ev : En → St → R Fl) : TS := fun D σ H => ∃ μ st r, Wd C H μ st ∧ REn C H μ r σ ∧ k0 ≤ μ.length ∧ postS C W k0 μ H (ev r st) D
theorem weakS {X : Cx} {st : Stmt} {t t' : TS} (h : PS X st t) (f : ∀ D σ H, t' D σ H → t D σ H) : PS X st t' := ⟨fun pins s σ H D I q => h.run pins s σ H D I (f D σ H q)⟩
theorem weakSs {X : Cx} {st : List Stmt} {t t' : TS} (h : PSs X st t) (f : ∀ D σ H, t' D σ H → t D σ H) : PSs X st t' := ⟨fun pins s σ H D I q => h.run pins s σ H D I (f D σ H q)⟩
section
variable {C : Gc} {M : Md} {F : Fr} {cf : Cf} {k k0 : Nat} {W : XW} {X : Cx}
theorem postS.ns {μ μ1 : List Addr} {H H1 : Hp} {res : R Fl} {D : Ends} (hk : k0 ≤ μ.length) (h : postS C W k0 μ H res D) (n : Ns k0 μ H μ1 H1) : postS C W k0 μ1 H1 res D := by
  cases res with
  | ok fl st =>
    cases fl with
    | next r => exact fun μ' H' σ' n' w hr => h μ' H' σ' (n.trans hk n') w hr
    | ret d => exact fun μ' H' v n' w hr => h μ' H' v (n.trans hk n') w hr
  | exc c fs st => exact fun μ' H' σ' n' w => h μ' H' σ' (n.trans hk n') w
  | bad => exact h
theorem hereN {μ : List Addr} {H : Hp} {r' : En} {st : St} {D : Ends} {σ' : L2.St} (h : postS C W k0 μ H (.ok (.next r') st) D) (w : Wd C H μ st) (hr : REn C H μ r' σ') : D.nx σ' H := h μ H σ' (Ns.refl _ _ _) w hr
theorem hereR {μ : List Addr} {H : Hp} {d : D} {st : St} {D : Ends} {v : V} (h : postS C W k0 μ H (.ok (.ret d) st) D) (w : Wd C H μ st) (hr : RD C H μ d v) : D.rt v H := h μ H v (Ns.refl _ _ _) w hr
/-- STEP: an expression runs first -/
theorem stepS {α : Type} {ev : En → St → R α} {f : α → St → R Fl} {D : Ends} {ok1 : α → St → List Addr → Hp → Prop} {σ : L2.St} {H : Hp} {μ : List Addr} {st : St} {r : En}
    (w : Wd C H μ st) (hr : REn C H μ r σ) (hk : k0 ≤ μ.length) (h : postS C W k0 μ H ((ev r st).bind f) D)
    (kk : ∀ a st1 μ1 H1, Nx μ H μ1 H1 → Wd C H1 μ1 st1 → REn C H1 μ1 r σ → k0 ≤ μ1.length → postS C W k0 μ1 H1 (f a st1) D → ok1 a st1 μ1 H1) : rdG C W ev ok1 σ H := by
  refine ⟨μ, st, r, w, hr, ?_⟩
  cases e : ev r st with
  | ok a st1 =>
    rw [e] at h
    exact fun μ1 H1 n w1 => kk a st1 μ1 H1 n w1 (hr.nx n) (Nat.le_trans hk n.pre.length_le) (postS.ns hk h n.ns)
  | exc c fs st1 => rw [e] at h; exact fun μ1 H1 n w1 => h μ1 H1 σ n.ns w1
  | bad => rw [e] at h; exact h
theorem g_snil : PSs X [] (rdS C W k0 (evSs cf k0 .nil)) := weakSs pss_nil fun D σ H ⟨μ, st, r, w, hr, hk, h⟩ => by
  rw [evSs] at h
  exact hereN h w hr
theorem g_scons {a : S} {b : Ss} {st : Stmt} {rest : List Stmt} (h1 : PS X st (rdS C W k0 (evS cf k0 a))) (h2 : PSs X rest (rdS C W k0 (evSs cf k0 b))) : PSs X (st :: rest) (rdS C W k0 (evSs cf k0 (.cons a b))) := weakSs (pss_cons h1 h2) fun D σ H ⟨μ, s, r, w, hr, hk, h⟩ => by
  rw [evSs] at h
  refine ⟨μ, s, r, w, hr, hk, ?_⟩
  cases e : evS cf k0 a r s with
  | ok fl s1 =>
    rw [e] at h
    cases fl with
    | next r1 => exact fun μ' H' σ' n' w' hr' => ⟨μ', s1, r1, w', hr', n'.len hk, postS.ns hk h n'⟩
    | ret d => exact h
  | exc c fs s1 => rw [e] at h; exact h
  | bad => rw [e] at h; exact h
theorem g_ret {a : E} {e : Expr} {pos : Pos} (h1 : PE X e (rdE C W (evE cf a))) : PS X (.Return (some e) pos) (rdS C W k0 (evS cf k0 (.ret a))) := weakS (ps_ret h1) fun D σ H ⟨μ, st, r, w, hr, hk, h⟩ => by
  rw [evS] at h
  exact stepS w hr hk h fun d st1 μ1 H1 n1 w1 hr1 hk1 h1 v rv => hereR h1 w1 rv
theorem g_retN {pos : Pos} : PS X (.Return none pos) (rdS C W k0 (evS cf k0 .retN)) := weakS ps_retN fun D σ H ⟨μ, st, r, w, hr, hk, h⟩ => by
  rw [evS] at h
  exact hereR h w (show RP C H .non .non from RP.non_iff.mpr rfl)
theorem g_skip {pos : Pos} : PS X (.Pass pos) (rdS C W k0 (evS cf k0 .skip)) := weakS ps_pass fun D σ H ⟨μ, st, r, w, hr, hk, h⟩ => by
  rw [evS] at h
  exact hereN h w hr
theorem g_never {st : Stmt} : PS X st (rdS C W k0 (evS cf k0 .never)) := weakS ps_never fun D σ H ⟨μ, st, r, w, hr, hk, h⟩ => by
  rw [evS] at h
  exact h
theorem g_sex {a : E} {e : Expr} {pos : Pos} (hn : notComp e = true) (h1 : PE X e (rdE C W (evE cf a))) : PS X (.Expr e pos) (rdS C W k0 (evS cf k0 (.ex a))) := weakS (ps_expr h1 (swaps_no hn)) fun D σ H ⟨μ, st, r, w, hr, hk, h⟩ => by
  rw [evS] at h
  exact stepS w hr hk h fun d st1 μ1 H1 n1 w1 hr1 hk1 h1 v rv => hereN h1 w1 hr1
theorem g_sif {t : T} {a b : Ss} {c : Expr} {x y : List Stmt} {pos : Pos} (h1 : Both C W X c (evT cf t)) (h2 : PSs X x (rdS C W k0 (evSs cf k0 a))) (h3 : PSs X y (rdS C W k0 (evSs cf k0 b))) : PS X (.If c x y pos) (rdS C W k0 (evS cf k0 (.ife t a b))) := weakS (ps_if h1.1 h2 h3) fun D σ H ⟨μ, st, r, w, hr, hk, h⟩ => by
  rw [evS] at h
  refine stepS w hr hk h fun c st1 μ1 H1 n1 w1 hr1 hk1 h1 => ?_
  cases c with
  | true => simp only [okT, ite_t] at h1 ⊢; exact ⟨μ1, st1, r, w1, hr1, hk1, h1⟩
  | false => simp only [okT, ite_f] at h1 ⊢; exact ⟨μ1, st1, r, w1, hr1, hk1, h1⟩
/-- name = e -/
theorem asg_rd {i : Nat} {a : E} {D : Ends} {σ : L2.St} {H : Hp} (h : rdS C W k0 (evS cf k0 (.asg i a)) D σ H) : tAsg (rdE C W (evE cf a)) (gName i) D σ H := by
  obtain ⟨μ, st, r, w, hr, hk, h⟩ := h
  rw [evS] at h
  refine stepS w hr hk h fun d st1 μ1 H1 n1 w1 hr1 hk1 h1 v rv => ?_
  split at h1
  · exact hereN h1 w1 (hr1.set rv)
  · exact h1.elim
theorem g_asg (o : XOk C M F cf k W X) {i : Nat} {a : E} {x : Str} {e : Expr} {p pos : Pos} (hi : F.N[i]? = some x) (hl : locB F x = true) (hs : swapsWith e (some (.Name x p)) pos.line X.env = pure false) (h1 : PE X e (rdE C W (evE cf a))) : PS X (.Assign [.Name x p] e pos) (rdS C W k0 (evS cf k0 (.asg i a))) := by
  obtain ⟨l1, l2⟩ := o.loc hl
  exact weakS (ps_set o.nd (by rw [o.N]; exact hi) l1 h1 hs l2) fun D σ H h => asg_rd h
/-- .. a list, that is frozen then -/
theorem fr_asg {i : Nat} {l : L} {st : Stmt} (h1 : PS X st (tAsg (rdL C W (evL cf l)) (gName i))) : PS X st (rdS C W k0 (evS cf k0 (.asg i (.frz l)))) := by
  refine ⟨fun pins s σ H D I ⟨μ, st0, r, w, hr, hk, h⟩ => ?_⟩
  rw [evS, evE, bind_assoc] at h
  refine thn (h1.run pins s σ H { D with nx := fun σ' H2 => (∃ p xs l μ1 st1 H1, σ' = σ.set i (some (.ref p)) ∧ H1 p = none ∧ H2 = upd H1 p (.lst xs) ∧ RPs C H1 l xs ∧ Wd C H1 μ1 st1 ∧ REn C H1 μ1 r σ ∧
    postS C W k0 μ1 H1 (if i < r.length then .ok (.next (r.set i (some (.p (.lst l))))) st1 else .bad) D) } I (stepS w hr hk h fun l st1 μ1 H1 n1 w1 hr1 hk1 h1 p xs hp rr => ⟨p, xs, l, μ1, st1, H1, rfl, hp, rfl, rr, w1, hr1, h1⟩)) fun f s1 q => ?_
  cases f with
  | next =>
    obtain ⟨σ1, H2, I1, p, xs, l, μ1, st1, H1, rfl, hp, rfl, rr, w1, hr1, h1⟩ := q
    obtain ⟨od, I2⟩ := I1.lock upd_same trivial
    rw [upd_upd] at I2
    split at h1
    · refine ⟨_, _, I2, h1 μ1 _ _ (Nx.fresh hp).ns (w1.fresh hp) ?_⟩
      exact (hr1.nx (Nx.fresh hp)).set (d := .p (.lst l)) (RP.lst_iff.mpr ⟨p, xs, rfl, ImL.of upd_same, RPs.keep (Keep.new _ hp) _ _ rr⟩)
    · exact h1.elim
  | ret v => exact q
  | brk => exact q
  | cont => exact q
theorem nw_asg {i : Nat} {l : L} {st : Stmt} (h1 : PS X st (tAsg (rdL C W (evL cf l)) (gName i))) : PS X st (rdS C W k0 (evS cf k0 (.asg i (.new l)))) := weakS h1 fun D σ H ⟨μ, st0, r, w, hr, hk, h⟩ => by
  rw [evS, evE, bind_assoc] at h
  refine stepS w hr hk h fun l st1 μ1 H1 n1 w1 hr1 hk1 h1 p xs hp rr => ?_
  have h1 : postS C W k0 μ1 H1 (if i < r.length then .ok (.next (r.set i (some (.obj st1.length)))) (st1 ++ [.lst l]) else .bad) D := h1
  split at h1
  · refine h1 (μ1 ++ [p]) _ _ (Nx.push hp).ns (w1.push hp ⟨xs, upd_same, RPs.keep (Keep.new _ hp) _ _ rr⟩) ?_
    refine (hr1.nx (Nx.push hp)).set (d := .obj st1.length) ⟨p, ?_, rfl⟩
    rw [← w1.len, List.getElem?_append_right (Nat.le_refl _), Nat.sub_self]; rfl
  · exact h1.elim
theorem fr_asgM {i : Nat} {l : Ev.M} {st : Stmt} (h1 : PS X st (tAsg (rdM C W (evM cf l)) (gName i))) : PS X st (rdS C W k0 (evS cf k0 (.asg i (.frzM l)))) := by
  refine ⟨fun pins s σ H D I ⟨μ, st0, r, w, hr, hk, h⟩ => ?_⟩
  rw [evS, evE, bind_assoc] at h
  refine thn (h1.run pins s σ H { D with nx := fun σ' H2 => (∃ (p : Addr) (u : HO) (kv : List P × List P) (μ1 : List Addr) (st1 : St) (H1 : Hp), σ' = σ.set i (some (.ref p)) ∧ H1 p = none ∧ H2 = upd H1 p u ∧ Mut (some u) ∧ RDc C H1 p kv.1 kv.2 u ∧ Wd C H1 μ1 st1 ∧ REn C H1 μ1 r σ ∧
    postS C W k0 μ1 H1 (if i < r.length then .ok (.next (r.set i (some (.p (.dct kv.1 kv.2))))) st1 else .bad) D) } I (stepS w hr hk h fun kv st1 μ1 H1 n1 w1 hr1 hk1 h1 p u hp mu rr => ⟨p, u, kv, μ1, st1, H1, rfl, hp, rfl, mu, rr, w1, hr1, h1⟩)) fun f s1 q => ?_
  cases f with
  | next =>
    obtain ⟨σ1, H2, I1, p, u, kv, μ1, st1, H1, rfl, hp, rfl, mu, rr, w1, hr1, h1⟩ := q
    obtain ⟨od, I2⟩ := I1.lock upd_same mu
    rw [upd_upd] at I2
    split at h1
    · refine ⟨_, _, I2, h1 μ1 _ _ (Nx.fresh hp).ns (w1.fresh hp) ?_⟩
      exact (hr1.nx (Nx.fresh hp)).set (d := .p (.dct kv.1 kv.2)) (RP.dct_iff.mpr ⟨p, od, u, rfl, upd_same, rr.keep (Keep.new _ hp)⟩)
    · exact h1.elim
  | ret v => exact q
  | brk => exact q
  | cont => exact q
theorem nw_asgM {i : Nat} {l : Ev.M} {st : Stmt} (h1 : PS X st (tAsg (rdM C W (evM cf l)) (gName i))) : PS X st (rdS C W k0 (evS cf k0 (.asg i (.newM l)))) := weakS h1 fun D σ H ⟨μ, st0, r, w, hr, hk, h⟩ => by
  rw [evS, evE, bind_assoc] at h
  refine stepS w hr hk h fun kv st1 μ1 H1 n1 w1 hr1 hk1 h1 p u hp mu rr => ?_
  have h1 : postS C W k0 μ1 H1 (if i < r.length then .ok (.next (r.set i (some (.obj st1.length)))) (st1 ++ [.dct kv.1 kv.2]) else .bad) D := h1
  split at h1
  · refine h1 (μ1 ++ [p]) _ _ (Nx.push hp).ns (w1.push hp ⟨u, upd_same, rr.keep (Keep.new _ hp)⟩) ?_
    refine (hr1.nx (Nx.push hp)).set (d := .obj st1.length) ⟨p, ?_, rfl⟩
    rw [← w1.len, List.getElem?_append_right (Nat.le_refl _), Nat.sub_self]; rfl
  · exact h1.elim
/-- (a, b, ..) = e -/
theorem asTup_no {tg e : Expr} {env : Env} (h : asTup e = none) : swappedStores [tg] e env = pure none := by
  cases tg <;> cases e <;> first | rfl | cases h
theorem g_unp (o : XOk C M F cf k W X) {gs : Gs} {a : E} {tg e : Expr} {pos : Pos} (hg : ckG F (.tup gs) tg = true) (ht : asTup e = none) (hn : notComp e = true) (h1 : PE X e (rdE C W (evE cf a))) : PS X (.Assign [tg] e pos) (rdS C W k0 (evS cf k0 (.unp gs a))) := by
  have hns : notStar tg = true := by
    rw [ckG] at hg
    cases tg <;> first | rfl | cases hg
  refine weakS (ps_asg h1 (g_tg o (.tup gs) tg hg) (swapsSole_no hn) (asTup_no ht) (asg_cons hns)) fun D σ H ⟨μ, st, r, w, hr, hk, h⟩ => ?_
  rw [evS] at h
  refine stepS w hr hk h fun d st1 μ1 H1 n1 w1 hr1 hk1 h1 v rv => ?_
  split at h1
  · rename_i l
    split at h1
    · rename_i r1 e1
      exact ⟨μ1, .tup l, r, r1, hr1, rv, e1, fun σ' hr' off => hereN h1 w1 hr'⟩
    · exact h1.elim
  · exact h1.elim
/-! ### loops -/
theorem g_for (o : XOk C M F cf k W X) (own : PassesOwn (model X.prog X.w) X.A X.env X.xe) {g : G} {it : I} {b : Ss} {tg iter : Expr} {body : List Stmt} {pos : Pos} (hs : notSet iter = true) (hi : PI X tg iter (rdI C W (evI cf it))) (hg : PG X tg (gRd C g)) (hb : PSs X body (rdS C W k0 (evSs cf k0 b))) :
    PS X (.For tg iter body [] pos) (rdS C W k0 (evS cf k0 (.fo g it b))) := weakS (ps_for own o.calm hi hg hb (folded_set hs)) fun D σ H ⟨μ, st, r, w, hr, hk, h⟩ => by
  rw [evS] at h
  refine stepS w hr hk h fun l st1 μ1 H1 n1 w1 hr1 hk1 h1 J hJ => ?_
  generalize hf : (fun (x : P) (r1 : En) (s2 : St) => match asgG g x r1 with
      | some r2 => evSs cf k0 b r2 s2
      | none => .bad) = f at h1
  refine ⟨fun i m σ H => m = l.length - i ∧ i ≤ l.length ∧ Keep H1 H ∧ ∃ μ st r, Wd C H μ st ∧ REn C H μ r σ ∧ k0 ≤ μ.length ∧ postS C W k0 μ H (forGo f (l.drop i) r st) D, ⟨l.length, by simp, Nat.zero_le _, Keep.refl _, μ1, st1, r, w1, hr1, hk1, by rw [List.drop_zero]; exact h1⟩, ?_⟩
  rintro i m σ H ⟨rfl, hle, kp, μ, st, r, w, hr, hk, h⟩
  obtain ⟨y1, y2⟩ := hJ H kp
  by_cases hlt : i < l.length
  · obtain ⟨x, hx, hd⟩ := drop_at hlt
    rw [hd, forGo] at h
    obtain ⟨go, y3⟩ := y2 i x hx
    refine .inr ⟨go, fun σ' H' => i + 1 ≤ l.length ∧ Keep H1 H' ∧ ∃ μ st r, Wd C H' μ st ∧ REn C H' μ r σ' ∧ k0 ≤ μ.length ∧ postS C W k0 μ H' (forGo f (l.drop (i + 1)) r st) D, fun σ' H' q => ⟨l.length - (i + 1), by omega, rfl, q⟩, fun v H' hy => ?_⟩
    obtain ⟨sm, rx⟩ := y3 v H' hy
    have nS := Nx.same (μ := μ) sm
    rw [← hf] at h
    simp only at h
    cases ea : asgG g x r with
    | none => rw [ea] at h; exact h.elim
    | some r2 =>
      rw [ea] at h
      dsimp only at h
      refine ⟨μ, x, r, r2, hr.nx nS, rx, ea, fun σ2 hr2 off => ⟨μ, st, r2, w.same sm, hr2, hk, ?_⟩⟩
      have h := postS.ns hk h nS.ns
      cases eb : evSs cf k0 b r2 st with
      | ok fl s3 =>
        rw [eb] at h
        cases fl with
        | next r3 => exact fun μ' H'' σ' n' w' hr' => ⟨hlt, kp.trans (nS.keep.trans n'.keep), μ', s3, r3, w', hr', n'.len hk, by rw [← hf]; exact postS.ns hk h n'⟩
        | ret d => exact h
      | exc c fs s3 => rw [eb] at h; exact h
      | bad => rw [eb] at h; exact h
  · have e0 : i = l.length := by omega
    subst e0
    rw [List.drop_length, forGo] at h
    exact .inl ⟨y1 _ (Nat.le_refl _), hereN h w hr⟩
theorem g_whl (own : PassesOwn (model X.prog X.w) X.A X.env X.xe) {m : Mz} {t : T} {b : Ss} {c : Expr} {body : List Stmt} {pos : Pos} (hc : Both C W X c (evT cf t)) (hb : PSs X body (rdS C W k0 (evSs cf k0 b))) :
    PS X (.While c body [] pos) (rdS C W k0 (evS cf k0 (.whl m t b))) := weakS (ps_while own hc.1 hb) fun D σ H ⟨μ, st, r, w, hr, hk, h⟩ => by
  rw [evS] at h
  refine ⟨fun n σ H => ∃ μ st r, Wd C H μ st ∧ REn C H μ r σ ∧ k0 ≤ μ.length ∧ postS C W k0 μ H (whlGo (fun r1 s1 => evT cf t r1 s1) (fun r1 s1 => evSs cf k0 b r1 s1) n r st) D, ⟨_, μ, st, r, w, hr, hk, h⟩, ?_⟩
  rintro n σ H ⟨μ, st, r, w, hr, hk, h⟩
  cases n with
  | zero => exact h.elim
  | succ n =>
    rw [whlGo] at h
    refine stepS w hr hk h fun c st1 μ1 H1 n1 w1 hr1 hk1 h1 => ?_
    cases c with
    | true =>
      simp only [okT, ite_t] at h1 ⊢
      refine ⟨fun σ' H' => ∃ μ st r, Wd C H' μ st ∧ REn C H' μ r σ' ∧ k0 ≤ μ.length ∧ postS C W k0 μ H' (whlGo (fun r1 s1 => evT cf t r1 s1) (fun r1 s1 => evSs cf k0 b r1 s1) n r st) D, fun σ' H' q => ⟨n, Nat.lt_succ_self n, q⟩, μ1, st1, r, w1, hr1, hk1, ?_⟩
      cases eb : evSs cf k0 b r st1 with
      | ok fl s3 =>
        rw [eb] at h1
        cases fl with
        | next r3 => exact fun μ' H'' σ' n' w' hr' => ⟨μ', s3, r3, w', hr', n'.len hk1, postS.ns hk1 h1 n'⟩
        | ret d => exact h1
      | exc c fs s3 => rw [eb] at h1; exact h1
      | bad => rw [eb] at h1; exact h1
    | false => simp only [okT, ite_f] at h1 ⊢; exact hereN h1 w1 hr1
end
end Ev

set_option Elab.async false
set_option linter.all false
set_option maxRecDepth 100000
set_option maxHeartbeats 4000000
namespace Ev
open PySem PySem.Spec PyProof.Rows L2

/-! ### d[k] = v, l[i] = v -/
def rPut (C : Gc) : TSet := fun o i v H Q => (∃ p xs k j, o = .ref p ∧ i = .int k ∧ H p = some (.lst xs) ∧ L2.ixN xs.length k = some j ∧ Q (upd H p (.lst (xs.set j v)))) ∨
  (∃ D u ks vs ky z, o = .ref D ∧ H D = some u ∧ RDc C H D ks vs u ∧ keyOk ks ky = true ∧ ks.length < big ∧ RP C H ky i ∧ RP C H z v ∧ ∀ u', Mut (some u') → RDc C H D (dputK ks ky) (dputV ks vs ky z) u' → Q (upd H D u'))
/-- the slots of names, written from the left -/
def setS : List Nat → List V → L2.St → L2.St
  | i :: is, v :: vs, σ => setS is vs (σ.set i (some v))
  | _, _, σ => σ
def sName (is : List Nat) : TGs := fun vs σ H Q => vs.length = is.length ∧ Q (setS is vs σ) H
def ckNs (F : Fr) : List Nat → List Expr → Bool
  | [], [] => true
  | i :: is, e :: es => (match asName e with | some x => decide (F.N[i]? = some x) && locB F x | none => false) && ckNs F is es
  | _, _ => false
/-- are the stores of a tuple of names swapped? none: not told -/
def swV (F : Fr) (ts vs : List Expr) : Option (Option (List Str)) :=
  if (!(ts.length == 2 || ts.length == 3) || vs.length != ts.length) = true then some none
  else if (vs.any fun | .Starred .. => true | _ => false) = true then some none
  else if ((ts.filterMap fun
    | .Name id pos => if (F.sc.names.lookup id == some .local && pos.line == (ts.head?.map (·.pos.line)).getD 0) = true then some id else none
    | _ => none).length != ts.length || ((ts.filterMap fun
    | .Name id pos => if (F.sc.names.lookup id == some .local && pos.line == (ts.head?.map (·.pos.line)).getD 0) = true then some id else none
    | _ => none).eraseDups).length != (ts.filterMap fun
    | .Name id pos => if (F.sc.names.lookup id == some .local && pos.line == (ts.head?.map (·.pos.line)).getD 0) = true then some id else none
    | _ => none).length) = true then some none
  else if vs.all (foldedForSure 8) = true then some none
  else if vs.all (constantsAlone 8) = true then none
  else some (some (ts.filterMap fun
    | .Name id pos => if (F.sc.names.lookup id == some .local && pos.line == (ts.head?.map (·.pos.line)).getD 0) = true then some id else none
    | _ => none))
section
variable {C : Gc} {M : Md} {F : Fr} {cf : Cf} {k k0 : Nat} {W : XW} {X : Cx}
theorem sw_ok {ts vs : List Expr} {r : Option (List Str)} {a c : Nat} {b d : Pos} (hk : X.env.scope.kind = .function) (hsc : X.env.scope = F.sc) (h : swV F ts vs = some r) : swappedStores [.Tuple ts a b] (.Tuple vs c d) X.env = pure r := by
  have hb : X.env.blockKind = .function := by unfold Env.blockKind; rw [hk]; rfl
  have ek : ∀ id, X.env.kindOf id = F.sc.names.lookup id := fun id => by unfold Env.kindOf; rw [hsc]
  unfold swV at h
  unfold swappedStores
  simp only [hb, ek]
  have b0 : (ScopeKind.function != ScopeKind.function) = false := by decide
  simp only [b0, Bool.or_false]
  split at h
  · rename_i h1
    cases h
    exact if_pos h1
  · rename_i h1
    refine (if_neg h1).trans ?_
    split at h
    · rename_i h2
      cases h
      exact if_pos h2
    · rename_i h2
      refine (if_neg h2).trans ?_
      split at h
      · rename_i h3
        cases h
        exact if_pos h3
      · rename_i h3
        refine (if_neg h3).trans ?_
        split at h
        · rename_i h4
          cases h
          exact if_pos h4
        · rename_i h4
          refine (if_neg h4).trans ?_
          split at h
          · cases h
          · rename_i h5
            cases h
            exact if_neg h5
/-- the plain stores -/
theorem g_names (o : XOk C M F cf k W X) : ∀ (is : List Nat) (es : List Expr), ckNs F is es = true → PGs X es (sName is) ∧ es.all notStar = true ∧ is.length = es.length
  | [], [], _ => ⟨weakGs pgs_nil fun vs σ H Q ⟨hl, q⟩ => by
      have : vs = [] := List.eq_nil_of_length_eq_zero hl
      subst this
      exact ⟨rfl, q⟩, rfl, rfl⟩
  | [], _ :: _, h => by cases h
  | _ :: _, [], h => by cases h
  | i :: is, e :: es, h => by
    rw [ckNs, Bool.and_eq_true] at h
    obtain ⟨h, h2⟩ := h
    split at h
    · rename_i x hx
      obtain ⟨p, rfl⟩ := asName_of hx
      rw [Bool.and_eq_true, decide_eq_true_eq] at h
      obtain ⟨l1, l2⟩ := o.loc h.2
      obtain ⟨ih, ih2, ih3⟩ := g_names o is es h2
      refine ⟨weakGs (pgs_cons (pg_name o.nd (by rw [o.N]; exact h.1) l1 l2) ih) fun vs σ H Q ⟨hl, q⟩ => ?_, by rw [List.all_cons, ih2]; rfl, by rw [List.length_cons, List.length_cons, ih3]⟩
      cases vs with
      | nil => cases hl
      | cons v vs => exact ⟨v, vs, rfl, by simpa using hl, q⟩
    · cases h
theorem setAll_ren {μ : List Addr} {H : Hp} : ∀ {is : List Nat} {ds : List D} {vs : List V} {r r1 : En} {σ : L2.St}, REn C H μ r σ → RDs C H μ ds vs → setAll is ds r = some r1 → REn C H μ r1 (setS is vs σ) ∧ is.length = vs.length
  | [], [], vs, r, r1, σ, hr, rd, e => by
    cases e
    cases rd
    exact ⟨hr, rfl⟩
  | [], _ :: _, vs, r, r1, σ, hr, rd, e => by cases e
  | _ :: _, [], vs, r, r1, σ, hr, rd, e => by cases e
  | i :: is, d :: ds, vs, r, r1, σ, hr, rd, e => by
    cases rd with
    | cons r1' r2' =>
      rw [setAll] at e
      split at e
      · obtain ⟨a, b⟩ := setAll_ren (hr.set r1') r2' e
        exact ⟨a, by rw [List.length_cons, List.length_cons, b]⟩
      · cases e
theorem rds_rps {μ : List Addr} {H H' : Hp} {ds : List D} {vs : List V} (n : Nx μ H μ H') (h : RDs C H μ ds vs) : RDs C H' μ ds vs := h.nx n
theorem g_par (o : XOk C M F cf k W X) {is : List Nat} {as : Es} {ts vs : List Expr} {kt k2 : Nat} {pt pt2 pos : Pos} (hk : X.env.scope.kind = .function) (hn : ckNs F is ts = true) (hsw : swV F ts vs = some none) (hl : vs.length ≤ 1000) (hl2 : as.len = vs.length) (hl3 : is.length = vs.length) (h1 : PA X vs (rdA C W (evEs cf as))) :
    PS X (.Assign [.Tuple ts kt pt] (.Tuple vs k2 pt2) pos) (rdS C W k0 (evS cf k0 (.par is as))) := by
  obtain ⟨pg, hst, hlen⟩ := g_names o is ts hn
  refine weakS (ps_asg (pe_tup h1) (pg_tup (n := ts.length) o.calm pg (asg_len hst).1 (asg_len hst).2) (swapsSole_no rfl) (sw_ok hk o.sc hsw) (asg_cons rfl)) fun D σ H ⟨μ, st, r, w, hr, hk, h⟩ => ?_
  rw [evS] at h
  have hz := sizeLine_eq
  refine stepS w hr hk h fun ds st1 μ1 H1 n1 w1 hr1 hk1 h1 ws rws => ?_
  have h1 : postS C W k0 μ1 H1 (match setAll is ds r with | some r1 => R.ok (Fl.next r1) st1 | none => .bad) D := h1
  split at h1
  · rename_i r1 e1
    obtain ⟨a, b⟩ := setAll_ren hr1 rws e1
    refine ⟨by omega, fun p hp => ⟨p, ws, rfl, SqT.of upd_same, by omega, b.symm, ?_⟩⟩
    exact h1 μ1 _ _ (Nx.fresh hp).ns (w1.fresh hp) (a.nx (Nx.fresh hp))
  · exact h1.elim
theorem g_par2 (o : XOk C M F cf k W X) {i j : Nat} {as : Es} {x y : Str} {a b : Expr} {px py pt pt2 pos : Pos} {kt k2 : Nat} (hk : X.env.scope.kind = .function) (hi : F.N[i]? = some x) (hj : F.N[j]? = some y) (hij : i ≠ j) (hx : F.sc.names.lookup x = some .local) (hy : F.sc.names.lookup y = some .local)
    (hsw : swV F [.Name x px, .Name y py] [a, b] = some (some [x, y])) (h1 : PA X [a, b] (rdA C W (evEs cf as))) :
    PS X (.Assign [.Tuple [.Name x px, .Name y py] kt pt] (.Tuple [a, b] k2 pt2) pos) (rdS C W k0 (evS cf k0 (.par [i, j] as))) := by
  refine weakS (ps_par o.calm o.nd (by rw [o.N]; exact hi) (by rw [o.N]; exact hj) hij (by rw [o.sc]; exact hx) (by rw [o.sc]; exact hy) h1 (sw_ok hk o.sc hsw) (swapsSole_no rfl)) fun D σ H ⟨μ, st, r, w, hr, hk, h⟩ => ?_
  rw [evS] at h
  refine stepS w hr hk h fun ds st1 μ1 H1 n1 w1 hr1 hk1 h1 ws rws => ?_
  have h1 : postS C W k0 μ1 H1 (match setAll [i, j] ds r with | some r1 => R.ok (Fl.next r1) st1 | none => .bad) D := h1
  split at h1
  · rename_i r1 e1
    obtain ⟨a, b⟩ := setAll_ren hr1 rws e1
    match ws, b with
    | [v, w'], _ => exact ⟨v, w', rfl, hereN h1 w1 a⟩
  · exact h1.elim
/-! ### a written place -/
theorem set_put (o : XOk C M F cf k W X) : PSet X (rPut C) := by
  intro pins s σ H ob i v ov iv u Q I ro ri rv h
  rcases h with h | ⟨D, uu, ks, vs, ky, z, rfl, hD, r, hk, hz, rk, rz, q⟩
  · exact set_list pins s σ H ob i v ov iv u Q I ro ri rv h
  · cases ro
    obtain ⟨u', mu, r', _, wr⟩ := dct_write o.prog o.w o.units I hD r hk hz rk ri rz rv
    exact wr _ fun s' I' => ⟨_, I', q u' mu r'⟩
theorem sub_assign {o i : Expr} {p : Pos} {env : Env} (h : notSlice i = true) (v : Value) : assign (.Subscript o i p) env v = (do
      let ov ← holding [v] (eval o env)
      let iv ← holding [v, ov] (eval i env)
      standAt p
      holding [v, ov, iv] (setItem ov iv v)
      release [v, ov, iv] []) := by
  cases i <;> first | rfl | cases h
theorem dct_mut {a : Addr} {ks vs : List P} {H : Hp} {u : HO} (h : RDc C H a ks vs u) : ¬ Im u := by
  rcases h with ⟨kvs, rfl, _⟩ | ⟨_, _, _, rfl, _⟩ <;> exact fun z => z
theorem dct_nt {a : Addr} {ks vs : List P} {H : Hp} {u : HO} (h : RDc C H a ks vs u) : NT u := by
  rcases h with ⟨kvs, rfl, _⟩ | ⟨_, _, _, rfl, _⟩ <;> exact fun ps z => by cases z
theorem g_put (o : XOk C M F cf k W X) {i : Nat} {a b : E} {x : Str} {e e' : Expr} {p p2 pos : Pos} (hi : F.N[i]? = some x) (hv : visB F.sc x = true) (hn : nmB x = true) (hs : notSlice e = true) (hc : notComp e' = true) (h1 : PE X e (rdE C W (evE cf a))) (h2 : PE X e' (rdE C W (evE cf b))) :
    PS X (.Assign [.Subscript (.Name x p) e p2] e' pos) (rdS C W k0 (evS cf k0 (.put i a b))) := by
  obtain ⟨m1, m2, _⟩ := nmB_of hn
  have hx : PE X (.Name x p) (tVar i) := pe_var (by rw [o.N]; exact hi) (by rw [o.sc]; exact visB_of hv) m1 m2
  refine weakS (ps_asg h2 (pg_sub hx h1 (set_put o) (sub_assign hs)) (swapsSole_no hc) rfl (asg_cons rfl)) fun D σ H ⟨μ, st, r, w, hr, hk, h⟩ => ?_
  rw [evS] at h
  refine stepS w hr hk h fun d st1 μ1 H1 n1 w1 hr1 hk1 h1 v rv => ?_
  split at h1
  · rename_i n z er
    obtain ⟨vo, q1, aa, q2, rfl⟩ := hr1.at_ i (.obj n) er
    refine ⟨.ref aa, q1, ?_⟩
    refine stepS w1 hr1 hk1 h1 fun d' st2 μ2 H2 n2 w2 hr2 hk2 h2 v' rv' => ?_
    have ha := prefix_get n2.pre q2
    have rv : RP C H2 z v := RP.keep n2.keep _ _ rv
    have hm : aa ∈ μ2 := List.mem_of_getElem? ha
    split at h2
    · rename_i l kk es
      obtain ⟨xs, c1, c2⟩ := w2.at_ n aa _ ha es
      split at h2
      · rename_i j ej
        have ri : v' = .int kk := RP.int_iff.mp (show RP C H2 (.int kk) v' from rv')
        refine .inl ⟨aa, xs, kk, j, rfl, ri, c1, by rw [← c2.length]; exact ej, ?_⟩
        have ni : ¬ Im (.lst xs) := fun z => z
        refine h2 μ2 _ _ (Nx.mut hm c1 ni).ns (w2.set ha c1 ni ⟨_, upd_same, ?_⟩) (hr2.nx (Nx.mut hm c1 ni))
        exact RPs.keep (Keep.mut _ c1 ni) _ _ (c2.set rv j)
      · exact h2.elim
    · rename_i ks vs y es
      obtain ⟨u, c1, c2⟩ := w2.at_ n aa _ ha es
      split at h2
      · rename_i hh
        rw [Bool.and_eq_true, decide_eq_true_eq] at hh
        have ni := dct_mut c2
        refine .inr ⟨aa, u, ks, vs, y, z, rfl, c1, c2, hh.1, hh.2, rv', rv, fun u' mu r' => ?_⟩
        exact h2 μ2 _ _ (Nx.mut hm c1 ni).ns (w2.set ha c1 ni ⟨u', upd_same, r'.keep (Keep.mut _ c1 ni)⟩) (hr2.nx (Nx.mut hm c1 ni))
      · exact h2.elim
    · exact h2.elim
  · exact h1.elim
end
end Ev

set_option Elab.async false
set_option linter.all false
set_option maxRecDepth 100000
set_option maxHeartbeats 4000000
namespace Ev
open PySem PySem.Spec PyProof.Rows L2

section
variable {C : Gc} {M : Md} {F : Fr} {cf : Cf} {k k0 : Nat} {W : XW} {X : Cx}
/-! ### l.append(e) -/
theorem g_app (o : XOk C M F cf k W X) {i : Nat} {a : E} {x : Str} {e : Expr} {p apos cpos pos : Pos} (hi : F.N[i]? = some x) (hv : visB F.sc x = true) (hn : nmB x = true) (hs : notStar e = true) (hline : (apos.endLine == cpos.line) = true) (h1 : PE X e (rdE C W (evE cf a))) :
    PS X (.Expr (.Call (.Attribute (.Name x p) "append" apos) [e] [] cpos) pos) (rdS C W k0 (evS cf k0 (.app i a))) := by
  obtain ⟨m1, m2, _⟩ := nmB_of hn
  have hx : PE X (.Name x p) (tVar i) := pe_var (by rw [o.N]; exact hi) (by rw [o.sc]; exact visB_of hv) m1 m2
  refine weakS (ps_expr (pe_meth1 PySem.F.plainAttrs_list PySem.F.slot_list_append PySem.F.type_list_append mt_append hx (pa_cons h1 pa_nil (star_cons hs)) hs base_name hline) (swaps_no rfl)) fun D σ H ⟨μ, st, r, w, hr, hk, h⟩ => ?_
  rw [evS] at h
  split at h
  · rename_i n er
    split at h
    · rename_i l0 es0
      obtain ⟨vo, q1, aa, q2, rfl⟩ := hr.at_ i (.obj n) er
      obtain ⟨xs0, c1, c2⟩ := w.at_ n aa _ q2 es0
      refine ⟨.ref aa, q1, ty_list (.inl (.inl c1)), ?_⟩
      refine stepS w hr hk h fun d st1 μ1 H1 n1 w1 hr1 hk1 h1 v rv => ?_
      split at h1
      · rename_i l y es
        have ha := prefix_get n1.pre q2
        obtain ⟨xs, d1, d2⟩ := w1.at_ n aa _ ha es
        split at h1
        · rename_i hz
          have hz := of_decide_eq_true hz
          have ni : ¬ Im (.lst xs) := fun z => z
          have rv : RP C H1 y v := rv
          refine ⟨aa, xs, v, rfl, rfl, d1, by rw [← d2.length, ← big_line]; exact hz, ?_⟩
          have nx := Nx.mut (o := .lst (xs ++ [v])) (List.mem_of_getElem? ha) d1 ni
          exact h1 μ1 _ _ nx.ns (w1.set ha d1 ni ⟨_, upd_same, RPs.keep (Keep.mut _ d1 ni) _ _ (d2.append (.cons rv .nil))⟩) (hr1.nx nx)
        · exact h1.elim
      · exact h1.elim
    · exact h.elim
  · exact h.elim
/-! ### raise X('..') -/
theorem g_raise {c : Nat} {A : Addr} {x m : Str} {j : Nat} {p p2 pos pos2 : Pos} (hc : X.calm = true) (tk : Takes X fun cls d σ H => EW C W σ cls d H) (hA : C.ga[c]? = some A) (hm : X.mg x = some (.ref A)) (hg : Gl X x)
    (q1 : PySem.W.excIn X.K A [.type "ValueError", .type "Exception", .type "BaseException", .type "object"] "ValueError.__new__" = true) (q2 : PySem.W.keepIn X.K (.ref A) = true) (q3 : PySem.W.subIn X.K (.ref A) (.type "BaseException") = some true) (q4 : PySem.W.typeIn X.K (.ref A) = some (.type "type")) (hdb : (x == ("__debug__" : Str)) = false) :
    PS X (.Raise (some (.Call (.Name x p) [.Constant (.str m) j p2] [] pos)) none pos2) (rdS C W k0 (evS cf k0 (.raise c .nil))) := by
  refine weakS (ps_raise hc tk (pmk_own PySem.F.excBase_ValueError q1 hm q2 (raises_own q3 q4) hg hdb)) fun D σ H ⟨μ, st, r, w, hr, hk, h⟩ => ?_
  rw [evS, evEs] at h
  exact ⟨c, [], st, μ, A, hA, rfl, rfl, w, h μ H σ (Ns.refl _ _ _) w⟩
end
end Ev

set_option Elab.async false
set_option linter.all false
set_option maxRecDepth 100000
set_option maxHeartbeats 4000000
namespace Ev
open PySem PySem.Spec PyProof.Rows L2

/-! ### plain parameters bind -/
theorem zip_look : ∀ {ns : List Str} {us : List Value}, us.length = ns.length → ∀ n ∈ ns, ((ns.zip us).lookup n).isSome = true
  | [], us, h, n, hn => by cases hn
  | m :: ns, [], h, n, hn => by cases h
  | m :: ns, u :: us, h, n, hn => by
    rw [List.zip_cons_cons, List.lookup_cons]
    cases hb : n == m with
    | true => rfl
    | false =>
      rcases List.mem_cons.mp hn with rfl | hn
      · simp at hb
      · exact zip_look (by simpa using h) n hn
theorem zip_fm : ∀ {ns : List Str} {us : List Value} {l : List (Str × Value)}, us.length = ns.length → ns.Nodup → (∀ n ∈ ns, l.lookup n = (ns.zip us).lookup n) → (ns.filterMap fun n => (l.lookup n).map fun v => (n, v)) = ns.zip us
  | [], us, l, h, _, _ => by cases us <;> simp
  | m :: ns, [], l, h, _, _ => by cases h
  | m :: ns, u :: us, l, h, hn, hl => by
    rw [List.nodup_cons] at hn
    have h0 := hl m List.mem_cons_self
    rw [List.zip_cons_cons, List.lookup_cons, beq_self_eq_true] at h0
    rw [List.filterMap_cons, h0]
    show (m, u) :: _ = _
    rw [List.zip_cons_cons]
    congr 1
    refine zip_fm (by simpa using h) hn.2 fun n hm => ?_
    rw [hl n (List.mem_cons_of_mem _ hm), List.zip_cons_cons, List.lookup_cons]
    have : (n == m) = false := by
      cases hb : n == m with
      | false => rfl
      | true => exact absurd (eq_of_beq hb ▸ hm) hn.1
    rw [this]
theorem bind_plain {fd : FuncData} {as : List Arg} (hp : fd.params = ⟨[], as, none, [], [], none, []⟩) (hd : fd.defaults = .none) (hn : (as.map (·.arg)).Nodup) (us : List Value) (hl : us.length = (as.map (·.arg)).length) : bindArgs fd ⟨us, []⟩ = pure ((as.map (·.arg)).zip us) := by
  unfold bindArgs
  rw [hp, hd]
  have ms : (as.map (·.arg)).filter (fun n => (((as.map (·.arg)).zip us).lookup n).isNone) = [] := by
    rw [List.filter_eq_nil_iff]
    intro n hm
    have := zip_look hl n hm
    cases h : ((as.map (·.arg)).zip us).lookup n with
    | none => rw [h] at this; cases this
    | some v => simp
  have fm := zip_fm (l := (as.map (·.arg)).zip us) hl hn fun _ _ => rfl
  have hs : seqItems? Value.none = pure none := rfl
  have g1 : (decide (us.length > (as.map (·.arg)).length) && (none : Option Arg).isNone) = false := by
    rw [hl]; simp
  simp only [List.map_nil, List.nil_append, List.forIn_nil, pure_bind, hs, Option.getD_none, List.isEmpty_nil, g1, Bool.false_eq_true, if_false, List.append_nil, List.drop_nil, List.length_nil, Nat.sub_zero, List.take_length, ms, Bool.not_true, List.drop_length, List.zip_nil_left, List.isEmpty_nil, fm]

/-! ### name = [..], name = {..} -/
def swB (F : Fr) (e : Expr) (y : Str) (py : Pos) : Bool := match e with
  | .ListComp _ _ s p => F.sc.names.lookup y == some .local && py.line == p.line && !(s.names.any fun (n, k) => n == y && (k == .local || k == .cell))
  | .SetComp _ _ s p => F.sc.names.lookup y == some .local && py.line == p.line && !(s.names.any fun (n, k) => n == y && (k == .local || k == .cell))
  | .DictComp _ _ _ s p => F.sc.names.lookup y == some .local && py.line == p.line && !(s.names.any fun (n, k) => n == y && (k == .local || k == .cell))
  | _ => false
theorem sw_is {X : Cx} {F : Fr} (hk : X.env.scope.kind = .function) (hsc : X.env.scope = F.sc) (e : Expr) (y : Str) (py : Pos) (l : Nat) : swapsWith e (some (.Name y py)) l X.env = pure (swB F e y py) := by
  have hb : X.env.blockKind = .function := by unfold Env.blockKind; rw [hk]; rfl
  have ek : X.env.kindOf y = F.sc.names.lookup y := by unfold Env.kindOf; rw [hsc]
  cases e <;> first
    | rfl
    | (unfold swapsWith swB
       simp only [hb, ek, Expr.pos]
       rfl)
section
variable {C : Gc} {M : Md} {F : Fr} {cf : Cf} {k k0 : Nat} {W : XW} {X : Cx}
theorem sLs (o : XOk C M F cf k W X) {i : Nat} {y : Str} {py spos : Pos} {l : L} {e : Expr} (hy : F.N[i]? = some y) (hl : F.sc.names.lookup y = some .local) (hsw : swapsWith e (some (.Name y py)) spos.line X.env = pure true) (hc : (asLC e).isSome = true) (h : ckL M l F e = true) : PS X (.Assign [.Name y py] e spos) (tAsg (rdL C W (evL cf l)) (gName i)) := by
  have hy : X.N[i]? = some y := by rw [o.N]; exact hy
  have hl : X.env.scope.names.lookup y = some .local := by rw [o.sc]; exact hl
  cases l with
  | comp vs tg it ifs elt =>
    rw [ckL] at h
    split at h
    · rename_i x g s hx
      obtain ⟨p, rfl⟩ := asLC_of hx
      split at h
      · rename_i t it' f hg
        obtain rfl := asG1_of hg
        obtain ⟨h1, h⟩ := and3 h
        obtain ⟨h2, h⟩ := and3 h
        obtain ⟨h3, h⟩ := and3 h
        obtain ⟨h4, h⟩ := and3 h
        obtain ⟨h5, h⟩ := and3 h
        obtain ⟨h6, h7⟩ := and3 h
        refine weakS (ps_setLc o.calm o.nd hy hl hsw (sI it F t it' W X o h4) (blk_ok o h1) (fun s' H c cl fp => g_tg (o.blk s' H c cl fp) tg t h5) (fun s' H c cl fp => sTo ifs _ f WF _ (o.blk s' H c cl fp) h6) (fun s' H c cl fp => sE elt _ x WF _ (o.blk s' H c cl fp) h7) (folded_set h2)) fun D σ H hh => ?_
        rw [own_map]
        exact comp_rd (slB_of h3) (show rdL C W (evL cf (.comp vs tg it ifs elt)) σ H (fun x H1 => gName i x σ H1 D.nx) from hh)
      · cases h
    · cases h
  | comp2 vs tg it ifs vs1 tg1 it1 ifs1 elt =>
    rw [ckL] at h
    split at h
    · rename_i x g s hx
      obtain ⟨p, rfl⟩ := asLC_of hx
      split at h
      · rename_i t it' f t1 i1 f1 hg
        obtain rfl := asG2_of hg
        obtain ⟨h1, h⟩ := and3 h
        obtain ⟨h2, h⟩ := and3 h
        obtain ⟨h3, h⟩ := and3 h
        obtain ⟨h4, h⟩ := and3 h
        obtain ⟨h5, h⟩ := and3 h
        obtain ⟨h6, h⟩ := and3 h
        obtain ⟨h7, h⟩ := and3 h
        obtain ⟨h8, h⟩ := and3 h
        obtain ⟨h9, h⟩ := and3 h
        obtain ⟨h10, h⟩ := and3 h
        obtain ⟨h11, h⟩ := and3 h
        obtain ⟨h12, h13⟩ := and3 h
        refine weakS (ps_setLc2 (vs1 := vs1) o.calm o.nd hy hl hsw (sI it F t it' W X o h7) (blk_ok o h1) (by rw [own_map]; exact slB_of h6) (fun s' H c cl fp => g_tg (o.blk s' H c cl fp) tg t h8) (fun s' H c cl fp => sTo ifs _ f WF _ (o.blk s' H c cl fp) h9) (fun s' H c cl fp => sI it1 _ t1 i1 WF _ (o.blk s' H c cl fp) h10) (fun s' H c cl fp => g_tg (o.blk s' H c cl fp) tg1 t1 h11) (fun s' H c cl fp => sTo ifs1 _ f1 WF _ (o.blk s' H c cl fp) h12) (fun s' H c cl fp => sE elt _ x WF _ (o.blk s' H c cl fp) h13) (folded_set h2) (fun env => folded_set h3)) fun D σ H hh => ?_
        rw [own_map]
        exact comp2_rd (slB_of h4) (slB_of h5) (show rdL C W (evL cf (.comp2 vs tg it ifs vs1 tg1 it1 ifs1 elt)) σ H (fun x H1 => gName i x σ H1 D.nx) from hh)
      · cases h
    · cases h
  | disp es =>
    cases e <;> first | (exact absurd hc Bool.false_ne_true) | (rw [ckL] at h; cases h)
  | ofE a => cases e <;> first | (exact absurd hc Bool.false_ne_true) | (rw [ckL] at h; cases h)
  | ofR a => cases e <;> first | (exact absurd hc Bool.false_ne_true) | (cases a <;> first | (exact absurd (show false = true from h) Bool.false_ne_true) | (rw [ckL] at h; cases h))
  | sorted t a => cases e <;> first | (exact absurd hc Bool.false_ne_true) | (rw [ckL] at h; cases h)
  | cat a b => cases e <;> first | (exact absurd hc Bool.false_ne_true) | (rw [ckL] at h; cases h)
  | rep a b => cases e <;> first | (exact absurd hc Bool.false_ne_true) | (rw [ckL] at h; cases h)
  | slc a b c => cases e <;> first | (exact absurd hc Bool.false_ne_true) | (rw [ckL] at h; cases h)
  | vals a => exact absurd (show false = true from h) Bool.false_ne_true
  | sortset _ _ => exact absurd (show false = true from h) Bool.false_ne_true
  | sortI _ _ => exact absurd (show false = true from h) Bool.false_ne_true
  | sortV _ _ => exact absurd (show false = true from h) Bool.false_ne_true
  | sumL _ => exact absurd (show false = true from h) Bool.false_ne_true
  | rev _ => exact absurd (show false = true from h) Bool.false_ne_true
theorem sMs (o : XOk C M F cf k W X) {i : Nat} {y : Str} {py spos : Pos} {m : Ev.M} {e : Expr} (hy : F.N[i]? = some y) (hl : F.sc.names.lookup y = some .local) (hsw : swapsWith e (some (.Name y py)) spos.line X.env = pure true) (h : ckM M m F e = true) : PS X (.Assign [.Name y py] e spos) (tAsg (rdM C W (evM cf m)) (gName i)) := by
  have hy : X.N[i]? = some y := by rw [o.N]; exact hy
  have hl : X.env.scope.names.lookup y = some .local := by rw [o.sc]; exact hl
  cases m with
  | disp ks vs => exact absurd (show false = true from h) Bool.false_ne_true
  | comp vs tg it ifs a b =>
    rw [ckM] at h
    split at h
    · rename_i x z g s hx
      obtain ⟨p, rfl⟩ := asDC_of hx
      split at h
      · rename_i t it' f hg
        obtain rfl := asG1_of hg
        obtain ⟨h1, h⟩ := and3 h
        obtain ⟨h2, h⟩ := and3 h
        obtain ⟨h3, h⟩ := and3 h
        obtain ⟨h4, h⟩ := and3 h
        obtain ⟨h5, h⟩ := and3 h
        obtain ⟨h6, h⟩ := and3 h
        obtain ⟨h7, h8⟩ := and3 h
        refine weakS (ps_setDcx (bod := bEmit x z) (tb := tEmit X.prog X.w X.A (rdE C WF (evE cf a)) (rdE C WF (evE cf b))) o.calm o.nd (sI it F t it' W X o h4) (blk_ok o h1) h2 (fun Y it D => turn_emit) (fun s' H c cl fp => g_tg (o.blk s' H c cl fp) tg t h5) (fun s' H c cl fp => sTo ifs _ f WF _ (o.blk s' H c cl fp) h6) (fun s' H c cl fp D => pb_emit (Y := X.blk s' H s (compEnvC s cl c X.env) fp) rfl (sE a _ x WF _ (o.blk s' H c cl fp) h7) (sE b _ z WF _ (o.blk s' H c cl fp) h8)) hy hl hsw) fun D σ H hh => ?_
        rw [own_map]
        exact dcomp_rd o.prog o.w o.units (slB_of h3) (show rdM C W (evM cf (.comp vs tg it ifs a b)) σ H (fun x H1 => gName i x σ H1 D.nx) from hh)
      · cases h
    · cases h
  | comp2 vs tg it ifs vs1 tg1 it1 ifs1 a b =>
    rw [ckM] at h
    split at h
    · rename_i x z g s hx
      obtain ⟨p, rfl⟩ := asDC_of hx
      split at h
      · rename_i t it' f t1 i1 f1 hg
        obtain rfl := asG2_of hg
        obtain ⟨h1, h⟩ := and3 h
        obtain ⟨h2, h⟩ := and3 h
        obtain ⟨h3, h⟩ := and3 h
        obtain ⟨h4, h⟩ := and3 h
        obtain ⟨h5, h⟩ := and3 h
        obtain ⟨h6, h⟩ := and3 h
        obtain ⟨h7, h⟩ := and3 h
        obtain ⟨h8, h⟩ := and3 h
        obtain ⟨h9, h⟩ := and3 h
        obtain ⟨h10, h⟩ := and3 h
        obtain ⟨h11, h⟩ := and3 h
        obtain ⟨h12, h⟩ := and3 h
        obtain ⟨h13, h14⟩ := and3 h
        refine weakS (ps_setDcx (bod := bIn (.DictComp x z [⟨t, it', f, 0⟩, ⟨t1, i1, f1, 0⟩] s p) i1) (tb := fun D => tIn (rdI C WF (evI cf it1)) (gRd C tg1) (rdT C WF (evTo cf ifs1)) (tEmit X.prog X.w X.A (rdE C WF (evE cf a)) (rdE C WF (evE cf b)) D) vs1) o.calm o.nd (sI it F t it' W X o h7) (blk_ok o h1) h2 (fun Y it D => turn_out) (fun s' H c cl fp => g_tg (o.blk s' H c cl fp) tg t h8) (fun s' H c cl fp => sTo ifs _ f WF _ (o.blk s' H c cl fp) h9) (fun s' H c cl fp D => pb_in (Y := X.blk s' H s (compEnvC s cl c X.env) fp) rfl o.calm h3 (by rw [own_map]; exact slB_of h6) (sI it1 _ t1 i1 WF _ (o.blk s' H c cl fp) h10) (g_tg (o.blk s' H c cl fp) tg1 t1 h11) (sTo ifs1 _ f1 WF _ (o.blk s' H c cl fp) h12) (pb_emit (Y := X.blk s' H s (compEnvC s cl c X.env) fp) rfl (sE a _ x WF _ (o.blk s' H c cl fp) h13) (sE b _ z WF _ (o.blk s' H c cl fp) h14))) hy hl hsw) fun D σ H hh => ?_
        rw [own_map]
        exact dcomp2_rd o.prog o.w o.units (slB_of h4) (slB_of h5) (show rdM C W (evM cf (.comp2 vs tg it ifs vs1 tg1 it1 ifs1 a b)) σ H (fun x H1 => gName i x σ H1 D.nx) from hh)
      · cases h
    · cases h
end
end Ev

set_option Elab.async false
set_option linter.all false
set_option maxRecDepth 100000
set_option maxHeartbeats 4000000
namespace Ev
open PySem PySem.Spec PyProof.Rows L2

/-! ### the check of statements -/
def sAsg1 : Stmt → Option (Str × Pos × Expr × Pos)
  | .Assign [.Name x p] e pos => some (x, p, e, pos)
  | _ => none
theorem sAsg1_of {s : Stmt} {x : Str} {p pos : Pos} {e : Expr} (h : sAsg1 s = some (x, p, e, pos)) : s = .Assign [.Name x p] e pos := by
  unfold sAsg1 at h
  split at h
  · cases h; rfl
  · cases h
def sAsg : Stmt → Option (Expr × Expr)
  | .Assign [t] e _ => some (t, e)
  | _ => none
theorem sAsg_of {s : Stmt} {t e : Expr} (h : sAsg s = some (t, e)) : ∃ pos, s = .Assign [t] e pos := by
  unfold sAsg at h
  split at h
  · cases h; exact ⟨_, rfl⟩
  · cases h
def sRet : Stmt → Option (Option Expr)
  | .Return e _ => some e
  | _ => none
theorem sRet_of {s : Stmt} {e : Option Expr} (h : sRet s = some e) : ∃ pos, s = .Return e pos := by
  cases s <;> first | (cases h; exact ⟨_, rfl⟩) | cases h
def sEx : Stmt → Option Expr
  | .Expr e _ => some e
  | _ => none
theorem sEx_of {s : Stmt} {e : Expr} (h : sEx s = some e) : ∃ pos, s = .Expr e pos := by
  cases s <;> first | (cases h; exact ⟨_, rfl⟩) | cases h
def sIf : Stmt → Option (Expr × List Stmt × List Stmt)
  | .If c a b _ => some (c, a, b)
  | _ => none
theorem sIf_of {s : Stmt} {c : Expr} {a b : List Stmt} (h : sIf s = some (c, a, b)) : ∃ pos, s = .If c a b pos := by
  cases s <;> first | (cases h; exact ⟨_, rfl⟩) | cases h
def sFor : Stmt → Option (Expr × Expr × List Stmt)
  | .For t i b [] _ => some (t, i, b)
  | _ => none
theorem sFor_of {s : Stmt} {t i : Expr} {b : List Stmt} (h : sFor s = some (t, i, b)) : ∃ pos, s = .For t i b [] pos := by
  unfold sFor at h
  split at h
  · cases h; exact ⟨_, rfl⟩
  · cases h
def sWhl : Stmt → Option (Expr × List Stmt)
  | .While c b [] _ => some (c, b)
  | _ => none
theorem sWhl_of {s : Stmt} {c : Expr} {b : List Stmt} (h : sWhl s = some (c, b)) : ∃ pos, s = .While c b [] pos := by
  unfold sWhl at h
  split at h
  · cases h; exact ⟨_, rfl⟩
  · cases h
def isPass : Stmt → Bool
  | .Pass _ => true
  | _ => false
/-- raise X('..') -/
def sRaise : Stmt → Option Str
  | .Raise (some (.Call (.Name x _) [.Constant (.str _) _ _] [] _)) none _ => some x
  | _ => none
theorem sRaise_of {s : Stmt} {x : Str} (h : sRaise s = some x) : ∃ m j p p2 pos pos2, s = .Raise (some (.Call (.Name x p) [.Constant (.str m) j p2] [] pos)) none pos2 := by
  unfold sRaise at h
  split at h
  · cases h; exact ⟨_, _, _, _, _, _, rfl⟩
  · cases h
/-- the two names of a swapped pair -/
def two : List Expr → Option (Str × Str)
  | [.Name x _, .Name y _] => some (x, y)
  | _ => none
theorem two_of {l : List Expr} {x y : Str} (h : two l = some (x, y)) : ∃ p q, l = [.Name x p, .Name y q] := by
  unfold two at h
  split at h
  · cases h; exact ⟨_, _, rfl⟩
  · cases h
def isLoc (F : Fr) (x : Str) : Bool := match F.sc.names.lookup x with
  | some .local => true
  | _ => false
theorem isLoc_of {F : Fr} {x : Str} (h : isLoc F x = true) : F.sc.names.lookup x = some .local := by
  unfold isLoc at h
  split at h
  · assumption
  · cases h
def ckPar (F : Fr) (is : List Nat) (ts vs : List Expr) : Bool := match swV F ts vs with
  | some none => ckNs F is ts && decide (is.length = vs.length)
  | some (some names) => (match is, two ts, vs with
    | [i, j], some (x, y), [_, _] => decide (F.N[i]? = some x) && (decide (F.N[j]? = some y) && (decide (i ≠ j) && (isLoc F x && (isLoc F y && decide (names = [x, y])))))
    | _, _, _ => false)
  | none => false
section
variable (M : Md)
/-- name = e, where the store goes ahead of the block's end -/
def ckX : E → Fr → Expr → Bool
  | .frz l, F, e => (asLC e).isSome && ckL M l F e
  | .new l, F, e => (asLC e).isSome && ckL M l F e
  | .frzM m, F, e => ckM M m F e
  | .newM m, F, e => ckM M m F e
  | _, _, _ => false
mutual
def ckS : S → Fr → Stmt → Bool
  | .asg i a, F, s => (match sAsg1 s with
    | some (x, p, e, _) => decide (F.N[i]? = some x) && (locB F x && (if swB F e x p = true then isLoc F x && ckX M a F e else ckE M a F e))
    | none => false)
  | .unp gs a, F, s => (match sAsg s with
    | some (t, e) => ckG F (.tup gs) t && ((asTup e).isNone && (notComp e && ckE M a F e))
    | none => false)
  | .par is as, F, s => (match sAsg s with
    | some (t, e) => (match asTup t, asTup e with
      | some ts, some vs => ckPar F is ts vs && (decide (vs.length ≤ 1000) && (decide (as.len = vs.length) && ckEs M as F vs))
      | _, _ => false)
    | none => false)
  | .put i a b, F, s => (match sAsg s with
    | some (t, e') => (match asSub t with
      | some (o, e) => (match asName o with
        | some x => decide (F.N[i]? = some x) && (visB F.sc x && (nmB x && (notSlice e && (notComp e' && (ckE M a F e && ckE M b F e')))))
        | none => false)
      | none => false)
    | none => false)
  | .ex a, F, s => (match sEx s with | some e => notComp e && ckE M a F e | none => false)
  | .ret a, F, s => (match sRet s with | some (some e) => ckE M a F e | _ => false)
  | .retN, F, s => (match sRet s with | some none => true | _ => false)
  | .ife t a b, F, s => (match sIf s with | some (c, x, y) => ckT M t F c && (ckSs a F x && ckSs b F y) | none => false)
  | .fo g it b, F, s => (match sFor s with | some (t, i, x) => notSet i && (ckI M it F t i && (ckG F g t && ckSs b F x)) | none => false)
  | .whl m t b, F, s => (match sWhl s with | some (c, x) => ckT M t F c && ckSs b F x | none => false)
  | .app i a, F, s => (match sEx s with
    | some c => (match asM1 c with
      | some (x, p, m, e) => decide (m = "append") && (decide (F.N[i]? = some x) && (visB F.sc x && (nmB x && (notStar e && ckE M a F e))))
      | none => false)
    | none => false)
  | .raise c .nil, F, s => (match sRaise s with
    | some x => decide (M.exs.lookup x = some c) && (glB F.sc x && nmB x)
    | none => false)
  | .skip, F, s => isPass s
  | .never, F, s => true
  | _, _, _ => false
def ckSs : Ss → Fr → List Stmt → Bool
  | .nil, _, [] => true
  | .cons a as, F, s :: ss => ckS a F s && ckSs as F ss
  | _, _, _ => false
end
end
/-- a class of errors without an own __init__ -/
structure ExcP (K : PySem.W.Frag) (A : Addr) : Prop where
  q1 : PySem.W.excIn K A [.type "ValueError", .type "Exception", .type "BaseException", .type "object"] "ValueError.__new__" = true
  q2 : PySem.W.keepIn K (.ref A) = true
  q3 : PySem.W.subIn K (.ref A) (.type "BaseException") = some true
  q4 : PySem.W.typeIn K (.ref A) = some (.type "type")
/-- a def's body: what statements want -/
structure SOk (C : Gc) (M : Md) (F : Fr) (cf : Cf) (k : Nat) (W : XW) (X : Cx) : Prop where
  x : XOk C M F cf k W X
  own : PassesOwn (model X.prog X.w) X.A X.env X.xe
  kind : X.env.scope.kind = .function
  tk : Takes X fun cls d σ H => EW C W σ cls d H
  exs : ∀ x c, M.exs.lookup x = some c → ∃ A, C.ga[c]? = some A ∧ X.mg x = some (.ref A) ∧ ExcP X.K A
section
variable {C : Gc} {M : Md} {F : Fr} {cf : Cf} {k k0 : Nat} {W : XW} {X : Cx}
theorem ckX_ok (o : SOk C M F cf k W X) {i : Nat} {a : E} {x : Str} {p pos : Pos} {e : Expr} (hi : F.N[i]? = some x) (hl : isLoc F x = true) (hsw : swapsWith e (some (.Name x p)) pos.line X.env = pure true) (h : ckX M a F e = true) : PS X (.Assign [.Name x p] e pos) (rdS C W k0 (evS cf k0 (.asg i a))) := by
  cases a with
  | frz l =>
    obtain ⟨h1, h2⟩ := and3 h
    exact fr_asg (sLs o.x hi (isLoc_of hl) hsw h1 h2)
  | new l =>
    obtain ⟨h1, h2⟩ := and3 h
    exact nw_asg (sLs o.x hi (isLoc_of hl) hsw h1 h2)
  | frzM m => exact fr_asgM (sMs o.x hi (isLoc_of hl) hsw h)
  | newM m => exact nw_asgM (sMs o.x hi (isLoc_of hl) hsw h)
  | _ => exact absurd (show false = true from h) Bool.false_ne_true
theorem par_ok (o : SOk C M F cf k W X) {is : List Nat} {as : Es} {t e : Expr} {ts vs : List Expr} {pos : Pos} (ht : asTup t = some ts) (he : asTup e = some vs) (h : ckPar F is ts vs = true) (hl : vs.length ≤ 1000) (hl2 : as.len = vs.length) (h1 : PA X vs (rdA C W (evEs cf as))) : PS X (.Assign [t] e pos) (rdS C W k0 (evS cf k0 (.par is as))) := by
  obtain ⟨kt, pt, rfl⟩ := asTup_of ht
  obtain ⟨k2, pt2, rfl⟩ := asTup_of he
  unfold ckPar at h
  split at h
  · rename_i hs
    obtain ⟨h3, h4⟩ := and3 h
    exact g_par o.x o.kind h3 hs hl hl2 (of_decide_eq_true h4) h1
  · rename_i names hs
    split at h
    · rename_i i j x y a b h2
      obtain ⟨px, py, rfl⟩ := two_of h2
      obtain ⟨q1, h⟩ := and3 h
      obtain ⟨q2, h⟩ := and3 h
      obtain ⟨q3, h⟩ := and3 h
      obtain ⟨q4, h⟩ := and3 h
      obtain ⟨q5, q6⟩ := and3 h
      obtain rfl := of_decide_eq_true q6
      exact g_par2 o.x o.kind (of_decide_eq_true q1) (of_decide_eq_true q2) (of_decide_eq_true q3) (isLoc_of q4) (isLoc_of q5) hs h1
    · cases h
  · cases h
mutual
theorem sS (o : SOk C M F cf k W X) : ∀ (a : S) (s : Stmt), ckS M a F s = true → PS X s (rdS C W k0 (evS cf k0 a))
  | .asg i a, s, h => by
    rw [ckS] at h
    split at h
    · rename_i x p e pos hx
      obtain rfl := sAsg1_of hx
      obtain ⟨h1, h⟩ := and3 h
      obtain ⟨h2, h3⟩ := and3 h
      have sw := sw_is (l := pos.line) o.kind o.x.sc e x p
      by_cases hb : swB F e x p = true
      · rw [if_pos hb] at h3
        rw [hb] at sw
        obtain ⟨h4, h5⟩ := and3 h3
        exact ckX_ok o (of_decide_eq_true h1) h4 sw h5
      · rw [if_neg hb] at h3
        have hb : swB F e x p = false := by simpa using hb
        rw [hb] at sw
        exact g_asg o.x (of_decide_eq_true h1) h2 sw (sE a F e W X o.x h3)
    · cases h
  | .mv i j, s, h => absurd (show false = true from h) Bool.false_ne_true
  | .unp gs a, s, h => by
    rw [ckS] at h
    split at h
    · rename_i t e hx
      obtain ⟨pos, rfl⟩ := sAsg_of hx
      obtain ⟨h1, h⟩ := and3 h
      obtain ⟨h2, h⟩ := and3 h
      obtain ⟨h3, h4⟩ := and3 h
      exact g_unp o.x h1 (by simpa using h2) h3 (sE a F e W X o.x h4)
    · cases h
  | .par is as, s, h => by
    rw [ckS] at h
    split at h
    · rename_i t e hx
      obtain ⟨pos, rfl⟩ := sAsg_of hx
      split at h
      · rename_i ts vs ht he
        obtain ⟨h1, h⟩ := and3 h
        obtain ⟨h2, h⟩ := and3 h
        obtain ⟨h3, h4⟩ := and3 h
        exact par_ok o ht he h1 (of_decide_eq_true h2) (of_decide_eq_true h3) (sEs as F vs W X o.x h4)
      · cases h
    · cases h
  | .put i a b, s, h => by
    rw [ckS] at h
    split at h
    · rename_i t e' hx
      obtain ⟨pos, rfl⟩ := sAsg_of hx
      split at h
      · rename_i ob e hs
        obtain ⟨p2, rfl⟩ := asSub_of hs
        split at h
        · rename_i x hn
          obtain ⟨p, rfl⟩ := asName_of hn
          obtain ⟨h1, h⟩ := and3 h
          obtain ⟨h2, h⟩ := and3 h
          obtain ⟨h3, h⟩ := and3 h
          obtain ⟨h4, h⟩ := and3 h
          obtain ⟨h5, h⟩ := and3 h
          obtain ⟨h6, h7⟩ := and3 h
          exact g_put o.x (of_decide_eq_true h1) h2 h3 h4 h5 (sE a F e W X o.x h6) (sE b F e' W X o.x h7)
        · cases h
      · cases h
    · cases h
  | .app i a, s, h => by
    rw [ckS] at h
    split at h
    · rename_i c hx
      obtain ⟨pos, rfl⟩ := sEx_of hx
      split at h
      · rename_i x p m e hm
        obtain ⟨apos, cpos, rfl, hl⟩ := asM1_of hm
        obtain ⟨h1, h⟩ := and3 h
        obtain ⟨h2, h⟩ := and3 h
        obtain ⟨h3, h⟩ := and3 h
        obtain ⟨h4, h⟩ := and3 h
        obtain ⟨h5, h6⟩ := and3 h
        obtain rfl := of_decide_eq_true h1
        exact g_app o.x (of_decide_eq_true h2) h3 h4 h5 hl (sE a F e W X o.x h6)
      · cases h
    · cases h
  | .upd i a, s, h => absurd (show false = true from h) Bool.false_ne_true
  | .fld i f a, s, h => absurd (show false = true from h) Bool.false_ne_true
  | .ex a, s, h => by
    rw [ckS] at h
    split at h
    · rename_i e hx
      obtain ⟨pos, rfl⟩ := sEx_of hx
      obtain ⟨h1, h2⟩ := and3 h
      exact g_sex h1 (sE a F e W X o.x h2)
    · cases h
  | .ret a, s, h => by
    rw [ckS] at h
    split at h
    · rename_i e hx
      obtain ⟨pos, rfl⟩ := sRet_of hx
      exact g_ret (sE a F e W X o.x h)
    · cases h
  | .retv i, s, h => absurd (show false = true from h) Bool.false_ne_true
  | .retN, s, h => by
    rw [ckS] at h
    split at h
    · rename_i hx
      obtain ⟨pos, rfl⟩ := sRet_of hx
      exact g_retN
    · cases h
  | .ife t a b, s, h => by
    rw [ckS] at h
    split at h
    · rename_i c x y hx
      obtain ⟨pos, rfl⟩ := sIf_of hx
      obtain ⟨h1, h⟩ := and3 h
      obtain ⟨h2, h3⟩ := and3 h
      exact g_sif (sT t F c W X o.x h1) (sSs o a x h2) (sSs o b y h3)
    · cases h
  | .fo g it b, s, h => by
    rw [ckS] at h
    split at h
    · rename_i t i x hx
      obtain ⟨pos, rfl⟩ := sFor_of hx
      obtain ⟨h1, h⟩ := and3 h
      obtain ⟨h2, h⟩ := and3 h
      obtain ⟨h3, h4⟩ := and3 h
      exact g_for o.x o.own h1 (sI it F t i W X o.x h2) (g_tg o.x g t h3) (sSs o b x h4)
    · cases h
  | .whl m t b, s, h => by
    rw [ckS] at h
    split at h
    · rename_i c x hx
      obtain ⟨pos, rfl⟩ := sWhl_of hx
      obtain ⟨h1, h2⟩ := and3 h
      exact g_whl o.own (sT t F c W X o.x h1) (sSs o b x h2)
    · cases h
  | .raise c .nil, s, h => by
    rw [ckS] at h
    split at h
    · rename_i x hx
      obtain ⟨m, j, p, p2, pos, pos2, rfl⟩ := sRaise_of hx
      obtain ⟨h1, h⟩ := and3 h
      obtain ⟨h2, h3⟩ := and3 h
      obtain ⟨A, a1, a2, q⟩ := o.exs x c (of_decide_eq_true h1)
      exact g_raise o.x.calm o.tk a1 a2 (glB_of o.x.sc h2) q.q1 q.q2 q.q3 q.q4 (nmB_of h3).1
    · cases h
  | .raise c (.cons _ _), s, h => absurd (show false = true from h) Bool.false_ne_true
  | .skip, s, h => by
    rw [ckS] at h
    cases s <;> first | exact g_skip | cases h
  | .never, s, h => g_never
theorem sSs (o : SOk C M F cf k W X) : ∀ (a : Ss) (s : List Stmt), ckSs M a F s = true → PSs X s (rdS C W k0 (evSs cf k0 a))
  | .nil, [], h => g_snil
  | .nil, _ :: _, h => absurd (show false = true from h) Bool.false_ne_true
  | .cons a as, [], h => absurd (show false = true from h) Bool.false_ne_true
  | .cons a as, s :: ss, h => by
    rw [ckSs] at h
    obtain ⟨h1, h2⟩ := and3 h
    exact g_scons (sS o a s h1) (sSs o as ss h2)
end
end
end Ev

set_option Elab.async false
set_option linter.all false
set_option maxRecDepth 100000
set_option maxHeartbeats 4000000
namespace Ev
open PySem PySem.Spec PyProof.Rows L2

/-! ### a def of the written part -/
/-- the def at f is the term fn: N its names, the parameters first -/
def lamB (cs : List (Addr × Addr)) (tbs : List (Addr × Str)) (lam : Bool) (cd : Value) (q : Str) : Bool := !lam || (match cd with
  | .ref c => cs.any fun p => decide (p.1 = c) && (decide ((p.2, q) ∈ tbs) && tbs.all fun t => !decide (t.1 = p.2) || decide (t.2 = q))
  | _ => false)
theorem lamB_ok {cs : List (Addr × Addr)} {tbs : List (Addr × Str)} {lam : Bool} {cd : Value} {q : Str} (h : lamB cs tbs lam cd q = true) (hl : lam = true) : ∃ c P, cd = .ref c ∧ (c, P) ∈ cs ∧ (P, q) ∈ tbs ∧ ∀ p ∈ tbs, p.1 = P → p.2 = q := by
  unfold lamB at h
  rw [hl, Bool.not_true, Bool.false_or] at h
  split at h
  · rename_i c
    obtain ⟨p, hp, h2⟩ := List.any_eq_true.mp h
    obtain ⟨h3, h2⟩ := and3 h2
    obtain ⟨h4, h5⟩ := and3 h2
    obtain rfl := of_decide_eq_true h3
    refine ⟨p.1, p.2, rfl, hp, of_decide_eq_true h4, fun t ht e => ?_⟩
    have h6 := List.all_eq_true.mp h5 t ht
    rw [e] at h6
    simpa using h6
  · cases h
def defB (K : PySem.W.Frag) (M : Md) (cs : List (Addr × Addr)) (tbs : List (Addr × Str)) (f : Addr) (fn : Fn) (N : List Str) (lam : Bool) : Bool := match K.lookup f with
  | some ob => (match ob.data with
    | .func fd => (match fd.params, fd.body, fd.defaults, fd.closure with
      | ⟨[], as, none, [], [], none, []⟩, .stmts body, .none, [] =>
        decide (fd.globals = mainGlobals) && (decide (fd.builtins = builtinsNs) && (PySem.W.codeIn K fd.code fd.qualname && (PySem.W.keepIn K (.ref f) && (C8.scC N (as.map (·.arg)) fd.scope && (decide (as.length = fn.np) && (decide (N.length = fn.ns) && (ckSs M fn.body ⟨N, fd.scope, fun _ => true, lam⟩ body && (lamB cs tbs lam fd.code (fd.qualname ++ ".<locals>." ++ "<lambda>") && decide (as.map (·.arg)).Nodup))))))))
      | _, _, _, _ => false)
    | _ => false)
  | none => false
structure DefIs (K : PySem.W.Frag) (M : Md) (cs : List (Addr × Addr)) (tbs : List (Addr × Str)) (lam : Bool) (f : Addr) (fn : Fn) (N : List Str) (fd : FuncData) (ps : List Str) : Prop where
  bindA : ∀ us : List Value, us.length = ps.length → bindArgs fd ⟨us, []⟩ = pure (ps.zip us)
  kp : PySem.W.keepIn K (.ref f) = true
  np : ps.length = fn.np
  ns : N.length = fn.ns
  ex : ∃ (name qual : Str) (params : Arguments) (body : List Stmt) (scope : Scope) (dV kV doc pm cdv ct oc : Value) (an od : Option Addr) (osl : Array (Option Value)),
    fd = PySem.W.fnOf name qual params body scope dV kV doc pm an cdv ct ∧ K.lookup f = some ⟨oc, od, .func (PySem.W.fnOf name qual params body scope dV kV doc pm an cdv ct), osl⟩ ∧ PySem.W.codeIn K cdv qual = true ∧ FnScope N ps scope ∧ ckSs M fn.body ⟨N, scope, fun _ => true, lam⟩ body = true ∧
      (lam = true → ∃ c P, cdv = .ref c ∧ (c, P) ∈ cs ∧ (P, qual ++ ".<locals>." ++ "<lambda>") ∈ tbs ∧ ∀ p ∈ tbs, p.1 = P → p.2 = qual ++ ".<locals>." ++ "<lambda>")
theorem DefIs.bind {K : PySem.W.Frag} {M : Md} {cs : List (Addr × Addr)} {tbs : List (Addr × Str)} {lam : Bool} {f : Addr} {fn : Fn} {N : List Str} {fd : FuncData} {ps : List Str} (D : DefIs K M cs tbs lam f fn N fd ps) : Binds K fd ps [] := .all D.bindA
theorem defB_ok {K : PySem.W.Frag} {M : Md} {cs : List (Addr × Addr)} {tbs : List (Addr × Str)} {lam : Bool} {f : Addr} {fn : Fn} {N : List Str} (h : defB K M cs tbs f fn N lam = true) : ∃ fd ps, DefIs K M cs tbs lam f fn N fd ps := by
  unfold defB at h
  split at h
  · rename_i ob lk
    split at h
    · rename_i fd ed
      split at h
      · rename_i as body hp hb hd hc
        obtain ⟨h1, h⟩ := and3 h
        obtain ⟨h2, h⟩ := and3 h
        obtain ⟨h3, h⟩ := and3 h
        obtain ⟨h4, h⟩ := and3 h
        obtain ⟨h5, h⟩ := and3 h
        obtain ⟨h6, h⟩ := and3 h
        obtain ⟨h7, h⟩ := and3 h
        obtain ⟨h8, h⟩ := and3 h
        obtain ⟨h10, h9⟩ := and3 h
        refine ⟨fd, as.map (·.arg), fun us hl => bind_plain hp hd (of_decide_eq_true h9) us hl, h4, by rw [List.length_map]; exact of_decide_eq_true h6, of_decide_eq_true h7, ?_⟩
        obtain ⟨oc, od, dt, osl⟩ := ob
        obtain ⟨name, qual, params, fbody, scope, globals, closure, defaults, kV, doc, pm, an, cdv, ct, bts⟩ := fd
        dsimp only at ed hb hc h1 h2 h3 h5 h8 h10
        subst ed hb hc
        obtain rfl := of_decide_eq_true h1
        obtain rfl := of_decide_eq_true h2
        exact ⟨name, qual, params, body, scope, defaults, kV, doc, pm, cdv, ct, oc, an, od, osl, rfl, lk, h3, C8.fnScope_by h5, h8, lamB_ok h10⟩
      · cases h
    · cases h
  · cases h
/-- the module, as its defs see it -/
structure MOk (C : Gc) (M : Md) (mg : Str → Option Value) (Tb : List Fn) (Ns : List (List Str × Bool)) (cs : List (Addr × Addr)) : Prop where
  exs : ∀ x c, M.exs.lookup x = some c → ∃ A, C.ga[c]? = some A ∧ mg x = some (.ref A) ∧ ExcP C.K A
  blt : ∀ x ∈ bltNames, mg x = none
  fns : ∀ x g, M.fns.lookup x = some g → ∃ f, C.ga[g]? = some f ∧ mg x = some (.ref f)
  gcs : ∀ x p, M.gcs.lookup x = some p → ∃ u v, mg x = some u ∧ RelV v u ∧ ∀ H, RP C H p v
  defs : ∀ g f, C.ga[g]? = some f → (∃ x, M.fns.lookup x = some g) → ∃ fn N, Tb[g]? = some fn ∧ Ns[g]? = some N ∧ defB C.K M cs C.tbs f fn N.1 N.2 = true
/-- what a base gives -/
structure BOk (C : Gc) (M : Md) (mg : Str → Option Value) (base : Heap) (cs : List (Addr × Addr)) : Prop where
  tab : ∀ p ∈ cs, LamX.TabB base mg p.1 p.2
  cts : ∀ x okv tab, (x, okv, tab) ∈ M.cts → CatchOk C mg base x okv tab
theorem paired_at {α β : Type} {F : α → β → Prop} {i : Nat} {x : α} : ∀ {l : List α} {m : List β}, Paired F l m → l[i]? = some x → ∃ y, m[i]? = some y ∧ F x y := by
  induction i with
  | zero =>
    intro l m r e
    cases r with
    | nil => cases e
    | cons h t => cases e; exact ⟨_, rfl, h⟩
  | succ i ih =>
    intro l m r e
    cases r with
    | nil => cases e
    | cons h t => exact ih t (by simpa using e)
theorem start_ren {C : Gc} {H : Hp} {μ : List Addr} {N : List Str} {fn : Fn} {ds : List D} {vs : List V} (hn : N.length = fn.ns) (r : RDs C H μ ds vs) : REn C H μ (enter fn ds) (L2.start N vs) := by
  have l : ds.length = vs.length := Paired.length r
  unfold enter L2.start
  refine ⟨by simp only [List.length_append, List.length_map, List.length_replicate]; omega, fun i d e => ?_⟩
  have hi : i < ds.length := by
    by_cases hi : i < ds.length
    · exact hi
    · rw [List.getElem?_append_right (by simpa using hi), List.getElem?_replicate] at e
      split at e <;> cases e
  rw [List.getElem?_append_left (by simpa using hi), List.getElem?_map] at e
  cases q : ds[i]? with
  | none => rw [q] at e; cases e
  | some x =>
    rw [q] at e
    cases e
    obtain ⟨v, q2, q3⟩ := paired_at r q
    refine ⟨v, ?_, q3⟩
    rw [List.getElem?_append_left (by rw [List.length_map, ← l]; exact hi), List.getElem?_map, q2]; rfl
section
variable {C : Gc} {M : Md} {mg : Str → Option Value} {base : Heap} {Tb : List Fn} {Ns : List (List Str × Bool)} {cs : List (Addr × Addr)}
/-- the store behind the def: as it was, and what is handed back -/
theorem back {μ μ' : List Addr} {H H' : Hp} {st st' : St} (w : Wd C H μ st) (n : Ev.Ns st.length μ H μ' H') (w' : Wd C H' μ' st') : μ'.take st.length = μ ∧ Nx μ H (μ'.take st.length) H' ∧ Wd C H' (μ'.take st.length) (st'.take st.length) := by
  have e : μ'.take st.length = μ := by
    have p := n.pre
    rw [← w.len, List.take_length] at p
    obtain ⟨t, rfl⟩ := p
    rw [← w.len, List.take_left]
  refine ⟨e, ?_, w'.take _⟩
  rw [e]
  exact ⟨List.prefix_rfl, n.keep, n.rest, fun b m z => absurd m z⟩
theorem back_obj {μ μ' : List Addr} {H H' : Hp} {st st' : St} {n : Nat} {a : Addr} {o : Ob} (w : Wd C H μ st) (hn : Ev.Ns st.length μ H μ' H') (w' : Wd C H' μ' st') (hl : ¬ n < st.length) (ha : μ'[n]? = some a) (ho : st'[n]? = some o) :
    Nx μ H (μ'.take st.length ++ [a]) H' ∧ Wd C H' (μ'.take st.length ++ [a]) (st'.take st.length ++ [o]) := by
  obtain ⟨e, n1, w1⟩ := back w hn w'
  have hm : a ∉ μ'.take st.length := fun z => by
    obtain ⟨i, hi, ei⟩ := List.mem_iff_getElem.mp z
    rw [List.length_take] at hi
    rw [List.getElem_take] at ei
    obtain ⟨l2, e2⟩ := List.getElem?_eq_some_iff.mp ha
    have := (List.getElem_inj w'.nd).mp (ei.trans e2.symm)
    omega
  have hne : H a = none ∨ ∃ ps, H a = some (.tbl ps) := hn.new a (List.mem_of_getElem? ha) (by rw [← e]; exact hm)
  have hnd : (μ'.take st.length ++ [a]).Nodup := by
    rw [List.nodup_append]
    refine ⟨w1.nd, by simp, fun x m y my q => ?_⟩
    have : y = a := by simpa using my
    subst this
    subst q
    exact hm m
  have sub : ∀ b, b ∉ μ' → b ∉ μ'.take st.length ++ [a] := fun b nb m => by
    rcases List.mem_append.mp m with m | m
    · exact nb (List.mem_of_mem_take m)
    · have : b = a := by simpa using m
      subst this
      exact nb (List.mem_of_getElem? ha)
  have tb : TabO C H' (μ'.take st.length ++ [a]) := fun p hp => by
    obtain ⟨ps, t1, t2, t3, t4⟩ := w'.tab p hp
    refine ⟨ps, t1, t2, sub _ t3, fun pos cv hc => ?_⟩
    obtain ⟨c, e1, e2, e3⟩ := t4 pos cv hc
    exact ⟨c, e1, e2, sub _ e3⟩
  refine ⟨⟨?_, n1.keep, n1.rest, fun b m z => ?_⟩, ?_, hnd, tb, fun i b o' h1 h2 => ?_⟩
  · rw [e]; exact List.prefix_append _ _
  · rcases List.mem_append.mp m with m | m
    · exact n1.new b m z
    · have : b = a := by simpa using m
      subst this
      exact hne
  · rw [List.length_append, List.length_append, w1.len]; rfl
  · by_cases hi : i < (μ'.take st.length).length
    · rw [List.getElem?_append_left hi] at h1
      rw [List.getElem?_append_left (by rw [← w1.len]; exact hi)] at h2
      exact w1.at_ i b o' h1 h2
    · rw [List.getElem?_append_right (by omega)] at h1
      rw [List.getElem?_append_right (by rw [← w1.len]; omega)] at h2
      have e1 : i - (μ'.take st.length).length = 0 := by
        have := (List.getElem?_eq_some_iff.mp h1).1
        simp at this ⊢; omega
      have e2 : i - (st'.take st.length).length = 0 := by rw [← w1.len]; exact e1
      rw [e1] at h1
      rw [e2] at h2
      simp at h1 h2
      subst h1 h2
      exact w'.at_ n a o ha ho
/-- a def's promise, one level deeper -/
theorem def_step (mo : MOk C M mg Tb Ns cs) (bo : BOk C M mg base cs) {n g : Nat} {f : Addr} {fn : Fn} {N : List Str} {lam : Bool} {fd : FuncData} {ps : List Str} (e1 : Tb[g]? = some fn) (D : DefIs C.K M cs C.tbs lam f fn N fd ps)
    (rec : ∀ g f, C.ga[g]? = some f → (∃ x, M.fns.lookup x = some g) → ∃ fd ps, PySem.W.keepIn C.K (.ref f) = true ∧ Binds C.K fd ps [] ∧ FnOk C.P C.w C.K mg base (L2.CX C.P C.w) (3 * n) f fd ps (spG C (callN Tb n) ps.length g) ∧ ∀ ds st, ds.length ≠ ps.length → callN Tb n g ds st = .bad) :
    FnOk C.P C.w C.K mg base (L2.CX C.P C.w) (3 * (n + 1)) f fd ps (spG C (callN Tb (n + 1)) ps.length g) := by
  obtain ⟨name, qual, params, body, scope, dV, kV, doc, pm, cdv, ct, oc, an, od, osl, rfl, lk, hcd, S, hck, hlam⟩ := D.ex
  refine L2.fn_of (k := 3 * n + 2) lk hcd S (fun vs H Q E h => h.1) fun A outer s H vs Q E hr ⟨hlen, μ, st, ds, w, rd, h⟩ => ?_
  have tk := takes_of (X := cxOf (L2.CX C.P C.w) C.P C.w C.K mg base N qual scope f cdv A outer s H E) rfl rfl rfl rfl
  have o : SOk C M ⟨N, scope, fun _ => true, lam⟩ (callN Tb n) (3 * n) (leaveX C E) (cxOf (L2.CX C.P C.w) C.P C.w C.K mg base N qual scope f cdv A outer s H E) := by
    refine ⟨⟨rfl, rfl, rfl, rfl, rfl, S.nd, rfl, fun _ _ => rfl, hr.mono (by omega), mo.blt, mo.fns, rec, mo.gcs, fun σ => ?_, fun z => ?_, bo.cts⟩, passes_of rfl, S.kind, tk.imp fun c d σ H ⟨c0, fs, st, μ, A, hA, ec, hd, _, hw⟩ => by subst ec; exact hw A hA d hd, mo.exs⟩
    · exact fun pins H1 s1 e s' I c => tk e s' (XE.of_call I (fun cls d H' ⟨c, fs, st, μ, A, hA, ec, hd, _, hw⟩ => by subst ec; exact hw A hA d hd) c)
    · obtain ⟨c, P, q1, q2, q3, q4⟩ := hlam z
      exact ⟨hr, c, P, q1, bo.tab _ q2, q3, q4⟩
  refine ⟨_, sSs (k0 := st.length) o fn.body body hck, μ, st, enter fn ds, w, start_ren D.ns rd, by rw [w.len]; exact Nat.le_refl _, ?_⟩
  have hl : ds.length = fn.np := by rw [Paired.length rd, hlen, D.np]
  rw [callN, e1] at h
  dsimp only at h
  rw [if_pos hl] at h
  cases er : evSs (callN Tb n) st.length fn.body (enter fn ds) st with
  | ok fl st' =>
    rw [er] at h
    cases fl with
    | next r' =>
      intro μ' H' σ' n' w' hr'
      obtain ⟨_, b2, b3⟩ := back w n' w'
      exact h _ H' b2 b3 .non (show RP C H' .non .non from RP.non_iff.mpr rfl)
    | ret d =>
      intro μ' H' v n' w' rv
      obtain ⟨b1, b2, b3⟩ := back w n' w'
      cases d with
      | p x => exact h _ H' b2 b3 v rv
      | obj m =>
        obtain ⟨a, ha, rfl⟩ := rv
        by_cases hm : m < st.length
        · rw [show leave st.length (.ok (.ret (.obj m)) st') = .ok (.obj m) (st'.take st.length) from if_pos hm] at h
          refine h _ H' b2 b3 (.ref a) ⟨a, ?_, rfl⟩
          rw [List.getElem?_take_of_lt hm]; exact ha
        · cases ho : st'[m]? with
          | none =>
            rw [show leave st.length (.ok (.ret (.obj m)) st') = .bad from (if_neg hm).trans (by rw [ho])] at h
            exact h.elim
          | some ob =>
            rw [show leave st.length (.ok (.ret (.obj m)) st') = .ok (.obj st.length) (st'.take st.length ++ [ob]) from (if_neg hm).trans (by rw [ho])] at h
            obtain ⟨c1, c2⟩ := back_obj w n' w' hm ha ho
            refine h _ H' c1 c2 (.ref a) ⟨a, ?_, rfl⟩
            have e : (μ'.take st.length).length = st.length := by rw [b1, w.len]
            rw [List.getElem?_append_right (by omega), e, Nat.sub_self]; rfl
  | exc c fs st' =>
    rw [er] at h
    intro μ' H' σ' n' w'
    obtain ⟨_, b2, b3⟩ := back w n' w'
    exact fun A hA d hd => h _ H' A b2 b3 hA d hd
  | bad => rw [er] at h; exact h.elim
/-- THE DEFS: every def of the module keeps the evaluator's promise -/
theorem defs_ok (mo : MOk C M mg Tb Ns cs) (bo : BOk C M mg base cs) : ∀ (n g : Nat) (f : Addr), C.ga[g]? = some f → (∃ x, M.fns.lookup x = some g) → ∃ fd ps, PySem.W.keepIn C.K (.ref f) = true ∧ Binds C.K fd ps [] ∧ FnOk C.P C.w C.K mg base (L2.CX C.P C.w) (3 * n) f fd ps (spG C (callN Tb n) ps.length g) ∧ ∀ ds st, ds.length ≠ ps.length → callN Tb n g ds st = .bad
  | 0, g, f, hg, hx => by
    obtain ⟨fn, N, e1, e2, h⟩ := mo.defs g f hg hx
    obtain ⟨fd, ps, D⟩ := defB_ok h
    refine ⟨fd, ps, D.kp, D.bind, ⟨fun vs H Q E h => h.1, fun A outer s H args us vs Q E hr e0 hb rv h => ?_⟩, fun ds st hl => by rw [callN]⟩
    obtain ⟨_, μ, st, ds, _, _, h⟩ := h
    rw [callN] at h
    exact h.elim
  | n + 1, g, f, hg, hx => by
    obtain ⟨fn, N, e1, e2, h⟩ := mo.defs g f hg hx
    obtain ⟨fd, ps, D⟩ := defB_ok h
    refine ⟨fd, ps, D.kp, D.bind, def_step mo bo e1 D (defs_ok mo bo n), fun ds st hl => ?_⟩
    rw [callN, e1]
    dsimp only
    rw [if_neg (by rw [← D.np]; exact hl)]
end
end Ev

set_option Elab.async false
set_option linter.all false
set_option maxRecDepth 100000
set_option maxHeartbeats 4000000
namespace Ev
open PySem PySem.Spec PyProof.Rows L2

/-! ### a def that calls what it gets, and tells of its error by a word for each class -/
theorem pe_at {X : Cx} {e : Expr} {t : TE} (h : PE X e t) : PE X e (fun σ H Q => ∃ Q' : VK, (∀ v H', Q' v H' → Q v H') ∧ t σ H Q') :=
  ⟨fun pins s σ H Q I ⟨Q', m, z⟩ => thn (h.run pins s σ H Q' I z) fun v s1 ⟨x, H1, I1, r1, q1⟩ => ⟨x, H1, I1, r1, m _ _ q1⟩⟩
def conPV : Expr → Option (P × V)
  | .Constant .none _ _ => some (.non, .non)
  | .Constant (.bool b) _ _ => some (.bl b, .bl b)
  | .Constant (.str x) _ _ => some (.str x, .str x)
  | _ => none
theorem conPV_ok {X : Cx} {e : Expr} {p : P} {v : V} (h : conPV e = some (p, v)) : PE X e (tC v) := by
  unfold conPV at h
  split at h
  · cases h; exact pe_non
  · cases h; exact pe_bl
  · cases h; exact pe_str
  · cases h
theorem conPV_rp {e : Expr} {p : P} {v : V} (h : conPV e = some (p, v)) (C : Gc) (H : Hp) : RP C H p v := by
  unfold conPV at h
  split at h
  · cases h; exact RP.non_iff.mpr rfl
  · cases h; exact RP.bl_iff.mpr rfl
  · cases h; exact RP.str_iff.mpr rfl
  · cases h
theorem lookup_mem {α β : Type} [BEq α] [LawfulBEq α] {x : α} {y : β} : ∀ {l : List (α × β)}, l.lookup x = some y → (x, y) ∈ l
  | [], h => by cases h
  | (a, b) :: r, h => by
    rw [List.lookup_cons] at h
    split at h
    · rename_i hb
      cases h
      rw [eq_of_beq hb]
      exact List.mem_cons_self
    · exact List.mem_cons_of_mem _ (lookup_mem h)
/-- except x: return constant -/
def asHand : ExceptHandler → Option (Str × P × V)
  | .ExceptHandler (some (.Name x _)) none [.Return (some e) _] _ => (match conPV e with | some (p, v) => some (x, p, v) | none => none)
  | _ => none
def asHands : List ExceptHandler → Option (List (Str × P × V))
  | [] => some []
  | h :: r => match asHand h with
    | some y => (match asHands r with | some l => some (y :: l) | none => none)
    | none => none
/-- the word that the clauses have for a class -/
def hitB (K : PySem.W.Frag) (cls : Value) (w : P) : List (Str × P × V) → Bool
  | [] => false
  | (x, p, _) :: r => match PySem.W.exmOne K cls (.ref (He.ga K x)) with
    | some true => decide (p = w)
    | some false => hitB K cls w r
    | none => false
def catBody (a : Str) : List Stmt → Option (List (Str × P × V) × P × V)
  | [.Try [.Expr (.Call (.Name b _) [] [] _) _] (h0 :: hds) [] [] _, .Return (some e) _] =>
    if a = b then (match asHands (h0 :: hds), conPV e with | some l, some (p, v) => some (l, p, v) | _, _ => none) else none
  | _ => none
def hsOf (K : PySem.W.Frag) (l : List (Str × P × V)) : List (Value × (Addr → Value → Option Addr → TS)) := l.map fun y => (.ref (He.ga K y.1), fun _ _ _ D _ H => D.rt y.2.2 H)
def wantB (K : PySem.W.Frag) (ga : List Addr) (l : List (Str × P × V)) (tab : List (Nat × Tell)) : Bool := tab.all fun q => match q.2, ga[q.1]? with
  | .txt w, some A => hitB K (.ref A) w l
  | _, _ => false
section
variable {C : Gc} {mg : Str → Option Value} {base : Heap}
theorem hands_ok {X : Cx} {sc : Scope} (hsc : X.env.scope = sc) : ∀ {hds : List ExceptHandler} {l : List (Str × P × V)}, asHands hds = some l → (∀ y ∈ l, glB sc y.1 = true ∧ (y.1 == ("__debug__" : Str)) = false ∧ X.mg y.1 = some (.ref (He.ga X.K y.1))) → HdsOk X hds (hsOf X.K l)
  | [], l, h, _ => by cases h; exact .nil
  | hd :: r, l, h, hl => by
    rw [asHands] at h
    split at h
    · rename_i y hy
      split at h
      · rename_i l' hr
        cases h
        unfold asHand at hy
        split at hy
        · rename_i x p1 e p2 p3
          split at hy
          · rename_i p v hc
            cases hy
            obtain ⟨h1, h2, h3⟩ := hl _ List.mem_cons_self
            have hg : Gl X x := glB_of (F := ⟨[], sc, fun _ => false, false⟩) hsc h1
            exact .cons ⟨hg, h2, .inl h3⟩ (fun a oe cls d pn _ _ => pss_one (ps_ret (conPV_ok hc))) (hands_ok hsc hr fun y hy => hl y (List.mem_cons_of_mem _ hy))
          · cases hy
        · cases hy
      · cases h
    · cases h
theorem hit_ok {K : PySem.W.Frag} {cls : Value} {w : P} {Wout : WX} {D : Ends} {d : Option Addr} {σ : L2.St} {H : Hp} (hw : ∀ v, RP C H w v → D.rt v H) : ∀ {l : List (Str × P × V)}, hitB K cls w l = true → (∀ y ∈ l, RP C H y.2.1 y.2.2) → wMany K Wout D (hsOf K l) cls d σ H
  | [], h, _ => by cases h
  | (x, p, v) :: r, h, hv => by
    unfold hitB at h
    split at h
    · rename_i e
      obtain rfl := of_decide_eq_true h
      exact ⟨true, e, fun _ a _ => hw v (hv _ List.mem_cons_self), fun z => (by cases z)⟩
    · rename_i e
      exact ⟨false, e, fun z => (by cases z), fun _ => hit_ok hw h fun y hy => hv y (List.mem_cons_of_mem _ hy)⟩
    · cases h
theorem asHands_rp {H : Hp} : ∀ {hds : List ExceptHandler} {l : List (Str × P × V)}, asHands hds = some l → ∀ y ∈ l, RP C H y.2.1 y.2.2
  | [], l, h, y, hy => by cases h; cases hy
  | hd :: r, l, h, y, hy => by
    rw [asHands] at h
    split at h
    · rename_i y0 h0
      split at h
      · rename_i l' hr
        cases h
        rcases List.mem_cons.mp hy with e | hy
        · subst e
          unfold asHand at h0
          split at h0
          · split at h0
            · rename_i hc
              cases h0
              exact conPV_rp hc _ _
            · cases h0
          · cases h0
        · exact asHands_rp hr y hy
      · cases h
    · cases h
theorem catch_gives {x a : Str} {g : Addr} {sg : Scope} {cdg : Value} {bg : List Stmt} {l : List (Str × P × V)} {okp : P} {okv : V} {tab : List (Nat × Tell)} {q : Str} {X : Cx} (hb : catBody a bg = some (l, okp, okv))
    (hl : ∀ y ∈ l, glB sg y.1 = true ∧ (y.1 == ("__debug__" : Str)) = false ∧ X.mg y.1 = some (.ref (He.ga X.K y.1))) (hK : X.K = C.K) (hw : wantB X.K C.ga l tab = true) :
    LamX.GivesTo X [a] x sg g cdg bg a q (TTw C okp tab) := by
  unfold catBody at hb
  split at hb
  · rename_i b p1 p2 p3 h0 hds p4 e p5
    split at hb
    · rename_i hab
      subst hab
      split at hb
      · rename_i l' p' v' h1 h2
        cases hb
        intro f c' s H Q tl act hc h
        let X' : Cx := (cxOf C8.CX0 X.prog X.w X.K X.mg X.base [a] x sg g cdg X.A X.stack s H C8.E0).nox
        have tr := ps_try_many (X := X') (body := [.Expr (.Call (.Name a p1) [] [] p2) p3]) (h₀ := h0) (hds := hds) (pos := p4) (Wout := fun _ _ _ _ => False)
          (tb := fun W D σ H => ∃ (Ech : XK) (Qch : VK), (∀ cls d σ' H', Ech cls d H' → W cls d σ' H') ∧ (∀ v H', Qch v H' → D.nx σ H') ∧ σ[0]? = some (some (.ref f)) ∧ H c' = some (LamX.CodeO c' q) ∧ tl Ech H Qch)
          rfl rfl LamX.takes0 (fun W pn xe tk _ => ⟨fun pins s' σ H' D I ⟨Ech, Qch, hW, hQ, z1, z2, z3⟩ =>
            (pss_one (ps_expr (pe_at (act W pn xe Ech p1 p2 tk hW)) rfl)).run pins s' σ H' D I ⟨Qch, hQ, z1, z2, z3⟩⟩) (hands_ok (X := X') rfl h1 hl)
        refine ⟨_, pss_cons tr (pss_one (ps_ret (conPV_ok h2))), ?_⟩
        refine ⟨_, _, fun cls d σ' H' hE => ?_, fun v H' hQ => ?_, rfl, hc, h⟩
        · obtain ⟨c, A, fs, w, hA, ec, hxd, hwd, hq⟩ := hE
          subst ec
          clear hxd
          unfold wordOf at hwd
          have go : ∀ {t : Tell}, tab.lookup c = some t → ∃ w', t = .txt w' ∧ hitB X.K (.ref A) w' l = true := fun {t} e => by
            have z := List.all_eq_true.mp hw _ (lookup_mem e)
            dsimp only at z
            rw [hA] at z
            cases t with
            | txt w' => exact ⟨w', rfl, z⟩
            | pre y => cases z
          split at hwd
          · rename_i e
            cases hwd
            obtain ⟨w', e1, e2⟩ := go e
            cases e1
            exact hit_ok (C := C) (fun v rv => hq H' v (Same.refl _) rv) e2 (asHands_rp h1)
          · rename_i e
            obtain ⟨w', e1, _⟩ := go e
            cases e1
          · cases hwd
        · exact hQ H' okv (Same.refl _) (conPV_rp h2 _ _)
      · cases hb
    · cases hb
  · cases hb
end
end Ev

set_option Elab.async false
set_option linter.all false
set_option maxRecDepth 100000
set_option maxHeartbeats 4000000
namespace Ev
open PySem PySem.Spec PyProof.Rows L2

/-- an empty table -/
abbrev tab0 : Obj := { cls := .none, data := .fields #[] }
/-- the end of a law: the script a frozen list, empty tables of the defs with lambdas, nothing else tracked -/
theorem law_end {P : Program} {w : World} {K : PySem.W.Frag} {mg mb : Str → Option Value} {CX : CXT} {k : Nat} {fa a : Addr} {cs : List (Addr × Addr)} {fd : FuncData} {x : Str} {sp : Sp} {s : Shared} {vs : List Value} {ns : List Int}
    (KX : K.In s.heap) (hns : s.heap.Ns mainGlobals mg) (hb : s.heap.Ns builtinsNs mb) (hbb : ∀ x : Str, x ≠ "__name__" → mb x = bootBuiltins x) (hlim : s.heap.NoLimit) (hg : s.gens = #[])
    (hT : ∀ p ∈ cs, PySem.W.CodeHd s.heap p.1 p.2 ∧ s.heap.get? p.2 = some tab0 ∧ K.lookup p.2 = none)
    (hbm : ∃ (bm : Addr) (ob : Obj), mg "__builtins__" = some (.ref bm) ∧ bm ≠ builtinsNs ∧ s.heap.get? bm = some ob ∧ ob.cls = .type "module" ∧ ob.dict = some builtinsNs ∧ ob.data = .plain)
    (ha : s.heap.get? a = some { cls := .type "list", data := .seq vs.toArray }) (ka : K.lookup a = none) (hi : IntsAre vs ns) (hl : ns.length ≤ sizeLine) (hr : Room k callerA)
    (F : ∀ base : Heap, K.In base → base.Ns mainGlobals mg → (∀ p ∈ cs, LamX.TabB base mg p.1 p.2) → FnOk P w K mg base CX k fa fd [x] sp) (hbind : ∀ (s : Shared) (u : Value), BindsTo s fd ⟨[u], []⟩ [(x, u)])
    (hsp : ∀ H : Hp, (∀ p ∈ cs, H p.2 = some (.tbl #[])) → (∃ o, H a = some (.frz o (.lst (ns.map V.int)))) → sp [.ref a] H (fun v _ => v = .bl true) fun _ _ _ => False)
    (hCX : ∀ H e s', CX [] H s (fun _ _ _ => False) e s' → False) :
    codeAny (model P w) callerA (.call (.ref fa) ⟨[.ref a], []⟩) (fun r s' => r = .ok (.ret (.bool true)) ∧ OldK s.heap s'.heap ∧ s'.os = s.os ∧ AllBare s'.gens) s := by
  have rv := vals_ints hi
  obtain ⟨ts, hts⟩ : ∃ ts : List Addr, ts = cs.map (·.2) := ⟨_, rfl⟩
  have inT : ∀ p ∈ cs, p.2 ∈ ts := fun p hp => by rw [hts]; exact List.mem_map.mpr ⟨p, hp, rfl⟩
  have ofT : ∀ b ∈ ts, ∃ p ∈ cs, p.2 = b := fun b m => by rw [hts] at m; exact List.mem_map.mp m
  have objT : ∀ b ∈ ts, s.heap.get? b = some tab0 := fun b m => by obtain ⟨p, hp, rfl⟩ := ofT b m; exact (hT p hp).2.1
  have aT : a ∉ ts := fun m => by
    have q := ha.symm.trans (objT a m)
    have q' : Data.seq vs.toArray _ = Data.fields #[] := congrArg Obj.data (Option.some.inj q)
    cases q'
  obtain ⟨H, hH⟩ : ∃ H : Hp, ∀ b, H b = if b = a then some (.frz { cls := .type "list", data := .seq vs.toArray } (.lst (ns.map V.int))) else if b ∈ ts then some (.tbl #[]) else none := ⟨_, fun _ => rfl⟩
  have Ha : H a = some (.frz { cls := .type "list", data := .seq vs.toArray } (.lst (ns.map V.int))) := by rw [hH, if_pos rfl]
  have neA : ∀ b ∈ ts, b ≠ a := fun b m e => aT (e ▸ m)
  have Ht : ∀ b ∈ ts, H b = some (.tbl #[]) := fun b m => by rw [hH, if_neg (neA b m), if_pos m]
  have Hn : ∀ b, b ≠ a → b ∉ ts → H b = none := fun b n m => by rw [hH, if_neg n, if_neg m]
  have hok : HOk P w H s.heap := fun b u e => by
    by_cases q : b = a
    · subst q
      rw [Ha] at e
      cases e
      exact ⟨ha, by rw [List.length_map]; exact hl, vs, _, rv, ha⟩
    · by_cases m : b ∈ ts
      · rw [Ht b m] at e
        cases e
        exact objT b m
      · rw [Hn b q m] at e
        cases e
  have out : ∀ {b : Addr} {o : Obj}, s.heap.get? b = some o → o.data ≠ .seq vs.toArray → o.data ≠ .fields #[] → H b = none := fun {b o} e h1 h2 => by
    refine Hn b (fun q => ?_) fun m => ?_
    · rw [q, ha] at e
      cases e
      exact h1 rfl
    · rw [objT b m] at e
      cases e
      exact h2 rfl
  have keepNs : ∀ {b : Addr} {m : Str → Option Value}, s.heap.Ns b m → (hidT s.heap H).Ns b m := fun {b m} ⟨o, es, ep, e, d, r⟩ =>
    ⟨o, es, ep, hidT_get e (out e (by rw [d]; exact fun z => by cases z) (by rw [d]; exact fun z => by cases z)), d, r⟩
  have kb : K.In (hidT s.heap H) := fun b o e => hidT_get (KX b o e) (Hn b (fun q => by rw [q, ka] at e; cases e) fun m => by
    obtain ⟨p, hp, q⟩ := ofT b m
    rw [← q, (hT p hp).2.2] at e
    cases e)
  have hM : L2.Mod K mg (hidT s.heap H) := ⟨kb, keepNs hns, ⟨mb, keepNs hb, hbb⟩, let ⟨mc, h1, h2⟩ := hlim; ⟨mc, keepNs h1, h2⟩⟩
  have gT : mainGlobals ∉ ts := fun m => by
    obtain ⟨o, es, ep, e, hd, _⟩ := hns
    rw [objT _ m] at e
    cases e
    cases hd
  have TB : ∀ p ∈ cs, LamX.TabB (hidT s.heap H) mg p.1 p.2 := fun p hp => by
    refine ⟨?_, ?_, fun z => gT (z ▸ inT p hp)⟩
    · obtain ⟨o, us, file, tf, flags, tg, inF, text, tt, e1, r1, r2, r3, r⟩ := (hT p hp).1
      refine ⟨o, us, file, tf, flags, tg, inF, text, tt, hidT_get e1 (out e1 (by rw [r2]; exact fun z => by cases z) ?_), r1, r2, r3, r⟩
      rw [r2]
      intro z
      cases z
      simp at r3
    · obtain ⟨bm, ob, b1, b2, b3, b4, b5, b6⟩ := hbm
      refine ⟨bm, ob, b1, b2, fun q => ?_, fun q => ?_, hidT_get b3 (out b3 (by rw [b6]; exact fun z => by cases z) (by rw [b6]; exact fun z => by cases z)), b4, b5, b6⟩
      · obtain ⟨o, es, ep, e, hd, _⟩ := hns
        rw [q, e] at b3
        cases b3
        rw [hd] at b6
        cases b6
      · rw [q, (hT p hp).2.1] at b3
        cases b3
        cases b6
  have e0 : Env0 P w K mg (hidT s.heap H) callerA [] s H := ⟨rfl, hM, fun b o e => of_hidT e, Nat.le_of_eq (hidT_size _ _), trivial, fun b hb => absurd (show b ∈ ([] : List Addr) from hb) (by simp), hok, .of_eq hg⟩
  refine codeAny_mono ((F _ kb (keepNs hns) TB).run callerA [] s H ⟨[.ref a], []⟩ [.ref a] [.ref a] _ _ hr e0 (hbind s (.ref a)) (.cons rfl .nil) (hsp H (fun p hp => Ht _ (inT p hp)) ⟨_, Ha⟩)) fun r s' h => ?_
  cases r with
  | error e => exact (hCX H e s' h).elim
  | ok fl =>
    cases fl with
    | ret u =>
      obtain ⟨v, H', os, bare, un, hok', r', q⟩ := h
      obtain rfl : v = .bl true := q
      obtain rfl : u = Value.bool true := r'
      have old : ∀ b o, b ∉ ts → s.heap.get? b = some o → s'.heap.get? b = some o := fun b o m e => by
        by_cases q : b = a
        · subst q
          rw [ha] at e
          cases e
          exact (hok' b _ (un.frzs b _ _ Ha)).1
        · exact un.keep b o e (Hn b q m) (by intro z; exact absurd (show b ∈ ([] : List Addr) from z) (by simp)) (by simp)
      have new : ∀ b ∈ ts, ∃ more : Array Value, s'.heap.get? b = some { cls := .none, data := .fields more } := fun b m => by
        obtain ⟨more, z⟩ := un.tbls b #[] (Ht b m)
        exact ⟨_, hok' b _ z⟩
      refine ⟨rfl, ⟨fun b o e => ?_, fun b o e => ?_⟩, os, bare⟩
      · by_cases m : b ∈ ts
        · obtain ⟨more, hm⟩ := new b m
          obtain ⟨p, hp, rfl⟩ := ofT b m
          rw [(hT p hp).2.1] at e
          cases e
          exact .inr (.inl ⟨((hT p hp).1.tab (hT p hp).2.1).isCodeTable, rfl, #[], more, rfl, by rw [Array.empty_append]; exact hm⟩)
        · exact .inl (old b o m e)
      · by_cases m : b ∈ ts
        · obtain ⟨more, hm⟩ := new b m
          exact ⟨_, hm⟩
        · exact ⟨o, old b o m e⟩
    | next => exact False.elim h
    | brk => exact False.elim h
    | cont => exact False.elim h
end Ev

set_option Elab.async false
set_option linter.all false
set_option maxRecDepth 100000
set_option maxHeartbeats 4000000
namespace Ev
open PySem PySem.Spec PyProof.Rows L2

/-! ### the head: one look at what the top has left -/
/-- a law's own tables: the defs' names by place, the names of errors behind them, the constants, the terms, the slots' names -/
structure Tab where
  dn : List Str
  xn : List Str
  gcs : List (Str × P)
  tb : List Fn
  ns : List (List Str)
  /-- names of errors that are told of, but never raised by a plain raise -/
  xm : List Str := []
  /-- the defs that hold lambdas -/
  lams : List Str := []
  /-- the defs that call what they get -/
  cts : List (Str × P × List (Nat × Tell)) := []
def placed : Nat → List Str → List (Str × Nat)
  | _, [] => []
  | i, x :: r => (x, i) :: placed (i + 1) r
def Tab.md (T : Tab) : Md := ⟨placed 0 T.dn, T.gcs, placed T.dn.length T.xn, T.cts⟩
def Tab.ga (T : Tab) (K : PySem.W.Frag) : List Addr := (T.dn ++ (T.xn ++ T.xm)).map (He.ga K)
def Tab.cs (T : Tab) (K : PySem.W.Frag) : List (Addr × Addr) := T.lams.filterMap (PySem.W.tabIn K)
def Tab.tbs (T : Tab) (K : PySem.W.Frag) : List (Addr × Str) := T.lams.filterMap fun x => (PySem.W.tabIn K x).map fun p => (p.2, x ++ ".<locals>." ++ "<lambda>")
/-- a def that calls what it gets -/
def catB (K : PySem.W.Frag) (ga : List Addr) (q : Str × P × List (Nat × Tell)) : Bool := (He.Fa.glo q.1).ok K && match K.lookup (He.ga K q.1) with
  | some ob => (match ob.data with
    | .func fd => (match fd.params, fd.body, fd.defaults, fd.closure with
      | ⟨[], [ar], none, [], [], none, []⟩, .stmts bg, .none, [] =>
        decide (fd.name = q.1) && (decide (fd.qualname = q.1) && (decide (fd.globals = mainGlobals) && (decide (fd.builtins = builtinsNs) && (PySem.W.codeIn K fd.code q.1 && (PySem.W.keepIn K (.ref (He.ga K q.1)) && (C8.scC [ar.arg] [ar.arg] fd.scope && (visB fd.scope ar.arg && (nmB ar.arg &&
          (match catBody ar.arg bg with
            | some (l, p, _) => decide (p = q.2.1) && (wantB K ga l q.2.2 && l.all fun y => glB fd.scope y.1 && (nmB y.1 && (He.Fa.glo y.1).ok K))
            | none => false)))))))))
      | _, _, _, _ => false)
    | _ => false)
  | none => false
theorem catB_ok {K : PySem.W.Frag} {h base : Heap} {mg : Str → Option Value} {C : Gc} {q : Str × P × List (Nat × Tell)} (X : K.In h) (G : h.Ns mainGlobals mg) (hK : C.K = K) (c : catB K C.ga q = true) : CatchOk C mg base q.1 q.2.1 q.2.2 := by
  obtain ⟨c0, c⟩ := and3 c
  split at c
  · rename_i ob lk
    split at c
    · rename_i fd ed
      split at c
      · rename_i ar bg hp hb hd hc
        obtain ⟨h1, c⟩ := and3 c
        obtain ⟨h2, c⟩ := and3 c
        obtain ⟨h3, c⟩ := and3 c
        obtain ⟨h4, c⟩ := and3 c
        obtain ⟨h5, c⟩ := and3 c
        obtain ⟨h6, c⟩ := and3 c
        obtain ⟨h7, c⟩ := and3 c
        obtain ⟨h8, c⟩ := and3 c
        obtain ⟨h9, c⟩ := and3 c
        split at c
        · rename_i l p v hcb
          obtain ⟨k1, c⟩ := and3 c
          obtain ⟨k2, k3⟩ := and3 c
          obtain rfl := of_decide_eq_true k1
          have bd : L2.Binds C.K fd [ar.arg] [] := .all fun us hl => bind_plain hp hd (by simp) us hl
          obtain ⟨oc, od, dt, osl⟩ := ob
          obtain ⟨name, qual, params, fbody, scope, globals, closure, defaults, kV, doc, pm, an, cdv, ct, bts⟩ := fd
          dsimp only at ed hb hc hd h1 h2 h3 h4 h5 h7 h8 k3
          have g1 := of_decide_eq_true h1
          have g2 := of_decide_eq_true h2
          obtain rfl := of_decide_eq_true h3
          obtain rfl := of_decide_eq_true h4
          clear h1 h2
          subst ed hb hc g1 g2
          obtain ⟨n1, n2, _⟩ := nmB_of h9
          refine ⟨ar.arg, He.ga K q.1, params, bg, scope, defaults, kV, doc, pm, cdv, ct, oc, an, od, osl, [ar.arg], He.glo_ok X G c0, by rw [hK]; exact h6, by rw [hK]; exact lk, by rw [hK]; exact h5, bd, C8.fnScope_by h7, rfl, visB_of h8, n1, n2, fun Y qq e1 e2 e3 e4 e5 => ?_⟩
          refine catch_gives hcb (fun y hy => ?_) e3 (by rw [e3, hK]; exact k2)
          have z := List.all_eq_true.mp k3 y hy
          obtain ⟨z1, z⟩ := and3 z
          obtain ⟨z2, z3⟩ := and3 z
          exact ⟨z1, (nmB_of z2).1, by rw [e4, e3, hK]; exact He.glo_ok X G z3⟩
        · cases c
      · cases c
    · cases c
  · cases c
def gcB (K : PySem.W.Frag) : Str × P → Bool
  | (x, .int i) => (He.Fa.int x i).ok K
  | (x, .str z) => (He.Fa.str x z).ok K
  | _ => false
def defsB (K : PySem.W.Frag) (M : Md) (cs : List (Addr × Addr)) (tbs : List (Addr × Str)) (lams : List Str) : List Str → List Fn → List (List Str) → Bool
  | [], [], [] => true
  | x :: xs, f :: fs, N :: ns => defB K M cs tbs (He.ga K x) f N (lams.contains x) && defsB K M cs tbs lams xs fs ns
  | _, _, _ => false
/-- no list stands in the part -/
def noList (K : PySem.W.Frag) : Bool := K.all fun p => match p.2.cls with
  | .type s => !decide (s = "list")
  | _ => true
def tabB (T : Tab) (K : PySem.W.Frag) : Bool :=
  noList K && (bltNames.all (fun x => (He.Fa.free x).ok K) && ((T.dn ++ (T.xn ++ T.xm)).all (fun x => (He.Fa.glo x).ok K) && (T.gcs.all (gcB K) && (T.xn.all (fun x => (He.Fa.exc x).ok K) && (T.cts.all (catB K (T.ga K)) && (T.lams.all (fun x => match PySem.W.tabIn K x with
    | some p => (K.lookup p.2).isNone
    | none => false) && defsB K T.md (T.cs K) (T.tbs K) T.lams T.dn T.tb T.ns))))))
/-- what is looked at: no lists, no tables -/
def inK (p : Addr × Obj) : Bool := match p.2.cls, p.2.data with
  | .type s, _ => !decide (s = "list")
  | .none, .fields vs => decide (0 < vs.size)
  | _, _ => true
def lookB (T : Tab) (g : Addr → Option Obj) : Bool := tabB T ((He.frG g (He.asD g 4)).filter inK)
theorem look_mem {a : Addr} {o : Obj} : ∀ {K : PySem.W.Frag}, K.lookup a = some o → (a, o) ∈ K
  | [], h => by cases h
  | (b, u) :: r, h => by
    rw [List.lookup_cons] at h
    split at h
    · rename_i hb
      cases h
      rw [eq_of_beq hb]
      exact List.mem_cons_self
    · exact List.mem_cons_of_mem _ (look_mem h)
theorem filter_in {h : Heap} {as : List Addr} (f : Addr × Obj → Bool) : PySem.W.Frag.In ((He.frG h.get? as).filter f) h := fun a o e => by
  have m := look_mem e
  have m2 := (List.mem_filter.mp m).1
  unfold He.frG at m2
  obtain ⟨b, hb, e2⟩ := List.mem_filterMap.mp m2
  cases q : h.get? b with
  | none => rw [q] at e2; cases e2
  | some ob =>
    rw [q] at e2
    cases e2
    exact q
def look (T : Tab) : PySem.W.Hook where
  α := Bool
  obs := fun s => lookB T s.heap.get?
  val := fun _ => true
  says := fun _ h => ∃ K : PySem.W.Frag, K.In h ∧ tabB T K = true
  of := fun _ _ e => ⟨_, filter_in _, e⟩
  keeps := fun _ _ _ ⟨K, hK, c⟩ k => ⟨K, PySem.W.Frag.In.keeps hK k, c⟩
theorem look_eq {T : Tab} (s : PySem.W.SharedT) : lookB T (HandSHeadRun.getT s) = (look T).obs s.abs := by
  have e : HandSHeadRun.getT s = s.abs.heap.get? := funext (HandSHeadRun.getT_eq s)
  show lookB T _ = lookB T _
  rw [e]

theorem placed_lookup : ∀ {xs : List Str} {i : Nat} {x : Str} {g : Nat}, (placed i xs).lookup x = some g → i ≤ g ∧ xs[g - i]? = some x
  | [], i, x, g, h => by cases h
  | y :: xs, i, x, g, h => by
    rw [placed, List.lookup_cons] at h
    split at h
    · rename_i hb
      cases h
      rw [Nat.sub_self]
      exact ⟨Nat.le_refl _, by rw [eq_of_beq hb]; rfl⟩
    · obtain ⟨h1, h2⟩ := placed_lookup h
      refine ⟨by omega, ?_⟩
      have : g - i = (g - (i + 1)) + 1 := by omega
      rw [this]
      exact h2
theorem defsB_at {K : PySem.W.Frag} {M : Md} {cs : List (Addr × Addr)} {tbs : List (Addr × Str)} {lams : List Str} : ∀ {xs : List Str} {fs : List Fn} {ns : List (List Str)} {g : Nat} {x : Str}, defsB K M cs tbs lams xs fs ns = true → xs[g]? = some x → ∃ fn N, fs[g]? = some fn ∧ ns[g]? = some N ∧ defB K M cs tbs (He.ga K x) fn N (lams.contains x) = true
  | [], fs, ns, g, x, h, e => by simp at e
  | y :: xs, [], ns, g, x, h, e => absurd (show false = true from h) Bool.false_ne_true
  | y :: xs, f :: fs, [], g, x, h, e => absurd (show false = true from h) Bool.false_ne_true
  | y :: xs, f :: fs, N :: ns, g, x, h, e => by
    obtain ⟨h1, h2⟩ := and3 (show (defB K M cs tbs (He.ga K y) f N (lams.contains y) && defsB K M cs tbs lams xs fs ns) = true from h)
    cases g with
    | zero => cases e; exact ⟨f, N, rfl, rfl, h1⟩
    | succ g => exact defsB_at (g := g) h2 (by simpa using e)
theorem all_mem {α : Type} {l : List α} {p : α → Bool} (h : l.all p = true) {x : α} (m : x ∈ l) : p x = true := List.all_eq_true.mp h x m
theorem filterMap_mem {α β : Type} {f : α → Option β} {l : List α} {y : β} (h : y ∈ l.filterMap f) : ∃ x ∈ l, f x = some y := List.mem_filterMap.mp h
section
variable {T : Tab} {K : PySem.W.Frag} {h : Heap} {mg : Str → Option Value}
theorem mok_of (X : K.In h) (G : h.Ns mainGlobals mg) (c : tabB T K = true) (P : Program) (w : World) : MOk ⟨P, w, K, T.ga K, T.tbs K⟩ T.md mg T.tb (T.ns.zip (T.dn.map T.lams.contains)) (T.cs K) ∧ ∀ base : Heap, (∀ p ∈ T.cs K, LamX.TabB base mg p.1 p.2) → BOk ⟨P, w, K, T.ga K, T.tbs K⟩ T.md mg base (T.cs K) := by
  obtain ⟨c0, c⟩ := and3 c
  obtain ⟨c1, c⟩ := and3 c
  obtain ⟨c2, c⟩ := and3 c
  obtain ⟨c3, c⟩ := and3 c
  obtain ⟨c5, c⟩ := and3 c
  obtain ⟨c6, c⟩ := and3 c
  obtain ⟨c7, c4⟩ := and3 c
  refine ⟨⟨fun x g e => ?_, fun x m => He.free_ok X G (all_mem c1 m), fun x g e => ?_, fun x p e => ?_, fun g f e ⟨x, hx⟩ => ?_⟩, fun base tb => ⟨tb, fun x okv tab m => ?_⟩⟩
  · obtain ⟨h1, h2⟩ := placed_lookup (show (placed T.dn.length T.xn).lookup x = some g from e)
    have m := List.mem_of_getElem? h2
    obtain ⟨q1, q2, q3, q4⟩ := He.exc_ok (all_mem c5 m)
    refine ⟨He.ga K x, ?_, He.glo_ok X G (all_mem c2 (List.mem_append_right _ (List.mem_append_left _ m))), ⟨q1, q2, q3, q4⟩⟩
    show ((T.dn ++ (T.xn ++ T.xm)).map (He.ga K))[g]? = _
    rw [List.getElem?_map, List.getElem?_append_right h1, List.getElem?_append_left (List.getElem?_eq_some_iff.mp h2).1, h2]; rfl
  · obtain ⟨_, h2⟩ := placed_lookup (show (placed 0 T.dn).lookup x = some g from e)
    rw [Nat.sub_zero] at h2
    refine ⟨He.ga K x, ?_, He.glo_ok X G (all_mem c2 (List.mem_append_left _ (List.mem_of_getElem? h2)))⟩
    show ((T.dn ++ (T.xn ++ T.xm)).map (He.ga K))[g]? = _
    rw [List.getElem?_map, List.getElem?_append_left (List.getElem?_eq_some_iff.mp h2).1, h2]; rfl
  · have m := all_mem c3 (PySem.mem_of_lookup e)
    cases p with
    | int i =>
      obtain ⟨t, q⟩ := He.int_ok X G m
      exact ⟨_, .int i, q, ⟨t, rfl⟩, fun H => RP.int_iff.mpr rfl⟩
    | str z =>
      obtain ⟨t, q⟩ := He.str_ok X G m
      exact ⟨_, .str z, q, ⟨t, rfl⟩, fun H => RP.str_iff.mpr rfl⟩
    | _ => exact absurd (show false = true from m) Bool.false_ne_true
  · obtain ⟨_, h2⟩ := placed_lookup (show (placed 0 T.dn).lookup x = some g from hx)
    rw [Nat.sub_zero] at h2
    obtain ⟨fn, N, e1, e2, e3⟩ := defsB_at c4 h2
    refine ⟨fn, (N, T.lams.contains x), e1, ?_, ?_⟩
    · rw [List.getElem?_zip_eq_some]
      exact ⟨e2, by rw [List.getElem?_map, h2]; rfl⟩
    · have e : ((T.dn ++ (T.xn ++ T.xm)).map (He.ga K))[g]? = some f := e
      rw [List.getElem?_map, List.getElem?_append_left (List.getElem?_eq_some_iff.mp h2).1, h2] at e
      cases e
      exact e3
  · exact catB_ok (q := (x, okv, tab)) X G rfl (all_mem c6 (show (x, okv, tab) ∈ T.cts from m))
end
theorem rps_ints {C : Gc} {H : Hp} : ∀ ns : List Int, RPs C H (ns.map P.int) (ns.map V.int)
  | [] => .nil
  | n :: ns => .cons (RP.int_iff.mpr rfl) (rps_ints ns)
/-- THE LAW'S END: what the evaluator answers is the law's promise -/
theorem walk_by {l : PySem.W.OpenLaw} {q : Program} {loose : List Str} {XP : (Str → Option Value) → Heap → Prop} {d : DefRec} (T : Tab) (k g : Nat)
    (hm : l.most = some 63) (hdf : d.params.defaults = []) (hd : d.name = ("law" : Str)) (hlaw : (placed 0 T.dn).lookup ("law" : Str) = some g) (hnp : ∃ fn, T.tb[g]? = some fn ∧ fn.np = 1) (hk : Room (3 * (k + 1)) callerA)
    (hrec : (T.lams.all fun x => (recsOf q).any fun e => e.name == x) = true)
    (plain : ∀ ns : List Int, ns.length ≤ 63 → ∃ st, callN T.tb (k + 1) g [.p (.lst (ns.map P.int))] [] = .ok (.p (.bl true)) st) :
    PySem.W.WalkO q loose XP (look T).says l.row.toRowW d [] (fun f vs => PySem.call f vs) := by
  refine Att.attach_call hm hdf fun w s₀ s₁ mg mb fa ob pm cd doc a vs ns Gr Y ho hdt hcd hmg hobj hints hlen hgens => ?_
  obtain ⟨K, KX, c⟩ := Y
  obtain ⟨mo, bo⟩ := mok_of KX Gr.T.g c l.prog w
  have cg : (T.ga K)[g]? = some fa := by
    obtain ⟨f, e1, e2⟩ := mo.fns ("law" : Str) g hlaw
    rw [hd] at hmg
    rw [hmg] at e2
    cases e2
    exact e1
  obtain ⟨fn, hfn, hone⟩ := hnp
  have nl : noList K = true := (and3 c).1
  have c7 := (and3 (and3 (and3 (and3 (and3 (and3 (and3 c).2).2).2).2).2).2).1
  obtain ⟨fn', N, e1, _, e3⟩ := mo.defs g fa cg ⟨_, hlaw⟩
  rw [hfn] at e1
  cases e1
  obtain ⟨fd, ps, D⟩ := defB_ok e3
  obtain ⟨x, rfl⟩ : ∃ x, ps = [x] := List.length_eq_one_iff.mp (D.np.trans hone)
  have hz := sizeLine_eq
  have ka : K.lookup a = none := by
    cases hk : K.lookup a with
    | none => rfl
    | some o =>
      have e := KX _ _ hk
      rw [hobj] at e
      cases e
      have m := all_mem nl (look_mem hk)
      simp at m
  have tabs : ∀ p ∈ T.cs K, PySem.W.CodeHd s₁.heap p.1 p.2 ∧ s₁.heap.get? p.2 = some tab0 ∧ K.lookup p.2 = none := fun p hp => by
    obtain ⟨x, hx, e⟩ := filterMap_mem hp
    have r := all_mem hrec hx
    cases hf : (recsOf q).find? (fun e => e.name == x) with
    | none =>
      rw [List.find?_eq_none] at hf
      obtain ⟨y, hy, hy2⟩ := List.any_eq_true.mp r
      exact absurd hy2 (hf y hy)
    | some dx =>
      obtain ⟨t1, t2⟩ := PySem.W.tab_of (c := p.1) (P := p.2) Gr.T KX hf e
      have t3 := all_mem c7 hx
      rw [e] at t3
      exact ⟨t1, t2, by simpa using t3⟩
  refine law_end (K := K) (CX := L2.CX l.prog w) (k := 3 * (k + 1)) (cs := T.cs K) (fd := fd) (x := x) (sp := spG ⟨l.prog, w, K, T.ga K, T.tbs K⟩ (callN T.tb (k + 1)) 1 g) KX Gr.T.g Gr.T.b Gr.T.builtins Gr.T.nolimit hgens tabs Gr.T.bmain hobj ka hints (Nat.le_trans hlen (by omega)) hk (fun base _ _ tb => ?_) (fun s u => .of_eq (D.bindA [u] rfl)) (fun H hT ⟨o, hS⟩ => ?_) fun H e s' hx => ?_
  · exact def_step (base := base) mo (bo base tb) hfn D (defs_ok mo (bo base tb) k)
  · refine ⟨rfl, [], [], [.p (.lst (ns.map P.int))], ⟨rfl, .nil, fun p hp => ?_, fun n a o h => by cases h⟩, .cons (show RP _ H (.lst (ns.map P.int)) (.ref a) from RP.lst_iff.mpr ⟨a, _, rfl, ⟨o, hS⟩, rps_ints ns⟩) .nil, ?_⟩
    · obtain ⟨x, hx, e⟩ := filterMap_mem hp
      obtain ⟨p', e1, e2⟩ := Option.map_eq_some_iff.mp e
      subst e2
      refine ⟨#[], hT p' (List.mem_filterMap.mpr ⟨x, hx, e1⟩), True.intro, by simp, fun pos cv hc => ?_⟩
      have z : codeAmong pos [] = some cv := hc
      simp [codeAmong] at z
    · obtain ⟨st, e⟩ := plain ns hlen
      rw [e]
      exact fun μ' H' _ _ v rv => RP.bl_iff.mp (show RP ⟨l.prog, w, K, T.ga K, T.tbs K⟩ H' (.bl true) v from rv)
  · obtain ⟨_, _, _, _, _, _, _, _, _, _, _, _, z⟩ := hx
    exact z
end Ev

set_option Elab.async false
set_option linter.all false
set_option maxRecDepth 100000
set_option maxHeartbeats 4000000
namespace Ev
open PySem
def t_is_whole : Fn := { np := 3, ns := 3, body := (.cons (.ret (.tv (.and (.tru (.un .isInt (.var 0))) (.and (.not (.tru (.un .isBool (.var 0)))) (.chain .le .le (.var 1) (.var 0) (.var 2)))))) .nil) }
def t_is_tuple_of : Fn := { np := 3, ns := 3, body := (.cons (.ret (.tv (.and (.tru (.un .isTup (.var 0))) (.chain .le .le (.var 1) (.un .len (.var 0)) (.var 2))))) .nil) }
def t_is_rising : Fn := { np := 1, ns := 3, body := (.cons (.ret (.un .all (.frz (.comp [1, 2] (.tup (.cons (.name 1) (.cons (.name 2) .nil))) (.zip (.var 0) (.slc (.var 0) (.some (.lit (.int 1))) .none)) .yes (.tv (.cmp .lt (.var 1) (.var 2))))))) .nil) }
def t_fits_meeting : Fn := { np := 1, ns := 4, body := (.cons (.ife (.not (.tru (.call 1 (.cons (.var 0) (.cons (.lit (.int 1)) (.cons (.gc (.int 6) (PySem.Str.ofString "MEMBERS")) .nil)))))) (.cons (.ret (.lit (.bl false))) .nil) .nil) (.cons (.asg 1 (.un .len (.var 0))) (.cons (.ife (.not (.tru (.un .all (.frz (.comp [2] (.name 2) (.ex (.var 0)) .yes (.tv (.and (.tru (.call 1 (.cons (.var 2) (.cons (.var 1) (.cons (.var 1) .nil))))) (.tru (.un .all (.frz (.comp [3] (.name 3) (.ex (.var 2)) .yes (.call 0 (.cons (.var 3) (.cons (.lit (.int 0)) (.cons (.gc (.int 99) (PySem.Str.ofString "WEIGHT")) .nil))))))))))))))) (.cons (.ret (.lit (.bl false))) .nil) .nil) (.cons (.ret (.un .all (.frz (.comp [2] (.name 2) (.ex (.var 0)) .yes (.tv (.cmp .gt (.un .sum (.var 2)) (.lit (.int 0)))))))) .nil)))) }
def t_fits_book : Fn := { np := 1, ns := 2, body := (.cons (.ife (.or (.not (.tru (.call 1 (.cons (.var 0) (.cons (.lit (.int 1)) (.cons (.gc (.int 6) (PySem.Str.ofString "MEETINGS")) .nil)))))) (.not (.tru (.un .all (.frz (.comp [1] (.name 1) (.ex (.var 0)) .yes (.call 3 (.cons (.var 1) .nil)))))))) (.cons (.ret (.lit (.bl false))) .nil) .nil) (.cons (.ret (.un .all (.frz (.comp [1] (.name 1) (.ex (.var 0)) .yes (.tv (.cmp .eq (.un .len (.var 1)) (.un .len (.bin .idx (.var 0) (.lit (.int 0)))))))))) .nil)) }
def t_need_book : Fn := { np := 1, ns := 1, body := (.cons (.ife (.not (.tru (.call 4 (.cons (.var 0) .nil)))) (.cons (.raise 40 .nil) .nil) .nil) .nil) }
def t_fits_lot : Fn := { np := 2, ns := 3, body := (.cons (.ife (.or (.not (.tru (.call 1 (.cons (.var 1) (.cons (.lit (.int 1)) (.cons (.var 0) .nil)))))) (.not (.tru (.un .all (.frz (.comp [2] (.name 2) (.ex (.var 1)) .yes (.call 0 (.cons (.var 2) (.cons (.lit (.int 0)) (.cons (.bin .sub (.var 0) (.lit (.int 1))) .nil)))))))))) (.cons (.ret (.lit (.bl false))) .nil) .nil) (.cons (.ret (.call 2 (.cons (.var 1) .nil))) .nil)) }
def t_divisor_of : Fn := { np := 2, ns := 2, body := (.cons (.whl (.slot 1) (.cmp .gt (.var 1) (.lit (.int 0))) (.cons (.par [0, 1] (.cons (.var 1) (.cons (.bin .mod (.var 0) (.var 1)) .nil))) .nil)) (.cons (.ret (.var 0)) .nil)) }
def t_lowest : Fn := { np := 2, ns := 3, body := (.cons (.asg 2 (.call 7 (.cons (.un .abs (.var 0)) (.cons (.var 1) .nil)))) (.cons (.ret (.tup (.cons (.bin .fdiv (.var 0) (.var 2)) (.cons (.bin .fdiv (.var 1) (.var 2)) .nil)))) .nil)) }
def t_fits_fraction : Fn := { np := 1, ns := 1, body := (.cons (.ife (.or (.not (.tru (.call 1 (.cons (.var 0) (.cons (.lit (.int 2)) (.cons (.lit (.int 2)) .nil)))))) (.or (.not (.tru (.call 0 (.cons (.bin .idx (.var 0) (.lit (.int 0))) (.cons (.un .neg (.gc (.int 1000000) (PySem.Str.ofString "BOUND"))) (.cons (.gc (.int 1000000) (PySem.Str.ofString "BOUND")) .nil)))))) (.not (.tru (.call 0 (.cons (.bin .idx (.var 0) (.lit (.int 1))) (.cons (.lit (.int 1)) (.cons (.gc (.int 1000000) (PySem.Str.ofString "BOUND")) .nil)))))))) (.cons (.ret (.lit (.bl false))) .nil) .nil) (.cons (.ret (.tv (.cmp .eq (.call 7 (.cons (.un .abs (.bin .idx (.var 0) (.lit (.int 0)))) (.cons (.bin .idx (.var 0) (.lit (.int 1))) .nil))) (.lit (.int 1))))) .nil)) }
def t_table_in : Fn := { np := 1, ns := 3, body := (.cons (.ret (.un .tuple (.frz (.comp [1] (.name 1) (.ex (.var 0)) .yes (.un .tuple (.frz (.comp [2] (.name 2) (.ex (.var 1)) .yes (.call 8 (.cons (.var 2) (.cons (.un .sum (.var 1)) .nil)))))))))) .nil) }
def t_fits_numbers : Fn := { np := 2, ns := 3, body := (.cons (.ret (.tv (.and (.tru (.call 1 (.cons (.var 1) (.cons (.var 0) (.cons (.var 0) .nil))))) (.tru (.un .all (.frz (.comp [2] (.name 2) (.ex (.var 1)) .yes (.call 9 (.cons (.var 2) .nil))))))))) .nil) }
def t_need_numbers : Fn := { np := 2, ns := 2, body := (.cons (.ife (.not (.tru (.call 14 (.cons (.var 0) (.cons (.var 1) .nil))))) (.cons (.raise 42 .nil) .nil) .nil) .nil) }
def t_need_row : Fn := { np := 1, ns := 2, body := (.cons (.ife (.or (.not (.tru (.call 1 (.cons (.var 0) (.cons (.lit (.int 1)) (.cons (.lit (.int 6)) .nil)))))) (.not (.tru (.un .all (.frz (.comp [1] (.name 1) (.ex (.var 0)) .yes (.call 9 (.cons (.var 1) .nil)))))))) (.cons (.raise 42 .nil) .nil) .nil) .nil) }
def t_fits_lumps : Fn := { np := 2, ns := 4, body := (.cons (.ife (.or (.not (.tru (.call 1 (.cons (.var 1) (.cons (.lit (.int 1)) (.cons (.var 0) .nil)))))) (.or (.not (.tru (.un .all (.frz (.comp [2] (.name 2) (.ex (.var 1)) .yes (.call 6 (.cons (.var 0) (.cons (.var 2) .nil)))))))) (.not (.tru (.call 2 (.cons (.var 1) .nil)))))) (.cons (.ret (.lit (.bl false))) .nil) .nil) (.cons (.ret (.tv (.cmp .eq (.frz (.sorted .int (.frz (.comp2 [2, 3] (.name 2) (.ex (.var 1)) .yes [3] (.name 3) (.ex (.var 2)) .yes (.var 3))))) (.frz (.ofR (.rng1 (.var 0))))))) .nil)) }
def t_need_lumps : Fn := { np := 2, ns := 2, body := (.cons (.ex (.call 5 (.cons (.var 0) .nil))) (.cons (.ife (.not (.tru (.call 17 (.cons (.un .len (.bin .idx (.var 0) (.lit (.int 0)))) (.cons (.var 1) .nil))))) (.cons (.raise 41 .nil) .nil) .nil) .nil)) }
def t_part_for : Fn := { np := 2, ns := 3, body := (.cons (.ret (.call 8 (.cons (.un .sum (.frz (.comp [2] (.name 2) (.ex (.var 1)) .yes (.bin .idx (.var 0) (.var 2))))) (.cons (.un .sum (.var 0)) .nil)))) .nil) }
def t_is_lumped : Fn := { np := 2, ns := 6, body := (.cons (.fo (.name 2) (.ex (.var 1)) (.cons (.fo (.name 3) (.ex (.var 1)) (.cons (.asg 4 (.frz (.comp [5] (.name 5) (.ex (.var 2)) .yes (.call 19 (.cons (.bin .idx (.var 0) (.var 5)) (.cons (.var 3) .nil)))))) (.cons (.ife (.tru (.un .any (.frz (.comp [5] (.name 5) (.ex (.var 4)) .yes (.tv (.cmp .ne (.var 5) (.bin .idx (.var 4) (.lit (.int 0))))))))) (.cons (.ret (.lit (.bl false))) .nil) .nil) .nil))) .nil)) (.cons (.ret (.lit (.bl true))) .nil)) }
def t_lumped : Fn := { np := 2, ns := 5, body := (.cons (.ret (.un .tuple (.frz (.comp [2] (.name 2) (.ex (.var 1)) .yes (.un .tuple (.frz (.comp [3] (.name 3) (.ex (.var 1)) .yes (.un .sum (.frz (.comp [4] (.name 4) (.ex (.var 3)) .yes (.bin .idx (.bin .idx (.var 0) (.bin .idx (.var 2) (.lit (.int 0)))) (.var 4)))))))))))) .nil) }
def t_partitions_of : Fn := { np := 1, ns := 7, body := (.cons (.asg 1 (.frz (.disp (.cons (.tup .nil) .nil)))) (.cons (.fo (.name 2) (.rng1 (.var 0)) (.cons (.asg 3 (.new (.disp .nil))) (.cons (.fo (.name 4) (.ex (.var 1)) (.cons (.app 3 (.bin .add (.var 4) (.tup (.cons (.tup (.cons (.var 2) .nil)) .nil)))) (.cons (.fo (.tup (.cons (.name 5) (.cons (.name 6) .nil))) (.enum (.var 4)) (.cons (.app 3 (.bin .add (.bin .add (.slc (.var 4) .none (.some (.var 5))) (.tup (.cons (.bin .add (.var 6) (.tup (.cons (.var 2) .nil))) .nil))) (.slc (.var 4) (.some (.bin .add (.var 5) (.lit (.int 1)))) .none))) .nil)) .nil))) (.cons (.asg 1 (.fz 3)) .nil)))) (.cons (.ret (.frz (.sorted (.seq (.seq .int)) (.var 1)))) .nil))) }
def t_can_lump : Fn := { np := 2, ns := 3, body := (.cons (.ex (.call 18 (.cons (.var 0) (.cons (.var 1) .nil)))) (.cons (.ret (.un .all (.frz (.comp [2] (.name 2) (.ex (.var 0)) .yes (.call 20 (.cons (.var 2) (.cons (.var 1) .nil))))))) .nil)) }
def t_lumped_book : Fn := { np := 2, ns := 4, body := (.cons (.ex (.call 18 (.cons (.var 0) (.cons (.var 1) .nil)))) (.cons (.ife (.not (.tru (.un .all (.frz (.comp [3] (.name 3) (.ex (.var 0)) .yes (.call 20 (.cons (.var 3) (.cons (.var 1) .nil)))))))) (.cons (.raise 41 .nil) .nil) .nil) (.cons (.asg 2 (.un .tuple (.frz (.comp [3] (.name 3) (.ex (.var 0)) .yes (.call 21 (.cons (.var 3) (.cons (.var 1) .nil))))))) (.cons (.ex (.call 5 (.cons (.var 2) .nil))) (.cons (.ret (.var 2)) .nil))))) }
def t_lumped_numbers : Fn := { np := 2, ns := 4, body := (.cons (.ex (.call 16 (.cons (.var 0) .nil))) (.cons (.ife (.not (.tru (.call 17 (.cons (.un .len (.var 0)) (.cons (.var 1) .nil))))) (.cons (.raise 41 .nil) .nil) .nil) (.cons (.ife (.tru (.un .any (.frz (.comp2 [2, 3] (.name 2) (.ex (.var 1)) .yes [3] (.name 3) (.ex (.var 2)) .yes (.tv (.cmp .ne (.bin .idx (.var 0) (.var 3)) (.bin .idx (.var 0) (.bin .idx (.var 2) (.lit (.int 0)))))))))) (.cons (.raise 42 .nil) .nil) .nil) (.cons (.ret (.un .tuple (.frz (.comp [2] (.name 2) (.ex (.var 1)) .yes (.bin .idx (.var 0) (.bin .idx (.var 2) (.lit (.int 0)))))))) .nil)))) }
def t_spread_numbers : Fn := { np := 2, ns := 6, body := (.cons (.ex (.call 16 (.cons (.var 0) .nil))) (.cons (.asg 2 (.ife (.tru (.call 33 (.cons (.var 1) .nil))) (.un .sum (.frz (.comp [3] (.name 3) (.ex (.var 1)) .yes (.un .len (.var 3))))) (.lit (.int 0)))) (.cons (.ife (.or (.cmp .gt (.var 2) (.gc (.int 6) (PySem.Str.ofString "MEMBERS"))) (.not (.tru (.call 17 (.cons (.var 2) (.cons (.var 1) .nil)))))) (.cons (.raise 41 .nil) .nil) .nil) (.cons (.ex (.call 15 (.cons (.un .len (.var 1)) (.cons (.var 0) .nil)))) (.cons (.ret (.un .tuple (.frz (.comp [3] (.name 3) (.rng1 (.var 2)) .yes (.bin .idx (.var 0) (.bin .idx (.frz (.comp [4, 5] (.tup (.cons (.name 4) (.cons (.name 5) .nil))) (.enum (.var 1)) (.if1 (.cmp .isin (.var 3) (.var 5))) (.var 4))) (.lit (.int 0)))))))) .nil))))) }
def t_are_lots : Fn := { np := 1, ns := 2, body := (.cons (.ret (.tv (.and (.tru (.un .isTup (.var 0))) (.tru (.un .all (.frz (.comp [1] (.name 1) (.ex (.var 0)) .yes (.un .isTup (.var 1))))))))) .nil) }
def t_lumps_of : Fn := { np := 1, ns := 5, body := (.cons (.ex (.call 5 (.cons (.var 0) .nil))) (.cons (.asg 1 (.call 28 (.cons (.un .len (.bin .idx (.var 0) (.lit (.int 0)))) .nil))) (.cons (.asg 2 (.frz (.comp [3] (.name 3) (.ex (.var 1)) (.if1 (.tru (.un .all (.frz (.comp [4] (.name 4) (.ex (.var 0)) .yes (.call 20 (.cons (.var 4) (.cons (.var 3) .nil)))))))) (.var 3)))) (.cons (.ife (.cmp .gt (.un .len (.var 2)) (.gc (.int 100) (PySem.Str.ofString "LUMPS"))) (.cons .never .nil) .nil) (.cons (.ret (.un .tuple (.var 2))) .nil))))) }
def t_alike_members : Fn := { np := 1, ns := 9, body := (.cons (.ex (.call 5 (.cons (.var 0) .nil))) (.cons (.asg 1 (.frz (.comp [4] (.name 4) (.ex (.var 0)) .yes (.call 10 (.cons (.var 4) .nil))))) (.cons (.asg 2 (.rngv (.un .len (.bin .idx (.var 0) (.lit (.int 0)))))) (.cons (.asg 3 (.frz (.comp2 [5, 6] (.name 5) (.ex (.var 2)) .yes [6] (.name 6) (.ex (.var 2)) (.if1 (.cmp .lt (.var 5) (.var 6))) (.tup (.cons (.var 5) (.cons (.var 6) .nil)))))) (.cons (.ret (.un .tuple (.frz (.comp [7] (.name 7) (.ex (.var 3)) (.if1 (.tru (.un .all (.frz (.comp [8] (.name 8) (.ex (.var 1)) .yes (.tv (.cmp .eq (.bin .idx (.var 8) (.bin .idx (.var 7) (.lit (.int 0)))) (.bin .idx (.var 8) (.bin .idx (.var 7) (.lit (.int 1))))))))))) (.var 7))))) .nil))))) }
def t_law_cup : Fn := { np := 1, ns := 2, body := (.cons (.asg 1 (.un .abs (.bin .idx (.frz (.cat (.frz (.ofE (.var 0))) (.frz (.disp (.cons (.lit (.int 0)) .nil))))) (.lit (.int 0))))) (.cons (.ret (.new (.disp (.cons (.ife (.cmp .ge (.var 1) (.bin .pow (.lit (.int 10)) (.lit (.int 18)))) (.bin .fdiv (.var 1) (.lit (.int 305))) (.lit (.int 0))) (.cons (.bin .add (.bin .mod (.un .int (.bin .add (.bin .mul (.var 1) (.lit (.int 635))) (.lit (.int 5419)))) (.lit (.int 2077503101))) (.lit (.int 425))) .nil))))) .nil)) }
def t_law_roll : Fn := { np := 2, ns := 4, body := (.cons (.ife (.cmp .gt (.bin .idx (.var 0) (.lit (.int 0))) (.lit (.int 0))) (.cons (.asg 3 (.bin .mod (.un .int (.bin .idx (.var 0) (.lit (.int 0)))) (.var 1))) (.cons (.put 0 (.lit (.int 0)) (.bin .fdiv (.bin .idx (.var 0) (.lit (.int 0))) (.var 1))) (.cons (.ret (.var 3)) .nil))) .nil) (.cons (.put 0 (.lit (.int 1)) (.bin .mod (.un .int (.bin .add (.bin .mul (.bin .idx (.var 0) (.lit (.int 1))) (.lit (.int 31327))) (.lit (.int 8377)))) (.lit (.int 2147483399)))) (.cons (.asg 2 (.bin .mod (.un .int (.bin .mul (.bin .idx (.var 0) (.lit (.int 1))) (.bin .add (.bin .idx (.var 0) (.lit (.int 1))) (.lit (.int 647))))) (.lit (.int 2147483563)))) (.cons (.ret (.bin .mod (.un .int (.bin .fdiv (.var 2) (.lit (.int 797)))) (.var 1))) .nil)))) }
def t_law_some : Fn := { np := 2, ns := 2, body := (.cons (.ret (.bin .idx (.var 1) (.call 23 (.cons (.var 0) (.cons (.un .len (.var 1)) .nil))))) .nil) }
def t_law_same : Fn := { np := 2, ns := 3, body := (.cons (.ife (.tru (.un .isTup (.var 1))) (.cons (.ife (.or (.not (.tru (.un .isTup (.var 0)))) (.cmp .ne (.un .len (.var 0)) (.un .len (.var 1)))) (.cons (.ret (.lit (.bl false))) .nil) .nil) (.cons (.ret (.un .all (.frz (.comp [2] (.name 2) (.rng1 (.un .len (.var 1))) .yes (.call 25 (.cons (.bin .idx (.var 0) (.var 2)) (.cons (.bin .idx (.var 1) (.var 2)) .nil))))))) .nil)) .nil) (.cons (.ife (.cmp .isNone (.var 1) (.lit .non)) (.cons (.ret (.tv (.cmp .isNone (.var 0) (.lit .non)))) .nil) .nil) (.cons (.ife (.tru (.un .isBool (.var 1))) (.cons (.ret (.ife (.tru (.var 1)) (.tv (.cmp .isTrue (.var 0) (.lit (.bl true)))) (.tv (.cmp .isFalse (.var 0) (.lit (.bl false)))))) .nil) .nil) (.cons (.ife (.tru (.un .isInt (.var 1))) (.cons (.ret (.tv (.and (.tru (.un .isInt (.var 0))) (.and (.not (.tru (.un .isBool (.var 0)))) (.cmp .eq (.un .int (.var 0)) (.var 1)))))) .nil) .nil) (.cons .never .nil))))) }
def t_law_meeting : Fn := { np := 3, ns := 7, body := (.cons (.asg 3 (.tup .nil)) (.cons (.fo (.name 4) (.rng1 (.var 1)) (.cons (.asg 5 (.un .tuple (.frz (.comp [6] (.name 6) (.rng1 (.var 1)) .yes (.call 24 (.cons (.var 0) (.cons (.frz (.disp (.cons (.lit (.int 0)) (.cons (.lit (.int 0)) (.cons (.lit (.int 1)) (.cons (.lit (.int 1)) (.cons (.bin .add (.lit (.int 1)) (.call 23 (.cons (.var 0) (.cons (.var 2) .nil)))) .nil))))))) .nil))))))) (.cons (.asg 5 (.ife (.cmp .gt (.un .sum (.var 5)) (.lit (.int 0))) (.var 5) (.bin .add (.slc (.var 5) .none (.some (.un .neg (.lit (.int 1))))) (.tup (.cons (.bin .add (.lit (.int 1)) (.call 23 (.cons (.var 0) (.cons (.var 2) .nil)))) .nil))))) (.cons (.asg 3 (.bin .add (.var 3) (.tup (.cons (.call 24 (.cons (.var 0) (.cons (.frz (.disp (.cons (.var 5) (.cons (.var 5) (.cons (.var 5) (.cons (.bin .idx (.bin .add (.var 3) (.tup (.cons (.var 5) .nil))) (.lit (.int 0))) .nil)))))) .nil))) .nil)))) .nil)))) (.cons (.ret (.var 3)) .nil))) }
def t_law_book : Fn := { np := 4, ns := 6, body := (.cons (.asg 4 (.tup (.cons (.call 26 (.cons (.var 0) (.cons (.var 1) (.cons (.var 3) .nil)))) .nil))) (.cons (.fo (.name 5) (.rng1 (.call 23 (.cons (.var 0) (.cons (.var 2) .nil)))) (.cons (.asg 4 (.bin .add (.var 4) (.tup (.cons (.call 24 (.cons (.var 0) (.cons (.frz (.disp (.cons (.call 26 (.cons (.var 0) (.cons (.var 1) (.cons (.var 3) .nil)))) (.cons (.call 26 (.cons (.var 0) (.cons (.var 1) (.cons (.var 3) .nil)))) (.cons (.bin .idx (.var 4) (.lit (.int 0))) .nil))))) .nil))) .nil)))) .nil)) (.cons (.ret (.var 4)) .nil))) }
def t_law_low : Fn := { np := 2, ns := 4, body := (.cons (.par [2, 3] (.cons (.un .abs (.var 0)) (.cons (.var 1) .nil))) (.cons (.whl (.slot 3) (.cmp .gt (.var 3) (.lit (.int 0))) (.cons (.par [2, 3] (.cons (.var 3) (.cons (.bin .mod (.un .int (.var 2)) (.un .int (.var 3))) .nil))) .nil)) (.cons (.ret (.tup (.cons (.un .int (.bin .fdiv (.var 0) (.var 2))) (.cons (.un .int (.bin .fdiv (.var 1) (.var 2))) .nil)))) .nil))) }
def t_law_set : Fn := { np := 2, ns := 8, body := (.cons (.asg 2 (.tup .nil)) (.cons (.fo (.name 3) (.ex (.var 0)) (.cons (.asg 4 (.un .sum (.var 3))) (.cons (.fo (.tup (.cons (.name 5) (.cons (.name 6) .nil))) (.ex (.var 1)) (.cons (.asg 4 (.bin .mul (.var 4) (.var 6))) .nil)) (.cons (.asg 2 (.bin .add (.var 2) (.tup (.cons (.call 11 (.cons (.un .sum (.frz (.comp [7, 5, 6] (.tup (.cons (.name 7) (.cons (.tup (.cons (.name 5) (.cons (.name 6) .nil))) .nil))) (.zip (.var 3) (.var 1)) .yes (.bin .mul (.bin .mul (.var 7) (.var 5)) (.bin .fdiv (.var 4) (.bin .mul (.un .sum (.var 3)) (.var 6))))))) (.cons (.var 4) .nil))) .nil)))) .nil)))) (.cons (.ret (.var 2)) .nil))) }
def t_law_partitions : Fn := { np := 1, ns := 6, body := (.cons (.asg 1 (.frz (.disp (.cons (.frz (.disp .nil)) .nil)))) (.cons (.fo (.name 2) (.rng1 (.var 0)) (.cons (.asg 3 (.new (.disp .nil))) (.cons (.fo (.name 4) (.ex (.var 1)) (.cons (.app 3 (.frz (.cat (.var 4) (.frz (.disp (.cons (.tup (.cons (.var 2) .nil)) .nil)))))) (.cons (.asg 3 (.new (.cat (.var 3) (.frz (.comp [5] (.name 5) (.rng1 (.un .len (.var 4))) .yes (.frz (.cat (.frz (.cat (.frz (.slc (.var 4) .none (.some (.var 5)))) (.frz (.disp (.cons (.bin .add (.bin .idx (.var 4) (.var 5)) (.tup (.cons (.var 2) .nil))) .nil))))) (.frz (.slc (.var 4) (.some (.bin .add (.var 5) (.lit (.int 1)))) .none))))))))) .nil))) (.cons (.asg 1 (.fz 3)) .nil)))) (.cons (.ret (.frz (.sorted (.seq (.seq .int)) (.frz (.comp [4] (.name 4) (.ex (.var 1)) .yes (.un .tuple (.var 4))))))) .nil))) }
def t_law_can : Fn := { np := 2, ns := 8, body := (.cons (.fo (.name 2) (.ex (.var 0)) (.cons (.fo (.name 3) (.ex (.var 1)) (.cons (.fo (.name 4) (.ex (.var 1)) (.cons (.asg 5 (.frz (.comp [6] (.name 6) (.ex (.var 3)) .yes (.call 11 (.cons (.un .sum (.frz (.comp [7] (.name 7) (.ex (.var 4)) .yes (.bin .idx (.bin .idx (.var 2) (.var 6)) (.var 7))))) (.cons (.un .sum (.bin .idx (.var 2) (.var 6))) .nil)))))) (.cons (.ife (.cmp .gt (.un .nset (.var 5)) (.lit (.int 1))) (.cons (.ret (.lit (.bl false))) .nil) .nil) .nil))) .nil)) .nil)) (.cons (.ret (.lit (.bl true))) .nil)) }
def t_law_numbers : Fn := { np := 2, ns := 3, body := (.cons (.ret (.un .tuple (.frz (.comp [2] (.name 2) (.rng1 (.var 1)) .yes (.call 11 (.cons (.bin .sub (.call 23 (.cons (.var 0) (.cons (.lit (.int 9)) .nil))) (.lit (.int 4))) (.cons (.bin .add (.lit (.int 1)) (.call 23 (.cons (.var 0) (.cons (.lit (.int 3)) .nil)))) .nil))))))) .nil) }
def t_law_right : Fn := { np := 4, ns := 25, body := (.cons (.asg 4 (.call 27 (.cons (.var 0) (.cons (.var 1) (.cons (.var 2) (.cons (.var 3) .nil)))))) (.cons (.asg 5 (.call 23 (.cons (.var 0) (.cons (.var 1) .nil)))) (.cons (.asg 6 (.ife (.cmp .lt (.var 1) (.lit (.int 4))) (.un .tuple (.frz (.comp [14] (.name 14) (.ex (.var 4)) .yes (.bin .add (.un .tuple (.frz (.comp [23] (.name 23) (.ex (.var 14)) .yes (.bin .add (.var 23) (.tup (.cons (.lit (.int 0)) .nil)))))) (.tup (.cons (.bin .add (.bin .idx (.var 14) (.var 5)) (.tup (.cons (.lit (.int 0)) .nil))) .nil)))))) (.var 4))) (.cons (.fo (.name 7) (.ex (.tup (.cons (.var 4) (.cons (.var 6) .nil)))) (.cons (.asg 8 (.call 36 (.cons (.un .len (.bin .idx (.var 7) (.lit (.int 0)))) .nil))) (.cons (.asg 9 (.frz (.comp [10] (.name 10) (.ex (.var 8)) (.if1 (.tru (.call 37 (.cons (.var 7) (.cons (.var 10) .nil))))) (.var 10)))) (.cons (.ife (.not (.tru (.call 25 (.cons (.call 34 (.cons (.var 7) .nil)) (.cons (.un .tuple (.var 9)) .nil))))) (.cons (.ret (.lit (.bl false))) .nil) .nil) (.cons (.fo (.name 10) (.ex (.frz (.slc (.var 8) .none (.some (.lit (.int 20)))))) (.cons (.ife (.not (.tru (.call 25 (.cons (.call 29 (.cons (.var 7) (.cons (.var 10) .nil))) (.cons (.tv (.cmp .isin (.var 10) (.var 9))) .nil))))) (.cons (.ret (.lit (.bl false))) .nil) .nil) (.cons (.asg 13 (.tup .nil)) (.cons (.fo (.name 14) (.ex (.var 7)) (.cons (.asg 18 (.tup .nil)) (.cons (.fo (.name 19) (.ex (.var 10)) (.cons (.asg 18 (.bin .add (.var 18) (.tup (.cons (.un .tuple (.frz (.comp [17] (.name 17) (.ex (.var 10)) .yes (.un .sum (.frz (.comp [24] (.name 24) (.ex (.var 17)) .yes (.bin .idx (.bin .idx (.var 14) (.bin .idx (.var 19) (.lit (.int 0)))) (.var 24)))))))) .nil)))) .nil)) (.cons (.asg 13 (.bin .add (.var 13) (.tup (.cons (.var 18) .nil)))) .nil)))) (.cons (.asg 15 (.mx false .int (.frz (.comp [14] (.name 14) (.ex (.var 13)) .yes (.mx false .int (.frz (.comp [23] (.name 23) (.ex (.var 14)) .yes (.mx false .int (.var 23))))))))) (.cons (.asg 16 (.ife (.cmp .notin (.var 10) (.var 9)) (.lit (.str (PySem.Str.ofString "member"))) (.ife (.cmp .gt (.var 15) (.lit (.int 99))) (.lit (.str (PySem.Str.ofString "meeting"))) (.lit (.str (PySem.Str.ofString "")))))) (.cons (.ife (.cmp .ne (.word 0 (.str (PySem.Str.ofString "")) [(41, .txt (.str (PySem.Str.ofString "member"))), (40, .txt (.str (PySem.Str.ofString "meeting")))] (.call 30 (.cons (.var 7) (.cons (.var 10) .nil)))) (.var 16)) (.cons (.ret (.lit (.bl false))) .nil) .nil) (.cons (.ife (.cmp .eq (.var 16) (.lit (.str (PySem.Str.ofString "")))) (.cons (.asg 20 (.call 13 (.cons (.var 0) (.cons (.un .len (.var 10)) .nil)))) (.cons (.asg 21 (.call 32 (.cons (.var 20) (.cons (.var 10) .nil)))) (.cons (.asg 22 (.call 12 (.cons (.bin .idx (.var 7) (.lit (.int 0))) (.cons (.var 21) .nil)))) (.cons (.ife (.or (.cmp .ne (.call 30 (.cons (.var 7) (.cons (.var 10) .nil))) (.var 13)) (.or (.cmp .ne (.call 31 (.cons (.var 21) (.cons (.var 10) .nil))) (.var 20)) (.cmp .ne (.call 32 (.cons (.call 12 (.cons (.bin .idx (.var 13) (.lit (.int 0))) (.cons (.var 20) .nil))) (.cons (.var 10) .nil))) (.var 22)))) (.cons (.ret (.lit (.bl false))) .nil) .nil) .nil)))) .nil) .nil)))))))) (.cons (.asg 11 (.frz (.disp .nil))) (.cons (.fo (.name 12) (.rng1 (.un .len (.bin .idx (.var 7) (.lit (.int 0))))) (.cons (.fo (.name 17) (.rng2 (.bin .add (.var 12) (.lit (.int 1))) (.un .len (.bin .idx (.var 7) (.lit (.int 0))))) (.cons (.asg 18 (.frz (.comp [14] (.name 14) (.ex (.var 7)) (.if1 (.cmp .ne (.frz (.comp [24] (.name 24) (.rng1 (.un .len (.var 14))) (.if1 (.cmp .ne (.bin .mul (.bin .idx (.bin .idx (.var 14) (.var 12)) (.var 24)) (.un .sum (.bin .idx (.var 14) (.var 17)))) (.bin .mul (.bin .idx (.bin .idx (.var 14) (.var 17)) (.var 24)) (.un .sum (.bin .idx (.var 14) (.var 12)))))) (.var 24))) (.frz (.disp .nil)))) (.lit (.int 1))))) (.cons (.asg 11 (.frz (.cat (.var 11) (.ife (.cmp .eq (.var 18) (.frz (.disp .nil))) (.frz (.disp (.cons (.tup (.cons (.var 12) (.cons (.var 17) .nil))) .nil))) (.frz (.disp .nil)))))) .nil))) .nil)) (.cons (.ife (.not (.tru (.call 25 (.cons (.call 35 (.cons (.var 7) .nil)) (.cons (.un .tuple (.var 11)) .nil))))) (.cons (.ret (.lit (.bl false))) .nil) .nil) .nil)))))))) (.cons (.ret (.lit (.bl true))) .nil))))) }
def t_law : Fn := { np := 1, ns := 8, body := (.cons (.asg 1 (.call 22 (.cons (.var 0) .nil))) (.cons (.par [3, 4] (.cons (.tup (.cons (.tup (.cons (.tup (.cons (.lit (.int 1)) (.cons (.lit (.int 1)) (.cons (.lit (.int 2)) .nil)))) (.cons (.tup (.cons (.lit (.int 2)) (.cons (.lit (.int 0)) (.cons (.lit (.int 2)) .nil)))) (.cons (.tup (.cons (.lit (.int 0)) (.cons (.lit (.int 0)) (.cons (.lit (.int 1)) .nil)))) .nil)))) .nil)) (.cons (.tup (.cons (.tup (.cons (.lit (.int 0)) (.cons (.lit (.int 1)) .nil))) (.cons (.tup (.cons (.lit (.int 2)) .nil)) .nil))) .nil))) (.cons (.asg 2 (.tup (.cons (.call 34 (.cons (.var 3) .nil)) (.cons (.call 30 (.cons (.var 3) (.cons (.var 4) .nil))) (.cons (.call 29 (.cons (.var 3) (.cons (.tup (.cons (.tup (.cons (.lit (.int 0)) .nil)) (.cons (.tup (.cons (.lit (.int 1)) (.cons (.lit (.int 2)) .nil))) .nil))) .nil))) (.cons (.call 35 (.cons (.tup (.cons (.tup (.cons (.tup (.cons (.lit (.int 1)) (.cons (.lit (.int 1)) .nil))) (.cons (.tup (.cons (.lit (.int 2)) (.cons (.lit (.int 2)) .nil))) .nil))) .nil)) .nil)) (.cons (.call 35 (.cons (.var 3) .nil)) .nil))))))) (.cons (.ife (.not (.tru (.call 25 (.cons (.var 2) (.cons (.tup (.cons (.tup (.cons (.tup (.cons (.tup (.cons (.lit (.int 0)) .nil)) (.cons (.tup (.cons (.lit (.int 1)) .nil)) (.cons (.tup (.cons (.lit (.int 2)) .nil)) .nil)))) (.cons (.tup (.cons (.tup (.cons (.lit (.int 0)) (.cons (.lit (.int 1)) .nil))) (.cons (.tup (.cons (.lit (.int 2)) .nil)) .nil))) (.cons (.tup (.cons (.tup (.cons (.lit (.int 0)) (.cons (.lit (.int 1)) (.cons (.lit (.int 2)) .nil)))) .nil)) .nil)))) (.cons (.tup (.cons (.tup (.cons (.tup (.cons (.lit (.int 2)) (.cons (.lit (.int 2)) .nil))) (.cons (.tup (.cons (.lit (.int 0)) (.cons (.lit (.int 1)) .nil))) .nil))) .nil)) (.cons (.lit (.bl false)) (.cons (.tup (.cons (.tup (.cons (.lit (.int 0)) (.cons (.lit (.int 1)) .nil))) .nil)) (.cons (.tup .nil) .nil)))))) .nil))))) (.cons (.ret (.lit (.bl false))) .nil) .nil) (.cons (.asg 2 (.tup (.cons (.call 31 (.cons (.tup (.cons (.tup (.cons (.lit (.int 1)) (.cons (.lit (.int 2)) .nil))) (.cons (.tup (.cons (.lit (.int 1)) (.cons (.lit (.int 2)) .nil))) (.cons (.tup (.cons (.lit (.int 3)) (.cons (.lit (.int 1)) .nil))) .nil)))) (.cons (.var 4) .nil))) (.cons (.call 32 (.cons (.tup (.cons (.tup (.cons (.lit (.int 1)) (.cons (.lit (.int 2)) .nil))) (.cons (.tup (.cons (.lit (.int 3)) (.cons (.lit (.int 1)) .nil))) .nil))) (.cons (.tup (.cons (.tup (.cons (.lit (.int 0)) (.cons (.lit (.int 2)) .nil))) (.cons (.tup (.cons (.lit (.int 1)) .nil)) .nil))) .nil))) (.cons (.call 30 (.cons (.var 3) (.cons (.tup (.cons (.tup (.cons (.lit (.int 0)) (.cons (.lit (.int 1)) (.cons (.lit (.int 2)) .nil)))) .nil)) .nil))) .nil))))) (.cons (.ife (.not (.tru (.call 25 (.cons (.var 2) (.cons (.tup (.cons (.tup (.cons (.tup (.cons (.lit (.int 1)) (.cons (.lit (.int 2)) .nil))) (.cons (.tup (.cons (.lit (.int 3)) (.cons (.lit (.int 1)) .nil))) .nil))) (.cons (.tup (.cons (.tup (.cons (.lit (.int 1)) (.cons (.lit (.int 2)) .nil))) (.cons (.tup (.cons (.lit (.int 3)) (.cons (.lit (.int 1)) .nil))) (.cons (.tup (.cons (.lit (.int 1)) (.cons (.lit (.int 2)) .nil))) .nil)))) (.cons (.tup (.cons (.tup (.cons (.tup (.cons (.lit (.int 4)) .nil)) .nil)) .nil)) .nil)))) .nil))))) (.cons (.ret (.lit (.bl false))) .nil) .nil) (.cons (.ife (.cmp .ne (.word 0 (.str (PySem.Str.ofString "")) [(41, .txt (.str (PySem.Str.ofString "member"))), (40, .txt (.str (PySem.Str.ofString "meeting")))] (.call 30 (.cons (.tup (.cons (.tup (.cons (.tup (.cons (.lit (.int 60)) (.cons (.lit (.int 60)) .nil))) (.cons (.tup (.cons (.lit (.int 1)) (.cons (.lit (.int 1)) .nil))) .nil))) .nil)) (.cons (.tup (.cons (.tup (.cons (.lit (.int 0)) (.cons (.lit (.int 1)) .nil))) .nil)) .nil)))) (.lit (.str (PySem.Str.ofString "meeting")))) (.cons (.ret (.lit (.bl false))) .nil) .nil) (.cons (.fo (.tup (.cons (.name 5) (.cons (.name 6) (.cons (.name 7) .nil)))) (.ex (.tup (.cons (.tup (.cons (.lit (.int 1)) (.cons (.lit (.int 2)) (.cons (.lit (.int 9)) .nil)))) (.cons (.tup (.cons (.lit (.int 2)) (.cons (.lit (.int 3)) (.cons (.lit (.int 3)) .nil)))) (.cons (.tup (.cons (.lit (.int 3)) (.cons (.lit (.int 2)) (.cons (.lit (.int 1)) .nil)))) (.cons (.tup (.cons (.lit (.int 3)) (.cons (.lit (.int 3)) (.cons (.lit (.int 60)) .nil)))) (.cons (.tup (.cons (.lit (.int 4)) (.cons (.lit (.int 1)) (.cons (.lit (.int 1)) .nil)))) .nil))))))) (.cons (.ife (.not (.tru (.call 38 (.cons (.var 1) (.cons (.var 5) (.cons (.var 6) (.cons (.var 7) .nil))))))) (.cons (.ret (.lit (.bl false))) .nil) .nil) .nil)) (.cons (.ret (.lit (.bl true))) .nil))))))))) }
def tb : List Fn := [t_is_whole, t_is_tuple_of, t_is_rising, t_fits_meeting, t_fits_book, t_need_book, t_fits_lot, t_divisor_of, t_lowest, t_fits_fraction, t_table_in, t_law_low, t_law_set, t_law_numbers, t_fits_numbers, t_need_numbers, t_need_row, t_fits_lumps, t_need_lumps, t_part_for, t_is_lumped, t_lumped, t_law_cup, t_law_roll, t_law_some, t_law_same, t_law_meeting, t_law_book, t_partitions_of, t_can_lump, t_lumped_book, t_lumped_numbers, t_spread_numbers, t_are_lots, t_lumps_of, t_alike_members, t_law_partitions, t_law_can, t_law_right, t_law]
end Ev

set_option Elab.async false
set_option linter.all false
set_option maxRecDepth 100000
set_option maxHeartbeats 4000000
set_option exponentiation.threshold 5000
namespace Ev.Pl
open PySem

/-! ### plain laws: tools for the evaluator -/
theorem callN_at {Tb : List Fn} {n g : Nat} {as : List D} {s : St} {f : Fn} (h : Tb[g]? = some f) (hl : as.length = f.np) : callN Tb (n + 1) g as s = leave s.length (evSs (callN Tb n) s.length f.body (enter f as) s) := by
  rw [callN, h]; exact if_pos hl
@[simp] theorem R.bind_ok' {α β : Type} {a : α} {s : St} {f : α → St → R β} : (R.ok a s).bind f = f a s := rfl
@[simp] theorem R.noexc_ok {α : Type} {a : α} {s : St} : (R.ok a s).noexc = .ok a s := rfl
/-- a call gives back a plain value, the store as it was -/
@[simp] theorem leave_ret {x : P} {s : St} : leave s.length (.ok (.ret (.p x)) s) = .ok (.p x) s := by
  unfold leave; simp
@[simp] theorem leave_next {r : En} {s : St} : leave s.length (.ok (.next r) s) = .ok (.p .non) s := by
  unfold leave; simp
theorem compGo_pure {f : P → St → R (List P)} {g : P → List P} {s : St} : ∀ {xs : List P}, (∀ x ∈ xs, f x s = .ok (g x) s) → compGo f xs s = .ok (xs.flatMap g) s
  | [], _ => rfl
  | x :: xs, h => by
    rw [compGo, h x List.mem_cons_self, R.bind_ok', compGo_pure fun y m => h y (List.mem_cons_of_mem _ m), R.bind_ok']
    rfl
/-- a list made of what is encoded by c -/
theorem compGo_map {α : Type} {f : P → St → R (List P)} {c : α → P} {p : α → Bool} {e : α → P} {s : St} {l : List α} (h : ∀ x ∈ l, f (c x) s = .ok (if p x then [e x] else []) s) : compGo f (l.map c) s = .ok ((l.filter p).map e) s := by
  induction l with
  | nil => rfl
  | cons x l ih =>
    rw [List.map_cons, compGo, h x List.mem_cons_self, R.bind_ok', ih fun y m => h y (List.mem_cons_of_mem _ m), R.bind_ok', List.filter_cons]
    cases p x <;> rfl
theorem compGo_all {α : Type} {f : P → St → R (List P)} {c : α → P} {e : α → P} {s : St} {l : List α} (h : ∀ x ∈ l, f (c x) s = .ok [e x] s) : compGo f (l.map c) s = .ok (l.map e) s := by
  rw [compGo_map (p := fun _ => true) (e := e) h, List.filter_eq_self.mpr fun _ _ => rfl]
/-! ### data without bools: Python's == is equality -/
mutual
def P.plain : Nat → P → Bool
  | _, .non => true
  | _, .int _ => true
  | n + 1, .tup l => P.plains n l
  | n + 1, .lst l => P.plains n l
  | _, _ => false
def P.plains (n : Nat) : List P → Bool
  | [] => true
  | a :: l => P.plain n a && P.plains n l
end
theorem P.plains_iff {n : Nat} : ∀ {l : List P}, P.plains n l = true ↔ ∀ x ∈ l, P.plain n x = true
  | [] => by simp [P.plains]
  | a :: l => by rw [P.plains, Bool.and_eq_true, P.plains_iff]; simp
mutual
theorem P.plain_py : ∀ (n : Nat) (x : P), P.plain n x = true → ∃ d, x.py = some d ∧ d.canLay0 = true ∧ d.depth ≤ n
  | n, .non, _ => ⟨.none, by rw [P.py], by rw [PyData.canLay0], by rw [PyData.depth]; exact Nat.zero_le _⟩
  | n, .int i, _ => ⟨.int i, by rw [P.py], by rw [PyData.canLay0], by rw [PyData.depth]; exact Nat.zero_le _⟩
  | n + 1, .tup l, h => by
    rw [P.plain] at h
    obtain ⟨ds, e, h1, h2⟩ := P.plains_py n l h
    exact ⟨.tuple ds, by rw [P.py, e], by rw [PyData.canLay0]; exact h1, by rw [PyData.depth]; omega⟩
  | n + 1, .lst l, h => by
    rw [P.plain] at h
    obtain ⟨ds, e, h1, h2⟩ := P.plains_py n l h
    exact ⟨.list ds, by rw [P.py, e], by rw [PyData.canLay0]; exact h1, by rw [PyData.depth]; omega⟩
  | 0, .tup l, h => by rw [P.plain] at h; cases h; all_goals simp
  | 0, .lst l, h => by rw [P.plain] at h; cases h; all_goals simp
  | n, .bl _, h => by cases n <;> (rw [P.plain] at h; cases h; all_goals simp)
  | n, .str _, h => by cases n <;> (rw [P.plain] at h; cases h; all_goals simp)
  | n, .dct _ _, h => by cases n <;> (rw [P.plain] at h; cases h; all_goals simp)
  | n, .rng _ _, h => by cases n <;> (rw [P.plain] at h; cases h; all_goals simp)
  | n, .glo _, h => by cases n <;> (rw [P.plain] at h; cases h; all_goals simp)
theorem P.plains_py : ∀ (n : Nat) (l : List P), P.plains n l = true → ∃ ds, P.pys l = some ds ∧ PyData.canLayAll0 ds = true ∧ PyData.depthAll ds ≤ n
  | n, [], _ => ⟨[], by rw [P.pys], by rw [PyData.canLayAll0], by rw [PyData.depthAll]; exact Nat.zero_le _⟩
  | n, x :: l, h => by
    rw [P.plains, Bool.and_eq_true] at h
    obtain ⟨d, e, h1, h2⟩ := P.plain_py n x h.1
    obtain ⟨ds, e', h3, h4⟩ := P.plains_py n l h.2
    exact ⟨d :: ds, by rw [P.pys, e, e'], by rw [PyData.canLayAll0, h1, h3]; rfl, by rw [PyData.depthAll]; omega⟩
end
/-- the shapes of plain data -/
theorem P.plain_cases {n : Nat} {x : P} (h : P.plain n x = true) : x = .non ∨ (∃ i, x = .int i) ∨ (∃ m l, n = m + 1 ∧ x = .tup l ∧ P.plains m l = true) ∨ (∃ m l, n = m + 1 ∧ x = .lst l ∧ P.plains m l = true) := by
  cases x with
  | non => exact .inl rfl
  | int i => exact .inr (.inl ⟨i, rfl⟩)
  | tup l => cases n with
    | zero => simp [P.plain] at h
    | succ m => exact .inr (.inr (.inl ⟨m, l, rfl, rfl, by rw [P.plain] at h; exact h⟩))
  | lst l => cases n with
    | zero => simp [P.plain] at h
    | succ m => exact .inr (.inr (.inr ⟨m, l, rfl, rfl, by rw [P.plain] at h; exact h⟩))
  | bl b => cases n <;> simp [P.plain] at h
  | str b => cases n <;> simp [P.plain] at h
  | dct a b => cases n <;> simp [P.plain] at h
  | rng a b => cases n <;> simp [P.plain] at h
  | glo b => cases n <;> simp [P.plain] at h
theorem int_beq (i j : Int) : (i == j) = decide (i = j) := by
  by_cases h : i = j <;> simp [h]
theorem eqv_plain : ∀ (n : Nat), (∀ x y dx dy, P.plain n x = true → P.plain n y = true → x.py = some dx → y.py = some dy → PyData.eqv dx dy = P.beq x y) ∧ (∀ l m ds es, P.plains n l = true → P.plains n m = true → P.pys l = some ds → P.pys m = some es → PyData.eqvAll ds es = P.beqs l m) := by
  intro n
  induction n with
  | zero =>
    have one : ∀ x y dx dy, P.plain 0 x = true → P.plain 0 y = true → x.py = some dx → y.py = some dy → PyData.eqv dx dy = P.beq x y := by
      intro x y dx dy hx hy ex ey
      rcases P.plain_cases hx with rfl | ⟨i, rfl⟩ | ⟨m, l, e, _⟩ | ⟨m, l, e, _⟩
      · rw [P.py] at ex; cases ex
        rcases P.plain_cases hy with rfl | ⟨j, rfl⟩ | ⟨m, l, e, _⟩ | ⟨m, l, e, _⟩
        · rw [P.py] at ey; cases ey; simp [PyData.eqv, P.beq]
        · rw [P.py] at ey; cases ey; simp [PyData.eqv, P.beq]
        · cases e
        · cases e
      · rw [P.py] at ex; cases ex
        rcases P.plain_cases hy with rfl | ⟨j, rfl⟩ | ⟨m, l, e, _⟩ | ⟨m, l, e, _⟩
        · rw [P.py] at ey; cases ey; simp [PyData.eqv, P.beq]
        · rw [P.py] at ey; cases ey; rw [PyData.eqv, P.beq]; exact int_beq _ _
        · cases e
        · cases e
      · cases e
      · cases e
    refine ⟨one, ?_⟩
    intro l
    induction l with
    | nil =>
      intro m ds es _ hm ed ee
      rw [P.pys] at ed; cases ed
      cases m with
      | nil => rw [P.pys] at ee; cases ee; simp [PyData.eqvAll, P.beqs]
      | cons y m =>
        obtain ⟨d, e1, _⟩ := P.plains_py 0 (y :: m) hm
        rw [P.pys] at ee
        split at ee
        · split at ee
          · cases ee; simp [PyData.eqvAll, P.beqs]
          · cases ee
        · cases ee
    | cons x l ih =>
      intro m ds es hl hm ed ee
      rw [P.plains, Bool.and_eq_true] at hl
      rw [P.pys] at ed
      split at ed
      · rename_i d hd
        split at ed
        · rename_i ds' hds
          cases ed
          cases m with
          | nil => rw [P.pys] at ee; cases ee; simp [PyData.eqvAll, P.beqs]
          | cons y m =>
            rw [P.plains, Bool.and_eq_true] at hm
            rw [P.pys] at ee
            split at ee
            · rename_i e he
              split at ee
              · rename_i es' hes
                cases ee
                rw [PyData.eqvAll, P.beqs, one x y d e hl.1 hm.1 hd he, ih m ds' es' hl.2 hm.2 hds hes]
              · cases ee
            · cases ee
        · cases ed
      · cases ed
  | succ n ihn =>
    obtain ⟨ih1, ih2⟩ := ihn
    have one : ∀ x y dx dy, P.plain (n + 1) x = true → P.plain (n + 1) y = true → x.py = some dx → y.py = some dy → PyData.eqv dx dy = P.beq x y := by
      intro x y dx dy hx hy ex ey
      have ys : ∀ {y : P} {dy : PyData}, P.plain (n + 1) y = true → y.py = some dy → (y = .non ∧ dy = .none) ∨ (∃ j, y = .int j ∧ dy = .int j) ∨ (∃ l ds, y = .tup l ∧ dy = .tuple ds ∧ P.plains n l = true ∧ P.pys l = some ds) ∨ (∃ l ds, y = .lst l ∧ dy = .list ds ∧ P.plains n l = true ∧ P.pys l = some ds) := by
        intro y dy hy ey
        rcases P.plain_cases hy with rfl | ⟨j, rfl⟩ | ⟨m, l, e, rfl, hl⟩ | ⟨m, l, e, rfl, hl⟩
        · rw [P.py] at ey; cases ey; exact .inl ⟨rfl, rfl⟩
        · rw [P.py] at ey; cases ey; exact .inr (.inl ⟨j, rfl, rfl⟩)
        · cases e
          rw [P.py] at ey
          split at ey
          · rename_i ds hds; cases ey; exact .inr (.inr (.inl ⟨l, ds, rfl, rfl, hl, hds⟩))
          · cases ey
        · cases e
          rw [P.py] at ey
          split at ey
          · rename_i ds hds; cases ey; exact .inr (.inr (.inr ⟨l, ds, rfl, rfl, hl, hds⟩))
          · cases ey
      rcases ys hx ex with ⟨rfl, rfl⟩ | ⟨i, rfl, rfl⟩ | ⟨l, ds, rfl, rfl, hl, hds⟩ | ⟨l, ds, rfl, rfl, hl, hds⟩ <;>
        rcases ys hy ey with ⟨rfl, rfl⟩ | ⟨j, rfl, rfl⟩ | ⟨m, es, rfl, rfl, hm, hes⟩ | ⟨m, es, rfl, rfl, hm, hes⟩ <;>
        first
          | (simp [PyData.eqv, P.beq]; done)
          | (rw [PyData.eqv, P.beq]; exact int_beq _ _)
          | (rw [PyData.eqv, P.beq]; exact ih2 _ _ _ _ (by assumption) (by assumption) (by assumption) (by assumption))
    refine ⟨one, ?_⟩
    intro l
    induction l with
    | nil =>
      intro m ds es _ hm ed ee
      rw [P.pys] at ed; cases ed
      cases m with
      | nil => rw [P.pys] at ee; cases ee; simp [PyData.eqvAll, P.beqs]
      | cons y m =>
        rw [P.pys] at ee
        split at ee
        · split at ee
          · cases ee; simp [PyData.eqvAll, P.beqs]
          · cases ee
        · cases ee
    | cons x l ih =>
      intro m ds es hl hm ed ee
      rw [P.plains, Bool.and_eq_true] at hl
      rw [P.pys] at ed
      split at ed
      · rename_i d hd
        split at ed
        · rename_i ds' hds
          cases ed
          cases m with
          | nil => rw [P.pys] at ee; cases ee; simp [PyData.eqvAll, P.beqs]
          | cons y m =>
            rw [P.plains, Bool.and_eq_true] at hm
            rw [P.pys] at ee
            split at ee
            · rename_i e he
              split at ee
              · rename_i es' hes
                cases ee
                rw [PyData.eqvAll, P.beqs, one x y d e hl.1 hm.1 hd he, ih m ds' es' hl.2 hm.2 hds hes]
              · cases ee
            · cases ee
        · cases ed
      · cases ed
theorem P.beq_eq (x y : P) : P.beq x y = decide (x = y) := by
  cases h : P.beq x y with
  | true => exact (decide_eq_true (P.eq_of_beq x y h)).symm
  | false => exact (decide_eq_false fun e => by rw [e, P.beq_self] at h; cases h).symm
theorem peq_plain {x y : P} (hx : P.plain 60 x = true) (hy : P.plain 60 y = true) : peq x y = some (decide (x = y)) := by
  obtain ⟨d, e1, c1, l1⟩ := P.plain_py 60 x hx
  obtain ⟨d', e2, c2, l2⟩ := P.plain_py 60 y hy
  unfold peq
  rw [e1, e2]
  have s1 : SeqAt.shaped d = true := by unfold SeqAt.shaped; rw [c1, decide_eq_true (by omega)]; rfl
  have s2 : SeqAt.shaped d' = true := by unfold SeqAt.shaped; rw [c2, decide_eq_true (by omega)]; rfl
  dsimp only
  rw [s1, s2, (eqv_plain 60).1 x y d d' hx hy e1 e2, P.beq_eq]; rfl
theorem inSeq_plain {x : P} {l : List P} (hx : P.plain 60 x = true) (hl : P.plains 60 l = true) : inSeq x l = some (decide (x ∈ l)) := by
  obtain ⟨d, e1, c1, l1⟩ := P.plain_py 60 x hx
  obtain ⟨ds, e2, c2, l2⟩ := P.plains_py 60 l hl
  unfold inSeq
  rw [e1, e2]
  have s1 : SeqAt.shaped d = true := by unfold SeqAt.shaped; rw [c1, decide_eq_true (by omega)]; rfl
  have s2 : SeqAt.shaped (.list ds) = true := by unfold SeqAt.shaped; rw [PyData.canLay0, c2, PyData.depth, decide_eq_true (by omega)]; rfl
  dsimp only
  rw [s1, s2]
  refine congrArg some ?_
  show ds.any (fun z => PyData.eqv z d) = decide (x ∈ l)
  clear s1 s2 c2 l2
  induction l generalizing ds with
  | nil => rw [P.pys] at e2; cases e2; rfl
  | cons y l ih =>
    rw [P.plains, Bool.and_eq_true] at hl
    rw [P.pys] at e2
    split at e2
    · rename_i dy hdy
      split at e2
      · rename_i ds' hds
        cases e2
        rw [List.any_cons, ih hl.2 _ hds, (eqv_plain 60).1 y x dy d hl.1 hx hdy e1, P.beq_eq]
        by_cases hxy : y = x
        · subst hxy; simp
        · have : x ≠ y := fun e => hxy e.symm
          simp [hxy, this]
      · cases e2
    · cases e2
end Ev.Pl

set_option Elab.async false
set_option linter.all false
set_option maxRecDepth 100000
set_option maxHeartbeats 4000000
set_option exponentiation.threshold 5000
namespace Ev.Pl
open PySem

/-! ### whole numbers, their tuples -/
abbrev N (i : Nat) : P := .int (i : Int)
abbrev nats (l : List Nat) : P := .tup (l.map N)
abbrev rows (m : List (List Nat)) : P := .tup (m.map nats)
abbrev bookP (b : List (List (List Nat))) : P := .tup (b.map rows)
theorem le_big {k : Nat} (h : k ≤ 1000) : k ≤ big := Nat.le_trans h (by unfold big; decide)
theorem N_inj {i j : Nat} (h : N i = N j) : i = j := by
  have := P.int.inj h; omega
theorem mapN_inj {l m : List Nat} (h : l.map N = m.map N) : l = m := by
  induction l generalizing m with
  | nil => cases m with
    | nil => rfl
    | cons b m => cases h
  | cons a l ih => cases m with
    | nil => cases h
    | cons b m =>
      rw [List.map_cons, List.map_cons] at h
      obtain ⟨h1, h2⟩ := List.cons.inj h
      rw [N_inj h1, ih h2]
theorem nats_inj {l m : List Nat} (h : nats l = nats m) : l = m := mapN_inj (P.tup.inj h)
theorem plain_N (n i : Nat) : P.plain n (N i) = true := by cases n <;> rw [P.plain]
theorem plains_N (n : Nat) (l : List Nat) : P.plains n (l.map N) = true := P.plains_iff.mpr fun x h => by
  obtain ⟨i, _, rfl⟩ := List.mem_map.mp h
  exact plain_N n i
theorem plain_nats (n : Nat) (l : List Nat) : P.plain (n + 1) (nats l) = true := by rw [P.plain]; exact plains_N n l
theorem plains_nats (n : Nat) (L : List (List Nat)) : P.plains (n + 1) (L.map nats) = true := P.plains_iff.mpr fun x h => by
  obtain ⟨i, _, rfl⟩ := List.mem_map.mp h
  exact plain_nats n i
theorem mem_N {i : Nat} {l : List Nat} : N i ∈ l.map N ↔ i ∈ l := ⟨fun h => by
  obtain ⟨j, hj, e⟩ := List.mem_map.mp h
  exact N_inj e ▸ hj, fun h => List.mem_map.mpr ⟨i, h, rfl⟩⟩
theorem mem_nats {l : List Nat} {L : List (List Nat)} : nats l ∈ L.map nats ↔ l ∈ L := ⟨fun h => by
  obtain ⟨j, hj, e⟩ := List.mem_map.mp h
  exact nats_inj e ▸ hj, fun h => List.mem_map.mpr ⟨l, h, rfl⟩⟩
@[simp] theorem in_N {i : Nat} {l : List Nat} : inSeq (N i) (l.map N) = some (decide (i ∈ l)) := by
  rw [inSeq_plain (plain_N 60 i) (plains_N 60 l)]
  simp only [mem_N]
@[simp] theorem in_nats {l : List Nat} {L : List (List Nat)} : inSeq (nats l) (L.map nats) = some (decide (l ∈ L)) := by
  rw [inSeq_plain (plain_nats 59 l) (plains_nats 59 L)]
  simp only [mem_nats]
@[simp] theorem peq_nats {l m : List Nat} : peq (nats l) (nats m) = some (decide (l = m)) := by
  rw [peq_plain (plain_nats 59 l) (plain_nats 59 m)]
  refine congrArg some (decide_eq_decide.mpr ⟨nats_inj, fun h => by rw [h]⟩)
/-- is a list of plain things empty? -/
theorem peq_lst_nil {xs : List P} (h : P.plains 59 xs = true) : peq (.lst xs) (.lst []) = some xs.isEmpty := by
  rw [peq_plain (by rw [P.plain]; exact h) (by rw [P.plain]; rfl)]
  cases xs <;> simp
@[simp] theorem peq_N_nil {l : List Nat} : peq (.lst (l.map N)) (.lst []) = some l.isEmpty := by
  rw [peq_lst_nil (plains_N 59 l)]; simp
@[simp] theorem peq_nats_nil {L : List (List Nat)} : peq (.lst (L.map nats)) (.lst []) = some L.isEmpty := by
  rw [peq_lst_nil (plains_nats 58 L)]; simp
@[simp] theorem all_bl {α : Type} {p : α → Bool} : ∀ {l : List α}, allB (l.map fun x => P.bl (p x)) = some (l.all p)
  | [] => rfl
  | x :: l => by rw [List.map_cons, allB, all_bl, List.all_cons]
@[simp] theorem any_bl {α : Type} {p : α → Bool} : ∀ {l : List α}, anyB (l.map fun x => P.bl (p x)) = some (l.any p)
  | [] => rfl
  | x :: l => by rw [List.map_cons, anyB, any_bl, List.any_cons]
@[simp] theorem sum_N : ∀ {l : List Nat}, sumI (l.map N) = some (l.sum : Int)
  | [] => rfl
  | x :: l => by rw [List.map_cons, sumI, sum_N, List.sum_cons]; simp
theorem rng_N (n : Nat) : rngP 0 (n : Int) = (List.range n).map N := by
  unfold rngP
  simp
theorem rngOk_N {n : Nat} (h : n ≤ 1000) : rngOk 0 (n : Int) = true := by
  unfold rngOk big
  simp
  omega
/-- an item by its place -/
theorem at_map {α : Type} {c : α → P} {l : List α} {i : Nat} {x : α} (h : l[i]? = some x) : atP (l.map c) (i : Int) = some (c x) := by
  have hl := (List.getElem?_eq_some_iff.mp h).1
  unfold atP ixN
  rw [if_pos (by omega), if_pos (by rw [List.length_map]; omega)]
  simp [h]
theorem pairs_map {α β : Type} {c : α → P} {d : β → P} : ∀ {l : List α} {m : List β}, pairsP (l.map c) (m.map d) = (l.zip m).map fun q => .tup [c q.1, d q.2]
  | [], m => by simp [pairsP]
  | a :: l, [] => by simp [pairsP]
  | a :: l, b :: m => by simp [pairsP, pairs_map]
theorem cut_tail {l : List P} : cutP l (some 1) none = l.tail := by
  cases l with
  | nil => rfl
  | cons a l =>
    unfold cutP sIx
    simp
/-! ### the operations, by shape -/
section
variable {l m : List P} {i j : Int} {b : Bool} {x y : P}
@[simp] theorem u_len_t : evU .len (.tup l) = some (.int l.length) := rfl
@[simp] theorem u_len_l : evU .len (.lst l) = some (.int l.length) := rfl
@[simp] theorem u_len_d {ks vs : List P} : evU .len (.dct ks vs) = some (.int ks.length) := rfl
@[simp] theorem u_abs : evU .abs (.int i) = some (.int (if i < 0 then -i else i)) := rfl
@[simp] theorem u_int : evU .int (.int i) = some (.int i) := rfl
@[simp] theorem u_neg' : evU .neg (.int i) = some (.int (-i)) := rfl
@[simp] theorem u_tuple_l : evU .tuple (.lst l) = some (.tup l) := rfl
@[simp] theorem u_tuple_t : evU .tuple (.tup l) = some (.tup l) := rfl
@[simp] theorem u_isInt_i : evU .isInt (.int i) = some (.bl true) := rfl
@[simp] theorem u_isInt_b : evU .isInt (.bl b) = some (.bl true) := rfl
@[simp] theorem u_isInt_t : evU .isInt (.tup l) = some (.bl false) := rfl
@[simp] theorem u_isInt_l : evU .isInt (.lst l) = some (.bl false) := rfl
@[simp] theorem u_isInt_n : evU .isInt .non = some (.bl false) := rfl
@[simp] theorem u_isBool_i : evU .isBool (.int i) = some (.bl false) := rfl
@[simp] theorem u_isBool_b : evU .isBool (.bl b) = some (.bl true) := rfl
@[simp] theorem u_isBool_t : evU .isBool (.tup l) = some (.bl false) := rfl
@[simp] theorem u_isBool_l : evU .isBool (.lst l) = some (.bl false) := rfl
@[simp] theorem u_isBool_n : evU .isBool .non = some (.bl false) := rfl
@[simp] theorem u_isTup_i : evU .isTup (.int i) = some (.bl false) := rfl
@[simp] theorem u_isTup_b : evU .isTup (.bl b) = some (.bl false) := rfl
@[simp] theorem u_isTup_t : evU .isTup (.tup l) = some (.bl true) := rfl
@[simp] theorem u_isTup_l : evU .isTup (.lst l) = some (.bl false) := rfl
@[simp] theorem u_isTup_n : evU .isTup .non = some (.bl false) := rfl
@[simp] theorem u_all_b {α : Type} {p : α → Bool} {l : List α} : evU .all (.lst (l.map fun x => P.bl (p x))) = some (.bl (l.all p)) := by
  show (match allB (l.map fun x => P.bl (p x)) with | some b => some (P.bl b) | none => none) = _
  rw [all_bl]
@[simp] theorem u_any_b {α : Type} {p : α → Bool} {l : List α} : evU .any (.lst (l.map fun x => P.bl (p x))) = some (.bl (l.any p)) := by
  show (match anyB (l.map fun x => P.bl (p x)) with | some b => some (P.bl b) | none => none) = _
  rw [any_bl]
@[simp] theorem u_sum_l {l : List Nat} : evU .sum (.lst (l.map N)) = some (N l.sum) := by
  show (match sumI (l.map N) with | some i => some (P.int i) | none => none) = _
  rw [sum_N]
@[simp] theorem u_sum_t {l : List Nat} : evU .sum (.tup (l.map N)) = some (N l.sum) := by
  show (match sumI (l.map N) with | some i => some (P.int i) | none => none) = _
  rw [sum_N]
@[simp] theorem b_add_i : evB .add (.int i) (.int j) = some (.int (i + j)) := rfl
@[simp] theorem b_sub_i : evB .sub (.int i) (.int j) = some (.int (i - j)) := rfl
@[simp] theorem b_idx_t : evB .idx (.tup l) (.int i) = atP l i := rfl
@[simp] theorem b_idx_l : evB .idx (.lst l) (.int i) = atP l i := rfl
theorem b_add_t (h : l.length + m.length ≤ big) : evB .add (.tup l) (.tup m) = some (.tup (l ++ m)) := if_pos (decide_eq_true h)
@[simp] theorem c_lt : evC .lt (.int i) (.int j) = some (decide (i < j)) := rfl
@[simp] theorem c_le : evC .le (.int i) (.int j) = some (decide (i ≤ j)) := rfl
@[simp] theorem c_gt : evC .gt (.int i) (.int j) = some (decide (j < i)) := rfl
@[simp] theorem c_ge : evC .ge (.int i) (.int j) = some (decide (j ≤ i)) := rfl
@[simp] theorem c_eq : evC .eq x y = peq x y := rfl
@[simp] theorem c_ne : evC .ne x y = (match peq x y with | some c => some (!c) | none => none) := rfl
@[simp] theorem c_in_t : evC .isin x (.tup l) = inSeq x l := rfl
@[simp] theorem c_in_l : evC .isin x (.lst l) = inSeq x l := rfl
@[simp] theorem c_nin_t : evC .notin x (.tup l) = (match inSeq x l with | some c => some (!c) | none => none) := rfl
@[simp] theorem c_nin_l : evC .notin x (.lst l) = (match inSeq x l with | some c => some (!c) | none => none) := rfl
@[simp] theorem c_isNone : evC .isNone x .non = some (match x with | .non => true | _ => false) := rfl
@[simp] theorem c_isTrue : evC .isTrue x (.bl true) = some (match x with | .bl true => true | _ => false) := rfl
@[simp] theorem c_isFalse : evC .isFalse x (.bl false) = some (match x with | .bl false => true | _ => false) := rfl
@[simp] theorem c_notFalse : evC .notFalse x (.bl false) = some (match x with | .bl false => false | _ => true) := rfl
@[simp] theorem peq_int : peq (.int i) (.int j) = some (decide (i = j)) := by
  rw [peq_plain (by rw [P.plain]) (by rw [P.plain])]
  simp
end
end Ev.Pl

set_option Elab.async false
set_option linter.all false
set_option maxRecDepth 100000
set_option maxHeartbeats 4000000
set_option exponentiation.threshold 5000
namespace Ev.Pl
open PySem

/-! ### sorted lists of one kind are told by their members -/
theorem sorted_ext {α : Type} {r : α → α → Prop} (asy : ∀ a b, r a b → ¬ r b a) : ∀ {l m : List α}, l.Pairwise r → m.Pairwise r → (∀ x, x ∈ l ↔ x ∈ m) → l = m
  | [], [], _, _, _ => rfl
  | [], b :: m, _, _, h => by have := (h b).mpr List.mem_cons_self; cases this
  | a :: l, [], _, _, h => by have := (h a).mp List.mem_cons_self; cases this
  | a :: l, b :: m, hl, hm, h => by
    rw [List.pairwise_cons] at hl hm
    have irr : ∀ x, ¬ r x x := fun x hx => asy x x hx hx
    have e : a = b := by
      rcases List.mem_cons.mp ((h a).mp List.mem_cons_self) with e | ha
      · exact e
      · rcases List.mem_cons.mp ((h b).mpr List.mem_cons_self) with e | hb
        · exact e.symm
        · exact absurd (hl.1 b hb) (asy b a (hm.1 a ha))
    subst e
    rw [sorted_ext asy hl.2 hm.2 fun x => ⟨fun hx => ?_, fun hx => ?_⟩]
    · rcases List.mem_cons.mp ((h x).mp (List.mem_cons_of_mem _ hx)) with e | hx'
      · subst e; exact absurd (hl.1 x hx) (irr x)
      · exact hx'
    · rcases List.mem_cons.mp ((h x).mpr (List.mem_cons_of_mem _ hx)) with e | hx'
      · subst e; exact absurd (hm.1 x hx) (irr x)
      · exact hx'
theorem nat_ext {l m : List Nat} (hl : l.Pairwise (· < ·)) (hm : m.Pairwise (· < ·)) (h : ∀ x, x ∈ l ↔ x ∈ m) : l = m := sorted_ext (fun a b h1 h2 => by omega) hl hm h
theorem range_filter_sorted {n : Nat} {p : Nat → Bool} : ((List.range n).filter p).Pairwise (· < ·) := List.Pairwise.filter p List.pairwise_lt_range
/-! ### sorted() of whole numbers -/
def sortN (l : List Nat) : List Nat := l.mergeSort fun a b => decide (a ≤ b)
theorem sort_map {α : Type} {t : Ty} {c : α → P} {le : α → α → Bool} (h : ∀ a b, (!P.ltb (c b) (c a)) = le a b) (l : List α) (ht : P.hasAll t (l.map c) = true) : sortP (l.map c) = (l.mergeSort le).map c := by
  rw [sortP_merge ht, ← List.map_mergeSort (f := c) (r := le) (s := fun a b => !P.ltb b a) fun a _ b _ => (h a b).symm]
theorem ltb_N {i j : Nat} : P.ltb (N i) (N j) = decide (i < j) := by
  rw [P.ltb]; exact decide_eq_decide.mpr (by omega)
theorem hasAll_N : ∀ {l : List Nat}, P.hasAll .int (l.map N) = true
  | [] => by rw [List.map_nil, P.hasAll]
  | a :: l => by rw [List.map_cons, P.hasAll, P.has, hasAll_N]; rfl
theorem sortP_N (l : List Nat) : sortP (l.map N) = (sortN l).map N := sort_map (fun a b => by
  rw [ltb_N]
  by_cases h : a ≤ b
  · simp [h]
  · simp [h]; omega) l hasAll_N
theorem sortN_pw {l : List Nat} (nd : l.Nodup) : (sortN l).Pairwise (· < ·) := by
  have p : (sortN l).Pairwise fun a b => decide (a ≤ b) = true := List.pairwise_mergeSort (fun a b c h1 h2 => by simp at *; omega) (fun a b => by simp; omega) l
  have nd2 : (sortN l).Nodup := (List.mergeSort_perm l _).nodup_iff.mpr nd
  refine (List.Pairwise.and p nd2).imp fun {a b} h => ?_
  have h1 : a ≤ b := by simpa using h.1
  have h2 : a ≠ b := h.2
  omega
theorem mem_sortN {l : List Nat} {x : Nat} : x ∈ sortN l ↔ x ∈ l := (List.mergeSort_perm l _).mem_iff
theorem sortN_eq {l m : List Nat} (nd : l.Nodup) (hm : m.Pairwise (· < ·)) (h : ∀ x, x ∈ l ↔ x ∈ m) : sortN l = m := nat_ext (sortN_pw nd) hm fun x => mem_sortN.trans (h x)
@[simp] theorem srt_int : srtOk .int = true := by unfold srtOk Ty.deep; rfl
/-! ### dicts whose keys are whole numbers, whose values are one -/
def insK (ks : List Nat) (k : Nat) : List Nat := if k ∈ ks then ks else ks ++ [k]
theorem mem_insK {ks : List Nat} {k x : Nat} : x ∈ insK ks k ↔ x ∈ ks ∨ x = k := by
  unfold insK
  split
  · rename_i h
    exact ⟨.inl, fun z => z.elim id fun e => by rw [e]; exact h⟩
  · simp
theorem nodup_insK {ks : List Nat} {k : Nat} (h : ks.Nodup) : (insK ks k).Nodup := by
  unfold insK
  split
  · exact h
  · rename_i hk
    rw [List.nodup_append]
    exact ⟨h, by simp, fun a ha b hb e => hk (by simp at hb; rw [← hb, ← e]; exact ha)⟩
theorem putK_N {k : Nat} : ∀ {ks : List Nat}, dputK (ks.map N) (N k) = (insK ks k).map N
  | [] => rfl
  | j :: ks => by
    rw [List.map_cons, dputK, P.beq_eq, putK_N]
    by_cases h : j = k
    · subst h
      simp [insK]
    · have h2 : ¬ N j = N k := fun e => h (N_inj e)
      have h3 : ¬ k = j := fun e => h e.symm
      rw [if_neg (by simp; omega)]
      unfold insK
      by_cases hk : k ∈ ks
      · rw [if_pos hk, if_pos (List.mem_cons_of_mem _ hk)]; rfl
      · rw [if_neg hk, if_neg (by simp [h3, hk])]; simp
theorem putV_N {k : Nat} {y : P} : ∀ {ks : List Nat}, dputV (ks.map N) (ks.map fun _ => y) (N k) y = (insK ks k).map fun _ => y
  | [] => rfl
  | j :: ks => by
    rw [List.map_cons, List.map_cons, dputV, P.beq_eq, putV_N]
    by_cases h : j = k
    · subst h
      simp [insK]
    · have h3 : ¬ k = j := fun e => h e.symm
      rw [if_neg (by simp; omega)]
      unfold insK
      by_cases hk : k ∈ ks
      · rw [if_pos hk, if_pos (List.mem_cons_of_mem _ hk)]; rfl
      · rw [if_neg hk, if_neg (by simp [h3, hk])]; simp
theorem keyOk_N {k : Nat} : ∀ {ks : List Nat}, keyOk (ks.map N) (N k) = true
  | [] => by unfold keyOk; simp [sameKind, P.isKey]
  | j :: ks => by unfold keyOk; simp [sameKind, P.isKey]
def insAll (ks l : List Nat) : List Nat := l.foldl insK ks
theorem mem_insAll {x : Nat} : ∀ {l ks : List Nat}, x ∈ insAll ks l ↔ x ∈ ks ∨ x ∈ l
  | [], ks => by simp [insAll]
  | a :: l, ks => by
    show x ∈ insAll (insK ks a) l ↔ _
    rw [mem_insAll, mem_insK, List.mem_cons, or_assoc]
theorem nodup_insAll : ∀ {l ks : List Nat}, ks.Nodup → (insAll ks l).Nodup
  | [], ks, h => h
  | a :: l, ks, h => nodup_insAll (l := l) (nodup_insK h)
theorem insAll_append {ks l m : List Nat} : insAll ks (l ++ m) = insAll (insAll ks l) m := List.foldl_append
theorem few_nodup {l : List Nat} {n : Nat} (nd : l.Nodup) (h : ∀ x ∈ l, x < n) : l.length ≤ n := by
  have e : sortN l = (List.range n).filter fun x => decide (x ∈ l) := sortN_eq nd range_filter_sorted fun x => by
    simp
    exact h x
  have l1 : (sortN l).length = l.length := (List.mergeSort_perm l _).length_eq
  have l2 := List.length_filter_le (fun x => decide (x ∈ l)) (List.range n)
  rw [← e, List.length_range] at l2
  omega
/-- a dict made by turns, each of which puts keys -/
theorem dictGo_N {α : Type} {n : Nat} (hn : n ≤ 1000) {y : P} {f : P → List P → List P → St → R (List P × List P)} {c : α → P} {g : α → List Nat} {s : St} : ∀ {l : List α} {ks : List Nat},
    (∀ x ∈ l, ∀ k ∈ g x, k < n) → (∀ x ∈ l, ∀ ks : List Nat, ks.Nodup → (∀ k ∈ ks, k < n) → f (c x) (ks.map N) (ks.map fun _ => y) s = .ok ((insAll ks (g x)).map N, (insAll ks (g x)).map fun _ => y) s) → ks.Nodup → (∀ k ∈ ks, k < n) →
    dictGo f (l.map c) (ks.map N) (ks.map fun _ => y) s = .ok ((insAll ks (l.flatMap g)).map N, (insAll ks (l.flatMap g)).map fun _ => y) s
  | [], ks, _, _, _, _ => rfl
  | x :: l, ks, hg, hf, nd, hk => by
    rw [List.map_cons, dictGo, hf x List.mem_cons_self ks nd hk, R.bind_ok', List.flatMap_cons, insAll_append]
    refine dictGo_N hn (fun x' m => hg x' (List.mem_cons_of_mem _ m)) (fun x' m => hf x' (List.mem_cons_of_mem _ m)) (nodup_insAll nd) fun k m => ?_
    rcases mem_insAll.mp m with m | m
    · exact hk k m
    · exact hg x List.mem_cons_self k m
end Ev.Pl

set_option Elab.async false
set_option linter.all false
set_option maxRecDepth 100000
set_option maxHeartbeats 4000000
set_option exponentiation.threshold 5000
namespace Ev.Pl
open PySem

/-! ### the evaluator by rules -/
section
variable {cf : Nat → List D → St → R D} {k0 : Nat} {r r1 : En} {s s1 s2 s3 : St} {e e1 e2 : E} {x y z : P} {d : D} {xs : List P}
theorem ev_var {i : Nat} (h : r[i]? = some (some d)) : evE cf (.var i) r s = .ok d s := by rw [evE, h]
theorem ev_lit : evE cf (.lit x) r s = .ok (.p x) s := by rw [evE]
theorem ev_gc {nm : Str} : evE cf (.gc x nm) r s = .ok (.p x) s := by rw [evE]
theorem ev_un {u : U} (h : evE cf e r s = .ok (.p x) s1) (hu : evU u x = some y) : evE cf (.un u e) r s = .ok (.p y) s1 := by
  rw [evE, h, R.bind_ok', show view s1 (.p x) = some x from rfl]; dsimp only; rw [hu]
theorem ev_bin {o : B} (h1 : evE cf e1 r s = .ok (.p x) s1) (h2 : evE cf e2 r s1 = .ok (.p y) s2) (ho : evB o x y = some z) : evE cf (.bin o e1 e2) r s = .ok (.p z) s2 := by
  rw [evE, h1, R.bind_ok', h2, R.bind_ok', show view s2 (.p x) = some x from rfl, show view s2 (.p y) = some y from rfl]; dsimp only; rw [ho]
theorem ev_cmp {c : C} {b : Bool} (h1 : evE cf e1 r s = .ok (.p x) s1) (h2 : evE cf e2 r s1 = .ok (.p y) s2) (ho : evC c x y = some b) : evT cf (.cmp c e1 e2) r s = .ok b s2 := by
  rw [evT, h1, R.bind_ok', h2, R.bind_ok', show view s2 (.p x) = some x from rfl, show view s2 (.p y) = some y from rfl]; dsimp only; rw [ho]
theorem ev_tv {t : T} {b : Bool} (h : evT cf t r s = .ok b s1) : evE cf (.tv t) r s = .ok (.p (.bl b)) s1 := by rw [evE, h, R.bind_ok']
theorem ev_tru {b : Bool} (h : evE cf e r s = .ok (.p (.bl b)) s1) : evT cf (.tru e) r s = .ok b s1 := by rw [evT, h, R.bind_ok']
theorem ev_not {t : T} {b : Bool} (h : evT cf t r s = .ok b s1) : evT cf (.not t) r s = .ok (!b) s1 := by rw [evT, h, R.bind_ok']
theorem ev_and {t u : T} {b c : Bool} (h : evT cf t r s = .ok b s) (h2 : b = true → evT cf u r s = .ok c s) : evT cf (.and t u) r s = .ok (b && c) s := by
  rw [evT, h, R.bind_ok']
  cases b
  · rfl
  · rw [if_pos rfl, h2 rfl]; rfl
theorem ev_or {t u : T} {b c : Bool} (h : evT cf t r s = .ok b s) (h2 : b = false → evT cf u r s = .ok c s) : evT cf (.or t u) r s = .ok (b || c) s := by
  rw [evT, h, R.bind_ok']
  cases b
  · rw [if_neg (by simp), h2 rfl]; rfl
  · rfl
theorem ev_ifT {t : T} (h : evT cf t r s = .ok true s1) (h2 : evE cf e1 r s1 = .ok d s2) : evE cf (.ife t e1 e2) r s = .ok d s2 := by rw [evE, h, R.bind_ok', if_pos rfl, h2]
theorem ev_ifF {t : T} (h : evT cf t r s = .ok false s1) (h2 : evE cf e2 r s1 = .ok d s2) : evE cf (.ife t e1 e2) r s = .ok d s2 := by rw [evE, h, R.bind_ok', if_neg (by simp), h2]
theorem ev_frz {l : L} (h : evL cf l r s = .ok xs s1) : evE cf (.frz l) r s = .ok (.p (.lst xs)) s1 := by rw [evE, h, R.bind_ok']
theorem ev_frzM {m : M} {ks vs : List P} (h : evM cf m r s = .ok (ks, vs) s1) : evE cf (.frzM m) r s = .ok (.p (.dct ks vs)) s1 := by rw [evE, h, R.bind_ok']
theorem ev_nil : evEs cf .nil r s = .ok [] s := by rw [evEs]
theorem ev_cons {es : Es} {ds : List D} (h : evE cf e r s = .ok d s1) (h2 : evEs cf es r s1 = .ok ds s2) : evEs cf (.cons e es) r s = .ok (d :: ds) s2 := by rw [evEs, h, R.bind_ok', h2, R.bind_ok']
theorem ev_call {g : Nat} {es : Es} {ds : List D} (h : evEs cf es r s = .ok ds s1) (hc : cf g ds s1 = .ok d s2) : evE cf (.call g es) r s = .ok d s2 := by rw [evE, h, R.bind_ok', hc]
/-- plain arguments -/
theorem ev_pars {es : Es} {ds : List D} (h : evEs cf es r s = .ok ds s1) (hp : perss ds = some xs) : evE cf (.tup es) r s = .ok (.p (.tup xs)) s1 := by rw [evE, h, R.bind_ok', hp]
theorem ev_disp {es : Es} {ds : List D} (h : evEs cf es r s = .ok ds s1) (hp : perss ds = some xs) : evL cf (.disp es) r s = .ok xs s1 := by rw [evL, h, R.bind_ok', hp]
theorem ev_yes : evTo cf .yes r s = .ok true s := by rw [evTo]
theorem ev_if1 {t : T} {b : Bool} (h : evT cf t r s = .ok b s1) : evTo cf (.if1 t) r s = .ok b s1 := by rw [evTo, h]
theorem ev_ex (h : evE cf e r s = .ok (.p x) s1) (hi : itemsOf x = some xs) : evI cf (.ex e) r s = .ok xs s1 := by
  rw [evI, h, R.bind_ok']; dsimp only; rw [hi]
theorem ev_rng {n : Nat} (h : evE cf e r s = .ok (.p (N n)) s1) (hn : n ≤ 1000) : evI cf (.rng1 e) r s = .ok ((List.range n).map N) s1 := by
  rw [evI, h, R.bind_ok', ← rng_N]
  exact if_pos (rngOk_N hn)
theorem ev_zip {l m : List P} (h1 : evE cf e1 r s = .ok (.p (.tup l)) s1) (h2 : evE cf e2 r s1 = .ok (.p (.tup m)) s2) : evI cf (.zip e1 e2) r s = .ok (pairsP l m) s2 := by rw [evI, h1, R.bind_ok', h2, R.bind_ok']
/-- a list made in turns -/
theorem ev_comp {α : Type} {vs : List Nat} {tg : G} {it : I} {ifs : To} {c : α → P} {p : α → Bool} {f : α → P} {l : List α} (hI : evI cf it r s = .ok (l.map c) s1)
    (hx : ∀ x ∈ l, ∃ r1, asgG tg (c x) (wipeE r vs) = some r1 ∧ evTo cf ifs r1 s1 = .ok (p x) s1 ∧ (p x = true → evE cf e r1 s1 = .ok (.p (f x)) s1)) (hl : l.length ≤ 1000) : evL cf (.comp vs tg it ifs e) r s = .ok ((l.filter p).map f) s1 := by
  have hb : ((l.filter p).map f).length ≤ big := by
    rw [List.length_map]
    exact le_big (Nat.le_trans (List.length_filter_le p l) hl)
  rw [evL, hI, R.bind_ok', compGo_map (p := p) (e := f), R.bind_ok']
  · rw [decide_eq_true hb, if_pos rfl]
  · intro x hm
    obtain ⟨r1, a1, a2, a3⟩ := hx x hm
    rw [a1]
    dsimp only
    rw [a2, R.noexc_ok, R.bind_ok']
    cases hp : p x
    · rfl
    · rw [if_pos rfl, a3 hp, R.noexc_ok, R.bind_ok']; rfl
/-- .. all of them -/
theorem ev_compA {α : Type} {vs : List Nat} {tg : G} {it : I} {c : α → P} {f : α → P} {l : List α} (hI : evI cf it r s = .ok (l.map c) s1)
    (hx : ∀ x ∈ l, ∃ r1, asgG tg (c x) (wipeE r vs) = some r1 ∧ evE cf e r1 s1 = .ok (.p (f x)) s1) (hl : l.length ≤ 1000) : evL cf (.comp vs tg it .yes e) r s = .ok (l.map f) s1 := by
  rw [ev_comp (p := fun _ => true) (f := f) hI (fun x m => let ⟨r1, a1, a2⟩ := hx x m; ⟨r1, a1, ev_yes, fun _ => a2⟩) hl, List.filter_eq_self.mpr fun _ _ => rfl]
/-! statements -/
theorem st_nil : evSs cf k0 .nil r s = .ok (.next r) s := by rw [evSs]
theorem st_ret {b : Ss} (h : evE cf e r s = .ok d s1) : evSs cf k0 (.cons (.ret e) b) r s = .ok (.ret d) s1 := by rw [evSs, evS, h, R.bind_ok', R.bind_ok']
theorem st_asg {b : Ss} {i : Nat} {res : R Fl} (h : evE cf e r s = .ok d s1) (hi : i < r.length) (h2 : evSs cf k0 b (r.set i (some d)) s1 = res) : evSs cf k0 (.cons (.asg i e) b) r s = res := by
  rw [evSs, evS, h, R.bind_ok', if_pos hi, R.bind_ok']; exact h2
theorem st_ex {b : Ss} {res : R Fl} (h : evE cf e r s = .ok d s1) (h2 : evSs cf k0 b r s1 = res) : evSs cf k0 (.cons (.ex e) b) r s = res := by
  rw [evSs, evS, h, R.bind_ok', R.bind_ok']; exact h2
theorem st_ifF {b : Ss} {t : T} {u v : Ss} {res : R Fl} (h : evT cf t r s = .ok false s1) (h2 : evSs cf k0 v r s1 = .ok (.next r1) s2) (h3 : evSs cf k0 b r1 s2 = res) : evSs cf k0 (.cons (.ife t u v) b) r s = res := by
  rw [evSs, evS, h, R.bind_ok', if_neg (by simp), h2, R.bind_ok']; exact h3
theorem st_ifT {b : Ss} {t : T} {u v : Ss} (h : evT cf t r s = .ok true s1) (h2 : evSs cf k0 u r s1 = .ok (.ret d) s2) : evSs cf k0 (.cons (.ife t u v) b) r s = .ok (.ret d) s2 := by
  rw [evSs, evS, h, R.bind_ok', if_pos rfl, h2, R.bind_ok']
/-- an if without an else, its test false -/
theorem st_if0 {b : Ss} {t : T} {u : Ss} {res : R Fl} (h : evT cf t r s = .ok false s1) (h3 : evSs cf k0 b r s1 = res) : evSs cf k0 (.cons (.ife t u .nil) b) r s = res := st_ifF h st_nil h3
/-- a def that answers a plain value, the store as it was -/
theorem fn_pure {Tb : List Fn} {n g : Nat} {as : List D} {f : Fn} (h : Tb[g]? = some f) (hl : as.length = f.np) (hb : evSs (callN Tb n) s.length f.body (enter f as) s = .ok (.ret (.p x)) s) : callN Tb (n + 1) g as s = .ok (.p x) s := by
  rw [callN_at h hl, hb, leave_ret]
end
end Ev.Pl

set_option Elab.async false
set_option linter.all false
set_option maxRecDepth 100000
set_option maxHeartbeats 4000000
set_option exponentiation.threshold 5000
namespace Ev.Pl
open PySem

/-! ### rules for dicts, sorted lists -/
section
variable {cf : Nat → List D → St → R D} {k0 : Nat} {r r1 : En} {s s1 s2 s3 : St} {e e1 e2 : E} {x y z : P} {d : D} {xs : List P}
theorem few_ok {n : Nat} (hn : n ≤ 1000) {ks : List Nat} (nd : ks.Nodup) (h : ∀ k ∈ ks, k < n) : ks.length < big := by
  have := few_nodup nd h
  have := le_big (k := 1000) (Nat.le_refl _)
  exact Nat.lt_of_lt_of_le (m := 1001) (by omega) (Nat.le_trans (show 1001 ≤ 1001 from Nat.le_refl _) (by unfold big; decide))
theorem flat_one {α β : Type} (f : α → β) : ∀ l : List α, l.map f = l.flatMap fun x => [f x]
  | [] => rfl
  | a :: l => by rw [List.map_cons, List.flatMap_cons, flat_one f l]; rfl
theorem turn_N {n : Nat} (hn : n ≤ 1000) {ks : List Nat} {k : Nat} (nd : ks.Nodup) (h : ∀ k ∈ ks, k < n) {s5 : St} : (if keyOk (ks.map N) (N k) && decide ((ks.map N).length < big) then R.ok (dputK (ks.map N) (N k), dputV (ks.map N) (ks.map fun _ => y) (N k) y) s5 else .bad) = .ok ((insAll ks [k]).map N, (insAll ks [k]).map fun _ => y) s5 := by
  rw [keyOk_N, List.length_map, decide_eq_true (few_ok hn nd h), putK_N, putV_N]; rfl
theorem ev_compM {α : Type} {n : Nat} (hn : n ≤ 1000) {vs : List Nat} {tg : G} {it : I} {c : α → P} {f : α → Nat} {l : List α} (hI : evI cf it r s = .ok (l.map c) s1)
    (hx : ∀ x ∈ l, ∃ r1, asgG tg (c x) (wipeE r vs) = some r1 ∧ f x < n ∧ evE cf e1 r1 s1 = .ok (.p (N (f x))) s1 ∧ evE cf e2 r1 s1 = .ok (.p y) s1) :
    evM cf (.comp vs tg it .yes e1 e2) r s = .ok ((insAll [] (l.map f)).map N, (insAll [] (l.map f)).map fun _ => y) s1 := by
  rw [evM, hI, R.bind_ok']
  have e : l.map f = l.flatMap fun x => [f x] := flat_one f l
  rw [e]
  refine dictGo_N (ks := []) hn (fun x m k hk => ?_) (fun x m ks nd hk => ?_) .nil (fun k m => by cases m)
  · obtain ⟨_, _, h, _⟩ := hx x m
    rw [List.mem_singleton.mp hk]; exact h
  · obtain ⟨r1, a1, a2, a3, a4⟩ := hx x m
    rw [a1]
    dsimp only
    rw [ev_yes, R.noexc_ok, R.bind_ok', if_pos rfl, a3, R.noexc_ok, R.bind_ok', a4, R.noexc_ok, R.bind_ok']
    exact turn_N hn nd hk
theorem ev_comp2M {α : Type} {n : Nat} (hn : n ≤ 1000) {vs vs1 : List Nat} {tg tg1 : G} {it it1 : I} {c : α → P} {g : α → List Nat} {l : List α} (hI : evI cf it r s = .ok (l.map c) s1)
    (hx : ∀ x ∈ l, ∃ r1, asgG tg (c x) (wipeE r vs) = some r1 ∧ evI cf it1 r1 s1 = .ok ((g x).map N) s1 ∧ ∀ k ∈ g x, k < n ∧ ∃ r2, asgG tg1 (N k) (wipeE r1 vs1) = some r2 ∧ evE cf e1 r2 s1 = .ok (.p (N k)) s1 ∧ evE cf e2 r2 s1 = .ok (.p y) s1) :
    evM cf (.comp2 vs tg it .yes vs1 tg1 it1 .yes e1 e2) r s = .ok ((insAll [] (l.flatMap g)).map N, (insAll [] (l.flatMap g)).map fun _ => y) s1 := by
  rw [evM, hI, R.bind_ok']
  refine dictGo_N (ks := []) hn (fun x m k hk => ?_) (fun x m ks nd hk => ?_) .nil (fun k m => by cases m)
  · obtain ⟨_, _, _, h⟩ := hx x m
    exact (h k hk).1
  · obtain ⟨r1, a1, a2, a3⟩ := hx x m
    rw [a1]
    dsimp only
    rw [ev_yes, R.noexc_ok, R.bind_ok', if_pos rfl, a2, R.noexc_ok, R.bind_ok']
    have e : g x = (g x).flatMap fun k => [k] := by rw [← flat_one (fun k => k), List.map_id']
    conv => rhs; rw [e]
    refine dictGo_N hn (fun k m j hj => ?_) (fun k m ks' nd' hk' => ?_) nd hk
    · rw [List.mem_singleton.mp hj]; exact (a3 k m).1
    · obtain ⟨_, r2, b1, b2, b3⟩ := a3 k m
      rw [b1]
      dsimp only
      rw [ev_yes, R.noexc_ok, R.bind_ok', if_pos rfl, b2, R.noexc_ok, R.bind_ok', b3, R.noexc_ok, R.bind_ok']
      exact turn_N hn nd' hk'
theorem ev_sortD {ks : List Nat} {vs : List P} (h : evE cf e r s = .ok (.p (.dct (ks.map N) vs)) s1) : evL cf (.sorted .int e) r s = .ok ((sortN ks).map N) s1 := by
  rw [evL, h, R.bind_ok', show view s1 (.p (.dct (ks.map N) vs)) = some (.dct (ks.map N) vs) from rfl]
  dsimp only
  rw [hasAll_N, srt_int, sortP_N]; rfl
end
end Ev.Pl

set_option Elab.async false
set_option linter.all false
set_option maxRecDepth 100000
set_option maxHeartbeats 4000000
set_option exponentiation.threshold 5000
namespace Ev.Pl
open PySem

theorem forGo_steps {α : Type} {f : P → En → St → R Fl} {c : α → P} {rr : Nat → En} {s : St} : ∀ {l : List α} {i : Nat}, (∀ j x, l[j]? = some x → f (c x) (rr (i + j)) s = .ok (.next (rr (i + j + 1))) s) → forGo f (l.map c) (rr i) s = .ok (.next (rr (i + l.length))) s
  | [], i, _ => rfl
  | x :: l, i, h => by
    have h0 : f (c x) (rr i) s = .ok (.next (rr (i + 1))) s := h 0 x rfl
    rw [List.map_cons, forGo, h0, R.bind_ok']
    have ih := forGo_steps (f := f) (c := c) (rr := rr) (s := s) (l := l) (i := i + 1) fun j y hj => by
      have := h (j + 1) y (by simpa using hj)
      rw [show i + 1 + j = i + (j + 1) by omega]
      exact this
    rw [List.length_cons, show i + (l.length + 1) = i + 1 + l.length by omega]
    exact ih
def forBody (cf : Nat → List D → St → R D) (k0 : Nat) (g : G) (u : Ss) : P → En → St → R Fl := fun x r1 s2 => match asgG g x r1 with
  | some r2 => evSs cf k0 u r2 s2
  | none => .bad
theorem forBody_at {cf : Nat → List D → St → R D} {k0 : Nat} {g : G} {u : Ss} {x : P} {r1 r2 : En} {s : St} {res : R Fl} (h : asgG g x r1 = some r2) (h2 : evSs cf k0 u r2 s = res) : forBody cf k0 g u x r1 s = res := by
  unfold forBody
  rw [h]; exact h2
theorem fo_eq {cf : Nat → List D → St → R D} {k0 : Nat} {r : En} {s s1 : St} {g : G} {it : I} {u : Ss} {xs : List P} (hI : evI cf it r s = .ok xs s1) : evS cf k0 (.fo g it u) r s = forGo (forBody cf k0 g u) xs r s1 := by
  rw [evS, hI, R.bind_ok']; rfl
theorem st_for {cf : Nat → List D → St → R D} {k0 : Nat} {r r1 : En} {s s1 s2 : St} {g : G} {it : I} {u b : Ss} {xs : List P} {res : R Fl} (hI : evI cf it r s = .ok xs s1)
    (h : forGo (forBody cf k0 g u) xs r s1 = .ok (.next r1) s2) (h2 : evSs cf k0 b r1 s2 = res) : evSs cf k0 (.cons (.fo g it u) b) r s = res := by
  rw [evSs, fo_eq hI, h, R.bind_ok']; exact h2
theorem ev_cat {cf : Nat → List D → St → R D} {r : En} {s s1 s2 : St} {e1 e2 : E} {l m : List P} (h1 : evE cf e1 r s = .ok (.p (.lst l)) s1) (h2 : evE cf e2 r s1 = .ok (.p (.lst m)) s2) (hb : l.length + m.length ≤ 1000) : evL cf (.cat e1 e2) r s = .ok (l ++ m) s2 := by
  rw [evL, h1, R.bind_ok', h2, R.bind_ok']
  exact if_pos (decide_eq_true (le_big hb))
theorem forGo_search {α : Type} {f : P → En → St → R Fl} {c : α → P} {p : α → Bool} {d : D} {s : St} {I : En → Prop} : ∀ {l : List α} {r : En}, I r → (∀ x ∈ l, ∀ r, I r → (p x = true → ∃ r', f (c x) r s = .ok (.next r') s ∧ I r') ∧ (p x = false → f (c x) r s = .ok (.ret d) s)) →
    (l.all p = true → ∃ r', forGo f (l.map c) r s = .ok (.next r') s ∧ I r') ∧ (l.all p = false → forGo f (l.map c) r s = .ok (.ret d) s)
  | [], r, h, _ => ⟨fun _ => ⟨r, rfl, h⟩, fun z => by cases z⟩
  | x :: l, r, h, hx => by
    obtain ⟨h1, h2⟩ := hx x List.mem_cons_self r h
    rw [List.all_cons, List.map_cons, forGo]
    cases e : p x with
    | false =>
      rw [h2 e, R.bind_ok']
      exact ⟨fun z => by simp at z, fun _ => rfl⟩
    | true =>
      obtain ⟨r', e1, i1⟩ := h1 e
      rw [e1, R.bind_ok', Bool.true_and]
      exact forGo_search i1 fun y hy => hx y (List.mem_cons_of_mem _ hy)
theorem st_forR {cf : Nat → List D → St → R D} {k0 : Nat} {r : En} {s s1 s2 : St} {g : G} {it : I} {u b : Ss} {xs : List P} {d : D} (hI : evI cf it r s = .ok xs s1)
    (h : forGo (forBody cf k0 g u) xs r s1 = .ok (.ret d) s2) : evSs cf k0 (.cons (.fo g it u) b) r s = .ok (.ret d) s2 := by
  rw [evSs, fo_eq hI, h, R.bind_ok']
theorem st_whl {cf : Nat → List D → St → R D} {k0 : Nat} {r r1 : En} {s s1 : St} {m : Mz} {t : T} {u b : Ss} {res : R Fl} (h : whlGo (fun r1 s1 => evT cf t r1 s1) (fun r1 s1 => evSs cf k0 u r1 s1) (mzOf r m) r s = .ok (.next r1) s1) (h2 : evSs cf k0 b r1 s1 = res) : evSs cf k0 (.cons (.whl m t u) b) r s = res := by
  rw [evSs, evS, h, R.bind_ok']; exact h2
section
variable {cf : Nat → List D → St → R D} {k0 : Nat} {r r1 : En} {s s1 s2 s3 : St} {e e1 e2 : E} {x y z : P} {d d' : D} {xs : List P}
theorem ev_binV {o : B} (h1 : evE cf e1 r s = .ok d s1) (h2 : evE cf e2 r s1 = .ok d' s2) (v1 : view s2 d = some x) (v2 : view s2 d' = some y) (ho : evB o x y = some z) : evE cf (.bin o e1 e2) r s = .ok (.p z) s2 := by
  rw [evE, h1, R.bind_ok', h2, R.bind_ok', v1, v2]; dsimp only; rw [ho]
theorem st_put {b : Ss} {i n : Nat} {ek ev : E} {l : List P} {j : Int} {q : Nat} {res : R Fl} (hv : evE cf ev r s = .ok (.p x) s1) (hi : r[i]? = some (some (.obj n))) (hk : evE cf ek r s1 = .ok (.p (.int j)) s2) (hs : s2[n]? = some (.lst l)) (hj : ixN l.length j = some q)
    (h2 : evSs cf k0 b r (s2.set n (.lst (l.set q x))) = res) : evSs cf k0 (.cons (.put i ek ev) b) r s = res := by
  rw [evSs, evS, hv, R.bind_ok', hi]
  dsimp only
  rw [hk, R.bind_ok', hs]
  dsimp only
  rw [hj]
  exact h2
theorem ev_mx {mn : Bool} {t : Ty} {l : List P} (h : evE cf e r s = .ok (.p (.lst (x :: l))) s1) (h1 : P.hasAll t (x :: l) = true) (h2 : srtOk t = true) : evE cf (.mx mn t e) r s = .ok (.p (firstMin mn x l)) s1 := by
  rw [evE, h, R.bind_ok', show view s1 (.p (.lst (x :: l))) = some (.lst (x :: l)) from rfl]
  dsimp only
  rw [h1, h2]; rfl
theorem st_par {b : Ss} {is : List Nat} {es : Es} {ds : List D} {res : R Fl} (h : evEs cf es r s = .ok ds s1) (hi : setAll is ds r = some r1) (h2 : evSs cf k0 b r1 s1 = res) : evSs cf k0 (.cons (.par is es) b) r s = res := by
  rw [evSs, evS, h, R.bind_ok', hi]; exact h2
theorem ev_rep3 {e k : E} (h : evE cf e r s = .ok (.p (.lst [x])) s1) (h2 : evE cf k r s1 = .ok (.p (.int 3)) s2) : evL cf (.rep e k) r s = .ok [x, x, x] s2 := by
  rw [evL, h, R.bind_ok', h2, R.bind_ok', show view s2 (.p (.lst [x])) = some (.lst [x]) from rfl]; rfl
theorem ev_slc1 {l : List P} (h : evE cf e r s = .ok (.p (.lst (x :: l))) s1) : evL cf (.slc e .none (.some (.lit (.int 1)))) r s = .ok [x] s1 := by
  rw [evL, h, R.bind_ok', evO, R.bind_ok', evO, ev_lit, R.bind_ok']
  dsimp only
  rw [R.bind_ok', show view s1 (.p (.lst (x :: l))) = some (.lst (x :: l)) from rfl]
  dsimp only
  have : cutP (x :: l) none (some 1) = [x] := by
    unfold cutP sIx
    simp
  rw [this]
theorem ev_new {l : L} (h : evL cf l r s = .ok xs s1) : evE cf (.new l) r s = .ok (.obj s1.length) (s1 ++ [.lst xs]) := by rw [evE, h, R.bind_ok']
theorem st_step {a : S} {b : Ss} {res : R Fl} (h : evS cf k0 a r s = .ok (.next r1) s1) (h2 : evSs cf k0 b r1 s1 = res) : evSs cf k0 (.cons a b) r s = res := by
  rw [evSs, h, R.bind_ok']; exact h2
theorem ev_ofE {l : List P} (h : evE cf e r s = .ok (.p (.lst l)) s1) : evL cf (.ofE e) r s = .ok l s1 := by
  rw [evL, h, R.bind_ok', show view s1 (.p (.lst l)) = some (.lst l) from rfl]
end
/-- the cup's store -/
def cupSt (a b : Nat) : St := [.lst [N a, N b]]
theorem cup_at {cf : Nat → List D → St → R D} {a b : Nat} {r : En} (h : r[0]? = some (some (.obj 0))) : evE cf (.bin .idx (.var 0) (.lit (.int 0))) r (cupSt a b) = .ok (.p (N a)) (cupSt a b) := ev_binV (ev_var h) ev_lit rfl rfl rfl
theorem cup_at1 {cf : Nat → List D → St → R D} {a b : Nat} {r : En} (h : r[0]? = some (some (.obj 0))) : evE cf (.bin .idx (.var 0) (.lit (.int 1))) r (cupSt a b) = .ok (.p (N b)) (cupSt a b) := ev_binV (ev_var h) ev_lit rfl rfl rfl
theorem b_mod {i j : Nat} (h : 0 < j) : evB .mod (N i) (N j) = some (N (i % j)) := by
  have : evB .mod (N i) (N j) = some (.int ((i : Int) % (j : Int))) := if_pos (decide_eq_true (by omega))
  rw [this, ← Int.natCast_emod]
theorem b_fdiv {i j : Nat} (h : 0 < j) (h2 : j < 2 ^ 64) : evB .fdiv (N i) (N j) = some (N (i / j)) := by
  have hd : divOk (j : Int) = true := by
    unfold divOk
    rw [Bool.and_eq_true, decide_eq_true_eq, decide_eq_true_eq]
    exact ⟨by omega, Nat.lt_of_lt_of_le (m := 2 ^ 64) (by omega) (Nat.pow_le_pow_right (by omega) (by omega))⟩
  have : evB .fdiv (N i) (N j) = some (.int ((i : Int) / (j : Int))) := if_pos hd
  rw [this, ← Int.natCast_ediv]
theorem b_mul {i j : Nat} (h : i < 2 ^ 64 ∨ j < 2 ^ 64) : evB .mul (N i) (N j) = some (N (i * j)) := by
  have hm : mulOk (i : Int) (j : Int) = true := by
    unfold mulOk
    rcases h with h | h
    · simp [show i < 18446744073709551616 from h]
    · simp [show j < 18446744073709551616 from h]
  have : evB .mul (N i) (N j) = some (.int ((i : Int) * (j : Int))) := if_pos hm
  rw [this, ← Int.natCast_mul]
theorem b_add {i j : Nat} : evB .add (N i) (N j) = some (N (i + j)) := by
  rw [b_add_i, ← Int.natCast_add]
theorem forGo_inv {α : Type} {f : P → En → St → R Fl} {c : α → P} {Inv : Nat → En → St → Prop} : ∀ {l : List α} {i : Nat} {r : En} {s : St}, Inv i r s → (∀ j x r s, l[j]? = some x → Inv (i + j) r s → ∃ r' s', f (c x) r s = .ok (.next r') s' ∧ Inv (i + j + 1) r' s') →
    ∃ r' s', forGo f (l.map c) r s = .ok (.next r') s' ∧ Inv (i + l.length) r' s'
  | [], i, r, s, h, _ => ⟨r, s, rfl, h⟩
  | x :: l, i, r, s, h, step => by
    obtain ⟨r1, s1, e1, h1⟩ := step 0 x r s rfl h
    obtain ⟨r2, s2, e2, h2⟩ := forGo_inv (f := f) (c := c) (Inv := Inv) (l := l) (i := i + 1) (r := r1) (s := s1) h1 fun j y r s hj hi => by
      have := step (j + 1) y r s (by simpa using hj) (by rw [show i + (j + 1) = i + 1 + j by omega]; exact hi)
      rw [show i + 1 + j = i + (j + 1) by omega]
      exact this
    refine ⟨r2, s2, ?_, by rw [List.length_cons, show i + (l.length + 1) = i + 1 + l.length by omega]; exact h2⟩
    rw [List.map_cons, forGo, e1, R.bind_ok']
    exact e2
theorem compGo_cup {α : Type} {f : P → St → R (List P)} {c : α → P} {ok : P → Prop} : ∀ {l : List α} {a b : Nat}, (∀ x ∈ l, ∀ a b, ∃ y a' b', ok y ∧ f (c x) (cupSt a b) = .ok [y] (cupSt a' b')) → ∃ ys a' b', ys.length = l.length ∧ (∀ y ∈ ys, ok y) ∧ compGo f (l.map c) (cupSt a b) = .ok ys (cupSt a' b')
  | [], a, b, _ => ⟨[], a, b, rfl, (fun y h => absurd h List.not_mem_nil), rfl⟩
  | x :: l, a, b, h => by
    obtain ⟨y, a1, b1, h1, e1⟩ := h x List.mem_cons_self a b
    obtain ⟨ys, a2, b2, h2, h3, e2⟩ := compGo_cup (l := l) (a := a1) (b := b1) fun x m => h x (List.mem_cons_of_mem _ m)
    refine ⟨y :: ys, a2, b2, by rw [List.length_cons, List.length_cons, h2], fun z hz => ?_, ?_⟩
    · rcases List.mem_cons.mp hz with rfl | hz
      · exact h1
      · exact h3 z hz
    · rw [List.map_cons, compGo, e1, R.bind_ok', e2, R.bind_ok']; rfl
theorem ev_compC {α : Type} {cf : Nat → List D → St → R D} {r : En} {e : E} {vs : List Nat} {tg : G} {it : I} {c : α → P} {ok : P → Prop} {l : List α} {a b : Nat} (hI : evI cf it r (cupSt a b) = .ok (l.map c) (cupSt a b))
    (hx : ∀ x ∈ l, ∀ a b, ∃ r1 y a' b', asgG tg (c x) (wipeE r vs) = some r1 ∧ ok y ∧ evE cf e r1 (cupSt a b) = .ok (.p y) (cupSt a' b')) (hl : l.length ≤ 1000) :
    ∃ ys a' b', ys.length = l.length ∧ (∀ y ∈ ys, ok y) ∧ evL cf (.comp vs tg it .yes e) r (cupSt a b) = .ok ys (cupSt a' b') := by
  obtain ⟨ys, a', b', h1, h2, h3⟩ := compGo_cup (l := l) (c := c) (ok := ok) (a := a) (b := b) (f := fun x s2 => match asgG tg x (wipeE r vs) with
      | some r1 => (R.noexc (evTo cf .yes r1 s2)).bind fun c s3 => if c then (R.noexc (evE cf e r1 s3)).bind fun d s4 => (match d with | .p y => .ok [y] s4 | _ => .bad) else .ok [] s3
      | none => .bad) fun x m a b => by
    obtain ⟨r1, y, a', b', q1, q2, q3⟩ := hx x m a b
    refine ⟨y, a', b', q2, ?_⟩
    rw [q1]
    dsimp only
    rw [ev_yes, R.noexc_ok, R.bind_ok', if_pos rfl, q3, R.noexc_ok, R.bind_ok']
  refine ⟨ys, a', b', h1, h2, ?_⟩
  have hb : ys.length ≤ big := le_big (by omega)
  rw [evL, hI, R.bind_ok']
  refine (congrArg (fun z => R.bind z fun l s2 => if decide (l.length ≤ big) then R.ok l s2 else .bad) h3).trans ?_
  show (if decide (ys.length ≤ big) then R.ok ys (cupSt a' b') else .bad) = _
  rw [decide_eq_true hb, if_pos rfl]
theorem nats_of : ∀ {ys : List P} {q : Nat → Prop}, (∀ y ∈ ys, ∃ i, y = N i ∧ q i) → ∃ l : List Nat, ys = l.map N ∧ ∀ i ∈ l, q i
  | [], q, _ => ⟨[], rfl, fun i h => absurd h List.not_mem_nil⟩
  | y :: ys, q, h => by
    obtain ⟨i, rfl, hi⟩ := h y List.mem_cons_self
    obtain ⟨l, rfl, hl⟩ := nats_of (ys := ys) (q := q) fun z m => h z (List.mem_cons_of_mem _ m)
    refine ⟨i :: l, rfl, fun j hj => ?_⟩
    rcases List.mem_cons.mp hj with rfl | hj
    · exact hi
    · exact hl j hj
def RowOk (n : Nat) (r : List Nat) : Prop := r.length = n ∧ (∀ x ∈ r, x ≤ 99) ∧ 0 < r.sum
theorem ev_slcL {cf : Nat → List D → St → R D} {r : En} {s s1 : St} {e : E} {l : List P} (h : evE cf e r s = .ok (.p (.tup l)) s1) : evE cf (.slc e .none (.some (.un .neg (.lit (.int 1))))) r s = .ok (.p (.tup (l.take (l.length - 1)))) s1 := by
  have e1 : evE cf (.un .neg (.lit (.int 1))) r s1 = .ok (.p (.int (-1))) s1 := ev_un ev_lit rfl
  rw [evE, h, R.bind_ok', evO, R.bind_ok', evO, e1, R.bind_ok']
  dsimp only
  rw [R.bind_ok', show view s1 (.p (.tup l)) = some (.tup l) from rfl]
  dsimp only
  have : cutP l none (some (-1)) = l.take (l.length - 1) := by
    unfold cutP sIx
    simp
    congr 1
    omega
  rw [this]
theorem ev_rngS {cf : Nat → List D → St → R D} {r : En} {s s1 : St} {e : E} {n : Nat} (h : evE cf e r s = .ok (.p (N n)) s1) (hn : n ≤ 1000) : evI cf (.rng1 e) r s = .ok ((List.range n).map N) s1 := ev_rng h hn
inductive Sm : Nat → P → Prop
  | non {n : Nat} : Sm n .non
  | int {n : Nat} {i : Int} : Sm n (.int i)
  | bl {n : Nat} {b : Bool} : Sm n (.bl b)
  | tup {n : Nat} {l : List P} : (∀ x ∈ l, Sm n x) → l.length ≤ 1000 → Sm (n + 1) (.tup l)
theorem at_P {l : List P} {i : Nat} (h : i < l.length) : atP l (i : Int) = some l[i] := by
  have := at_map (c := fun y => y) (List.getElem?_eq_getElem h)
  rwa [List.map_id'] at this
theorem sm_N {n i : Nat} : Sm n (N i) := .int
theorem sm_nats {n : Nat} {l : List Nat} (h : l.length ≤ 1000) : Sm (n + 1) (nats l) := .tup (fun x hx => by
  obtain ⟨i, _, rfl⟩ := List.mem_map.mp hx
  exact sm_N) (by rw [List.length_map]; exact h)
theorem pow18 : evB .pow (.int 10) (.int 18) = some (.int 1000000000000000000) := by decide +kernel
theorem first_ok {ns : List Int} : ∃ i : Int, atP (ns.map P.int ++ [.int 0]) 0 = some (.int i) := by
  cases ns with
  | nil => exact ⟨0, rfl⟩
  | cons i l => exact ⟨i, at_P (l := (i :: l).map P.int ++ [.int 0]) (i := 0) (by simp)⟩
end Ev.Pl

set_option Elab.async false
set_option linter.all false
set_option maxRecDepth 100000
set_option maxHeartbeats 4000000
set_option exponentiation.threshold 5000
namespace Ev.Pl
open PySem

theorem is_whole_int {n : Nat} {i lo hi : Int} {s : St} : callN tb (n + 1) 0 [.p (.int i), .p (.int lo), .p (.int hi)] s = .ok (.p (.bl (decide (lo ≤ i) && decide (i ≤ hi)))) s := by
  rw [callN_at (f := t_is_whole) rfl rfl]
  simp [t_is_whole, enter, evSs, evS, evE, evT, view]
  cases decide (lo ≤ i) <;> simp
theorem is_whole_bl {n : Nat} {b : Bool} {lo hi : Int} {s : St} : callN tb (n + 1) 0 [.p (.bl b), .p (.int lo), .p (.int hi)] s = .ok (.p (.bl false)) s := by
  rw [callN_at (f := t_is_whole) rfl rfl]
  simp [t_is_whole, enter, evSs, evS, evE, evT, view]
theorem is_tuple_of_tup {n : Nat} {l : List P} {lo hi : Int} {s : St} : callN tb (n + 1) 1 [.p (.tup l), .p (.int lo), .p (.int hi)] s = .ok (.p (.bl (decide (lo ≤ l.length) && decide ((l.length : Int) ≤ hi)))) s := by
  rw [callN_at (f := t_is_tuple_of) rfl rfl]
  simp [t_is_tuple_of, enter, evSs, evS, evE, evT, view]
  cases decide (lo ≤ (l.length : Int)) <;> simp
theorem is_tuple_of_not {n : Nat} {x : P} {lo hi : Int} {s : St} (h : evU .isTup x = some (.bl false)) : callN tb (n + 1) 1 [.p x, .p (.int lo), .p (.int hi)] s = .ok (.p (.bl false)) s := by
  rw [callN_at (f := t_is_tuple_of) rfl rfl]
  simp [t_is_tuple_of, enter, evSs, evS, evE, evT, view, h]
structure GoodM (n : Nat) (m : List (List Nat)) : Prop where
  len : m.length = n
  row : ∀ r ∈ m, r.length = n ∧ (∀ x ∈ r, x ≤ 99) ∧ 0 < r.sum
structure GoodB (n : Nat) (b : List (List (List Nat))) : Prop where
  pos : 1 ≤ n
  le : n ≤ 6
  ne : 1 ≤ b.length
  few : b.length ≤ 6
  all : ∀ m ∈ b, GoodM n m
theorem fits_meeting_ok {k n : Nat} {m : List (List Nat)} {s : St} (h1 : 1 ≤ n) (h6 : n ≤ 6) (g : GoodM n m) : callN tb (k + 2) 3 [.p (rows m)] s = .ok (.p (.bl true)) s := by
  have hb : m.length ≤ big := by rw [g.len]; exact le_big (by omega)
  rw [callN_at (f := t_fits_meeting) rfl rfl]
  have e1 : callN tb (k + 1) 1 [.p (rows m), .p (.int 1), .p (.int 6)] s = .ok (.p (.bl true)) s := by
    rw [is_tuple_of_tup]
    simp [g.len]; omega
  simp [t_fits_meeting, enter, evSs, evS, evE, evEs, evT, evL, evI, evTo, view, e1, itemsOf]
  rw [compGo_all (c := nats) (e := fun r : List Nat => .bl (decide ((r.length : Int) = n) && r.all fun x => decide (x ≤ 99)))]
  · have e2 : (m.all fun r : List Nat => decide ((r.length : Int) = n) && r.all fun x => decide (x ≤ 99)) = true := by
      rw [List.all_eq_true]
      intro r hr
      obtain ⟨a, b, c⟩ := g.row r hr
      simp [a]
      exact b
    simp [hb, e2]
    rw [compGo_all (c := nats) (e := fun r : List Nat => .bl (decide ((0 : Int) < r.sum)))]
    · simp [hb]
      exact fun r hr => (g.row r hr).2.2
    · intro r hr
      simp [wipeE, asgG]
  · intro r hr
    obtain ⟨a, b, c⟩ := g.row r hr
    have hb2 : r.length ≤ big := by rw [a]; exact le_big (by omega)
    have e2 : callN tb (k + 1) 1 [.p (nats r), .p (.int m.length), .p (.int m.length)] s = .ok (.p (.bl true)) s := by
      rw [is_tuple_of_tup]
      simp [g.len, a]
    simp [wipeE, asgG, e2]
    rw [compGo_all (c := N) (e := fun x : Nat => .bl (decide (x ≤ 99)))]
    · have hn : n ≤ big := le_big (by omega)
      simp [a, hn]
    · intro x hx
      have e3 : callN tb (k + 1) 0 [.p (N x), .p (.int 0), .p (.int 99)] s = .ok (.p (.bl (decide (x ≤ 99)))) s := by
        rw [is_whole_int]
        have : decide ((x : Int) ≤ 99) = decide (x ≤ 99) := decide_eq_decide.mpr (by omega)
        simp [this]
      simp [e3]
theorem fits_book_ok {k n : Nat} {b : List (List (List Nat))} {s : St} (g : GoodB n b) : callN tb (k + 3) 4 [.p (bookP b)] s = .ok (.p (.bl true)) s := by
  have hb : b.length ≤ big := by exact le_big (by have := g.few; omega)
  rw [callN_at (f := t_fits_book) rfl rfl]
  have e1 : callN tb (k + 2) 1 [.p (bookP b), .p (.int 1), .p (.int 6)] s = .ok (.p (.bl true)) s := by
    have := g.ne
    have := g.few
    rw [is_tuple_of_tup]
    simp; omega
  simp [t_fits_book, enter, evSs, evS, evE, evEs, evT, evL, evI, evTo, view, e1, itemsOf]
  rw [compGo_all (c := rows) (e := fun _ => .bl true)]
  · simp [hb]
    rw [compGo_all (c := rows) (e := fun _ => .bl true)]
    · simp [hb]
    · intro m hm
      have hl := (g.all m hm).len
      obtain ⟨m0, hm0, hb0⟩ : ∃ m0 ∈ b, b[0]? = some m0 := by
        cases b with
        | nil => have := g.ne; simp at this
        | cons a b => exact ⟨a, List.mem_cons_self, rfl⟩
      have hl0 := (g.all m0 hm0).len
      have ix : atP (b.map rows) 0 = some (rows m0) := at_map (i := 0) hb0
      simp [wipeE, asgG, ix, hl, hl0]
  · intro m hm
    have e2 := fits_meeting_ok (k := k) (s := s) g.pos g.le (g.all m hm)
    simp [wipeE, asgG, e2]
theorem need_book_ok {k n : Nat} {b : List (List (List Nat))} {s : St} (g : GoodB n b) : callN tb (k + 4) 5 [.p (bookP b)] s = .ok (.p .non) s := by
  rw [callN_at (f := t_need_book) rfl rfl]
  simp [t_need_book, enter, evSs, evS, evE, evEs, evT, fits_book_ok g]
set_option maxHeartbeats 400000
theorem roll_ok {k m a b : Nat} (hm : 0 < m) (h2 : m ≤ 1000) : ∃ x a' b', x < m ∧ callN tb (k + 1) 23 [.obj 0, .p (N m)] (cupSt a b) = .ok (.p (N x)) (cupSt a' b') := by
  by_cases ha : 0 < a
  · refine ⟨a % m, a / m, b, Nat.mod_lt _ hm, ?_⟩
    rw [callN_at (f := t_law_roll) rfl rfl]
    have e : evSs (callN tb k) (cupSt a b).length t_law_roll.body (enter t_law_roll [.obj 0, .p (N m)]) (cupSt a b) = .ok (.ret (.p (N (a % m)))) (cupSt (a / m) b) :=
      st_ifT (ev_cmp (cup_at rfl) ev_lit (by rw [c_gt]; exact congrArg some (decide_eq_true (by omega)))) (st_asg (ev_bin (ev_un (cup_at rfl) u_int) (ev_var rfl) (b_mod hm)) (by show 3 < 4; decide) (st_put (ev_bin (cup_at rfl) (ev_var rfl) (b_fdiv hm (by omega))) rfl ev_lit rfl rfl (st_ret (ev_var rfl))))
    rw [e]; rfl
  · have a0 : a = 0 := by omega
    subst a0
    let b1 := (b * 31327 + 8377) % 2147483399
    let dp := b1 * (b1 + 647) % 2147483563
    have hb1 : b1 < 2 ^ 64 := Nat.lt_trans (Nat.mod_lt _ (by omega)) (by omega)
    refine ⟨dp / 797 % m, 0, b1, Nat.mod_lt _ hm, ?_⟩
    rw [callN_at (f := t_law_roll) rfl rfl]
    have e : evSs (callN tb k) (cupSt 0 b).length t_law_roll.body (enter t_law_roll [.obj 0, .p (N m)]) (cupSt 0 b) = .ok (.ret (.p (N (dp / 797 % m)))) (cupSt 0 b1) :=
      st_if0 (ev_cmp (cup_at rfl) ev_lit (by rw [c_gt]; rfl)) (st_put (x := N b1) (ev_bin (ev_un (ev_bin (ev_bin (cup_at1 rfl) (ev_lit (x := N 31327)) (b_mul (.inr (by omega)))) (ev_lit (x := N 8377)) b_add) u_int) (ev_lit (x := N 2147483399)) (b_mod (by omega))) rfl ev_lit rfl rfl
        (st_asg (d := .p (N dp)) (ev_bin (ev_un (ev_bin (cup_at1 rfl) (ev_bin (cup_at1 rfl) (ev_lit (x := N 647)) b_add) (b_mul (.inl hb1))) u_int) (ev_lit (x := N 2147483563)) (b_mod (by omega))) (by show 2 < 4; decide)
          (st_ret (ev_bin (ev_un (ev_bin (ev_var rfl) (ev_lit (x := N 797)) (b_fdiv (by omega) (by omega))) u_int) (ev_var rfl) (b_mod hm)))))
    rw [e]; rfl
theorem some_ok {k a b : Nat} {L : List P} (h1 : 0 < L.length) (h2 : L.length ≤ 1000) : ∃ x a' b', x ∈ L ∧ callN tb (k + 2) 24 [.obj 0, .p (.lst L)] (cupSt a b) = .ok (.p x) (cupSt a' b') := by
  obtain ⟨i, a', b', hi, e⟩ := roll_ok (k := k) (a := a) (b := b) h1 h2
  have hx : L[i]? = some L[i] := List.getElem?_eq_getElem hi
  refine ⟨L[i], a', b', List.getElem_mem hi, ?_⟩
  rw [callN_at (f := t_law_some) rfl rfl]
  have q : evSs (callN tb (k + 1)) (cupSt a b).length t_law_some.body (enter t_law_some [.obj 0, .p (.lst L)]) (cupSt a b) = .ok (.ret (.p L[i])) (cupSt a' b') := by
    refine st_ret (ev_bin (ev_var rfl) (ev_call (ev_cons (ev_var rfl) (ev_cons (ev_un (ev_var rfl) u_len_l) ev_nil)) e) ?_)
    have := at_map (c := fun y => y) hx
    rw [List.map_id'] at this
    exact this
  rw [q]; rfl
theorem drawn_ok {k w a b : Nat} {r : En} (hw : 0 < w) (hw2 : w ≤ 98) (h0 : r[0]? = some (some (.obj 0))) (h2 : r[2]? = some (some (.p (N w)))) : ∃ x a' b', 1 ≤ x ∧ x ≤ 99 ∧ evE (callN tb (k + 1)) (.bin .add (.lit (.int 1)) (.call 23 (.cons (.var 0) (.cons (.var 2) .nil)))) r (cupSt a b) = .ok (.p (N x)) (cupSt a' b') := by
  obtain ⟨x, a', b', hx, e⟩ := roll_ok (k := k) (a := a) (b := b) (m := w) hw (by omega)
  exact ⟨1 + x, a', b', by omega, by omega, ev_bin (ev_lit (x := N 1)) (ev_call (ev_cons (ev_var h0) (ev_cons (ev_var h2) ev_nil)) e) b_add⟩
theorem entry_ok {k w a b : Nat} {r : En} (hw : 0 < w) (hw2 : w ≤ 98) (h0 : r[0]? = some (some (.obj 0))) (h2 : r[2]? = some (some (.p (N w)))) : ∃ y a' b', (∃ i, y = N i ∧ i ≤ 99) ∧ evE (callN tb (k + 2)) (.call 24 (.cons (.var 0) (.cons (.frz (.disp (.cons (.lit (.int 0)) (.cons (.lit (.int 0)) (.cons (.lit (.int 1)) (.cons (.lit (.int 1)) (.cons (.bin .add (.lit (.int 1)) (.call 23 (.cons (.var 0) (.cons (.var 2) .nil)))) .nil))))))) .nil))) r (cupSt a b) = .ok (.p y) (cupSt a' b') := by
  obtain ⟨x, a1, b1, x1, x2, e1⟩ := drawn_ok (k := k + 1) (a := a) (b := b) hw hw2 h0 h2
  obtain ⟨y, a2, b2, hy, e2⟩ := some_ok (k := k) (a := a1) (b := b1) (L := [N 0, N 0, N 1, N 1, N x]) (by simp) (by simp)
  refine ⟨y, a2, b2, ?_, ev_call (ev_cons (ev_var h0) (ev_cons (ev_frz (ev_disp (ev_cons (ev_lit (x := N 0)) (ev_cons (ev_lit (x := N 0)) (ev_cons (ev_lit (x := N 1)) (ev_cons (ev_lit (x := N 1)) (ev_cons e1 ev_nil))))) rfl)) ev_nil)) e2⟩
  simp only [List.mem_cons, List.not_mem_nil, or_false] at hy
  rcases hy with rfl | rfl | rfl | rfl | rfl
  · exact ⟨0, rfl, by omega⟩
  · exact ⟨0, rfl, by omega⟩
  · exact ⟨1, rfl, by omega⟩
  · exact ⟨1, rfl, by omega⟩
  · exact ⟨x, rfl, x2⟩
abbrev entryE : E := .call 24 (.cons (.var 0) (.cons (.frz (.disp (.cons (.lit (.int 0)) (.cons (.lit (.int 0)) (.cons (.lit (.int 1)) (.cons (.lit (.int 1)) (.cons (.bin .add (.lit (.int 1)) (.call 23 (.cons (.var 0) (.cons (.var 2) .nil)))) .nil))))))) .nil))
abbrev row1E : E := .un .tuple (.frz (.comp [6] (.name 6) (.rng1 (.var 1)) .yes entryE))
abbrev row2E : E := .ife (.cmp .gt (.un .sum (.var 5)) (.lit (.int 0))) (.var 5) (.bin .add (.slc (.var 5) .none (.some (.un .neg (.lit (.int 1))))) (.tup (.cons (.bin .add (.lit (.int 1)) (.call 23 (.cons (.var 0) (.cons (.var 2) .nil)))) .nil)))
theorem row1_ok {k n w a b : Nat} {d3 d4 d5 : Option D} (hn : n ≤ 6) (hw : 0 < w) (hw2 : w ≤ 98) : ∃ (q : List Nat) (a' b' : Nat), q.length = n ∧ (∀ x ∈ q, x ≤ 99) ∧ evE (callN tb (k + 2)) row1E [some (.obj 0), some (.p (N n)), some (.p (N w)), d3, d4, d5, none] (cupSt a b) = .ok (.p (nats q)) (cupSt a' b') := by
  obtain ⟨ys, a', b', h1, h2, h3⟩ := ev_compC (cf := callN tb (k + 2)) (r := [some (.obj 0), some (.p (N n)), some (.p (N w)), d3, d4, d5, none]) (e := entryE) (vs := [6]) (tg := .name 6) (it := .rng1 (.var 1)) (l := List.range n) (c := N) (ok := fun y => ∃ i, y = N i ∧ i ≤ 99) (a := a) (b := b) (ev_rng (ev_var rfl) (by omega)) (fun x hx a b => by
      obtain ⟨y, a', b', q1, q2⟩ := entry_ok (k := k) (w := w) (a := a) (b := b) (r := [some (.obj 0), some (.p (N n)), some (.p (N w)), d3, d4, d5, some (.p (N x))]) hw hw2 rfl rfl
      exact ⟨_, y, a', b', rfl, q1, q2⟩) (by rw [List.length_range]; omega)
  obtain ⟨q, rfl, hq⟩ := nats_of h2
  rw [List.length_map, List.length_range] at h1
  exact ⟨q, a', b', h1, hq, ev_un (ev_frz h3) rfl⟩
theorem sum_snoc_pos {l : List Nat} {x : Nat} (h : 1 ≤ x) : 0 < (l ++ [x]).sum := by simp; omega
theorem row2_ok {k n w a b : Nat} {d3 d4 : Option D} {q : List Nat} (h1 : 1 ≤ n) (hn : n ≤ 6) (hw : 0 < w) (hw2 : w ≤ 98) (hq : q.length = n) (hq2 : ∀ x ∈ q, x ≤ 99) : ∃ (q' : List Nat) (a' b' : Nat), RowOk n q' ∧ evE (callN tb (k + 2)) row2E [some (.obj 0), some (.p (N n)), some (.p (N w)), d3, d4, some (.p (nats q)), none] (cupSt a b) = .ok (.p (nats q')) (cupSt a' b') := by
  by_cases hs : 0 < q.sum
  · exact ⟨q, a, b, ⟨hq, hq2, hs⟩, ev_ifT (ev_cmp (ev_un (ev_var rfl) u_sum_t) ev_lit (by rw [c_gt]; exact congrArg some (decide_eq_true (by omega)))) (ev_var rfl)⟩
  · obtain ⟨x, a', b', x1, x2, e⟩ := drawn_ok (k := k + 1) (w := w) (a := a) (b := b) (r := [some (.obj 0), some (.p (N n)), some (.p (N w)), d3, d4, some (.p (nats q)), none]) hw hw2 rfl rfl
    refine ⟨q.take (n - 1) ++ [x], a', b', ⟨?_, ?_, sum_snoc_pos x1⟩, ev_ifF (ev_cmp (ev_un (ev_var rfl) u_sum_t) ev_lit (by rw [c_gt]; exact congrArg some (decide_eq_false (by omega)))) (ev_bin (ev_slcL (l := q.map N) (ev_var rfl)) (ev_pars (xs := [N x]) (ev_cons e ev_nil) rfl) ?_)⟩
    · simp; omega
    · intro y hy
      rcases List.mem_append.mp hy with h | h
      · exact hq2 y (List.mem_of_mem_take h)
      · rw [List.mem_singleton.mp h]; exact x2
    · rw [b_add_t (by simp; exact le_big (by omega)), List.length_map, hq, ← List.map_take]
      show _ = some (P.tup (List.map N (q.take (n - 1) ++ [x])))
      rw [List.map_append]; rfl
abbrev turnM : Ss := .cons (.asg 5 row1E) (.cons (.asg 5 row2E) (.cons (.asg 3 (.bin .add (.var 3) (.tup (.cons (.call 24 (.cons (.var 0) (.cons (.frz (.disp (.cons (.var 5) (.cons (.var 5) (.cons (.var 5) (.cons (.bin .idx (.bin .add (.var 3) (.tup (.cons (.var 5) .nil))) (.lit (.int 0))) .nil)))))) .nil))) .nil)))) .nil))
def InvM (n w : Nat) : Nat → En → St → Prop := fun j r s => ∃ (R : List (List Nat)) (d4 d5 : Option D) (a b : Nat), R.length = j ∧ (∀ q ∈ R, RowOk n q) ∧ r = [some (.obj 0), some (.p (N n)), some (.p (N w)), some (.p (rows R)), d4, d5, none] ∧ s = cupSt a b
theorem turnM_ok {k k0 n w j : Nat} {r : En} {s : St} (h1 : 1 ≤ n) (hn : n ≤ 6) (hw : 0 < w) (hw2 : w ≤ 98) (hj : j < n) (h : InvM n w j r s) : ∃ r' s', forBody (callN tb (k + 2)) k0 (.name 4) turnM (N j) r s = .ok (.next r') s' ∧ InvM n w (j + 1) r' s' := by
  obtain ⟨R, d4, d5, a, b, hR, hR2, rfl, rfl⟩ := h
  obtain ⟨q, a1, b1, q1, q2, e1⟩ := row1_ok (k := k) (n := n) (w := w) (a := a) (b := b) (d3 := some (.p (rows R))) (d4 := some (.p (N j))) (d5 := d5) hn hw hw2
  obtain ⟨q', a2, b2, q3, e2⟩ := row2_ok (k := k) (n := n) (w := w) (a := a1) (b := b1) (d3 := some (.p (rows R))) (d4 := some (.p (N j))) (q := q) h1 hn hw hw2 q1 q2
  have e3 : evB .add (rows R) (.tup [nats q']) = some (rows (R ++ [q'])) := by
    rw [b_add_t (by simp; exact le_big (by omega))]
    show some (P.tup (R.map nats ++ [nats q'])) = some (P.tup ((R ++ [q']).map nats))
    rw [List.map_append]; rfl
  obtain ⟨f, hf, hf2⟩ : ∃ f, (R ++ [q'])[0]? = some f ∧ RowOk n f := by
    cases R with
    | nil => exact ⟨q', rfl, q3⟩
    | cons g R => exact ⟨g, rfl, hR2 g List.mem_cons_self⟩
  obtain ⟨y, a3, b3, hy, e4⟩ := some_ok (k := k) (a := a2) (b := b2) (L := [nats q', nats q', nats q', nats f]) (by simp) (by simp)
  obtain ⟨z, rfl, hz⟩ : ∃ z, y = nats z ∧ RowOk n z := by
    simp only [List.mem_cons, List.not_mem_nil, or_false] at hy
    rcases hy with rfl | rfl | rfl | rfl
    · exact ⟨q', rfl, q3⟩
    · exact ⟨q', rfl, q3⟩
    · exact ⟨q', rfl, q3⟩
    · exact ⟨f, rfl, hf2⟩
  have e5 : evB .add (rows R) (.tup [nats z]) = some (rows (R ++ [z])) := by
    rw [b_add_t (by simp; exact le_big (by omega))]
    show some (P.tup (R.map nats ++ [nats z])) = some (P.tup ((R ++ [z]).map nats))
    rw [List.map_append]; rfl
  refine ⟨_, _, forBody_at (r2 := [some (.obj 0), some (.p (N n)), some (.p (N w)), some (.p (rows R)), some (.p (N j)), d5, none]) rfl (st_asg e1 (by show 5 < 7; decide) (st_asg e2 (by show 5 < 7; decide) (st_asg (ev_bin (ev_var rfl) (ev_pars (xs := [nats z]) (ev_cons (ev_call (ev_cons (ev_var rfl) (ev_cons (ev_frz (ev_disp (ev_cons (ev_var rfl) (ev_cons (ev_var rfl) (ev_cons (ev_var rfl) (ev_cons (ev_bin (ev_bin (ev_var rfl) (ev_pars (xs := [nats q']) (ev_cons (ev_var rfl) ev_nil) rfl) e3) ev_lit (at_map (i := 0) hf)) ev_nil)))) rfl)) ev_nil)) e4) ev_nil) rfl) e5) (by show 3 < 7; decide) st_nil))), ?_⟩
  refine ⟨R ++ [z], some (.p (N j)), some (.p (nats q')), a3, b3, by simp [hR], fun x hx => ?_, rfl, rfl⟩
  rcases List.mem_append.mp hx with h | h
  · exact hR2 x h
  · rw [List.mem_singleton.mp h]; exact hz
theorem meeting_ok {k n w a b : Nat} (h1 : 1 ≤ n) (hn : n ≤ 6) (hw : 0 < w) (hw2 : w ≤ 98) : ∃ m a' b', GoodM n m ∧ callN tb (k + 3) 26 [.obj 0, .p (N n), .p (N w)] (cupSt a b) = .ok (.p (rows m)) (cupSt a' b') := by
  obtain ⟨r', s', e, R, d4, d5, a', b', hR, hR2, rfl, rfl⟩ := forGo_inv (f := forBody (callN tb (k + 2)) (cupSt a b).length (.name 4) turnM) (c := N) (Inv := InvM n w) (l := List.range n) (i := 0) (r := [some (.obj 0), some (.p (N n)), some (.p (N w)), some (.p (rows [])), none, none, none]) (s := cupSt a b) ⟨[], none, none, a, b, rfl, fun q h => absurd h List.not_mem_nil, rfl, rfl⟩ fun j x r s hj hi => by
    obtain ⟨g1, g2⟩ := List.getElem?_eq_some_iff.mp hj
    rw [List.length_range] at g1
    rw [List.getElem_range] at g2
    subst g2
    rw [Nat.zero_add] at hi ⊢
    exact turnM_ok h1 hn hw hw2 g1 hi
  rw [Nat.zero_add, List.length_range] at hR
  refine ⟨R, a', b', ⟨hR, hR2⟩, ?_⟩
  rw [callN_at (f := t_law_meeting) rfl rfl]
  have q : evSs (callN tb (k + 2)) (cupSt a b).length t_law_meeting.body (enter t_law_meeting [.obj 0, .p (N n), .p (N w)]) (cupSt a b) = .ok (.ret (.p (rows R))) (cupSt a' b') :=
    st_asg (ev_pars ev_nil rfl) (by show 3 < 7; decide) (st_for (ev_rng (ev_var rfl) (by omega)) e (st_ret (ev_var rfl)))
  rw [q]; rfl
abbrev turnB : Ss := .cons (.asg 4 (.bin .add (.var 4) (.tup (.cons (.call 24 (.cons (.var 0) (.cons (.frz (.disp (.cons (.call 26 (.cons (.var 0) (.cons (.var 1) (.cons (.var 3) .nil)))) (.cons (.call 26 (.cons (.var 0) (.cons (.var 1) (.cons (.var 3) .nil)))) (.cons (.bin .idx (.var 4) (.lit (.int 0))) .nil))))) .nil))) .nil)))) .nil
def InvB (n q w : Nat) : Nat → En → St → Prop := fun j r s => ∃ (B : List (List (List Nat))) (d5 : Option D) (a b : Nat), B.length = j + 1 ∧ (∀ m ∈ B, GoodM n m) ∧ r = [some (.obj 0), some (.p (N n)), some (.p (N q)), some (.p (N w)), some (.p (bookP B)), d5] ∧ s = cupSt a b
theorem turnB_ok {k k0 n q w j : Nat} {r : En} {s : St} (h1 : 1 ≤ n) (hn : n ≤ 6) (hw : 0 < w) (hw2 : w ≤ 98) (hj : j < 5) (h : InvB n q w j r s) : ∃ r' s', forBody (callN tb (k + 3)) k0 (.name 5) turnB (N j) r s = .ok (.next r') s' ∧ InvB n q w (j + 1) r' s' := by
  obtain ⟨B, d5, a, b, hB, hB2, rfl, rfl⟩ := h
  obtain ⟨m1, a1, b1, g1, e1⟩ := meeting_ok (k := k) (n := n) (w := w) (a := a) (b := b) h1 hn hw hw2
  obtain ⟨m2, a2, b2, g2, e2⟩ := meeting_ok (k := k) (n := n) (w := w) (a := a1) (b := b1) h1 hn hw hw2
  obtain ⟨m0, hm0, g0⟩ : ∃ f, B[0]? = some f ∧ GoodM n f := by
    cases B with
    | nil => simp at hB
    | cons g R => exact ⟨g, rfl, hB2 g List.mem_cons_self⟩
  obtain ⟨y, a3, b3, hy, e4⟩ := some_ok (k := k + 1) (a := a2) (b := b2) (L := [rows m1, rows m2, rows m0]) (by simp) (by simp)
  obtain ⟨z, rfl, hz⟩ : ∃ z, y = rows z ∧ GoodM n z := by
    simp only [List.mem_cons, List.not_mem_nil, or_false] at hy
    rcases hy with rfl | rfl | rfl
    · exact ⟨m1, rfl, g1⟩
    · exact ⟨m2, rfl, g2⟩
    · exact ⟨m0, rfl, g0⟩
  have e5 : evB .add (bookP B) (.tup [rows z]) = some (bookP (B ++ [z])) := by
    rw [b_add_t (by simp; exact le_big (by omega))]
    show some (P.tup (B.map rows ++ [rows z])) = some (P.tup ((B ++ [z]).map rows))
    rw [List.map_append]; rfl
  refine ⟨_, _, forBody_at (r2 := [some (.obj 0), some (.p (N n)), some (.p (N q)), some (.p (N w)), some (.p (bookP B)), some (.p (N j))]) rfl (st_asg (ev_bin (ev_var rfl) (ev_pars (xs := [rows z]) (ev_cons (ev_call (ev_cons (ev_var rfl) (ev_cons (ev_frz (ev_disp (ev_cons (ev_call (ev_cons (ev_var rfl) (ev_cons (ev_var rfl) (ev_cons (ev_var rfl) ev_nil))) e1) (ev_cons (ev_call (ev_cons (ev_var rfl) (ev_cons (ev_var rfl) (ev_cons (ev_var rfl) ev_nil))) e2) (ev_cons (ev_bin (ev_var rfl) ev_lit (at_map (i := 0) hm0)) ev_nil))) rfl)) ev_nil)) e4) ev_nil) rfl) e5) (by show 4 < 6; decide) st_nil), ?_⟩
  refine ⟨B ++ [z], some (.p (N j)), a3, b3, by simp [hB], fun x hx => ?_, rfl, rfl⟩
  rcases List.mem_append.mp hx with h | h
  · exact hB2 x h
  · rw [List.mem_singleton.mp h]; exact hz
theorem book_ok {k n q w a b : Nat} (h1 : 1 ≤ n) (hn : n ≤ 6) (hq : 0 < q) (hq2 : q ≤ 5) (hw : 0 < w) (hw2 : w ≤ 98) : ∃ B a' b', GoodB n B ∧ callN tb (k + 4) 27 [.obj 0, .p (N n), .p (N q), .p (N w)] (cupSt a b) = .ok (.p (bookP B)) (cupSt a' b') := by
  obtain ⟨m, a1, b1, g, e1⟩ := meeting_ok (k := k) (n := n) (w := w) (a := a) (b := b) h1 hn hw hw2
  obtain ⟨x, a2, b2, hx, e2⟩ := roll_ok (k := k + 2) (a := a1) (b := b1) (m := q) hq (by omega)
  obtain ⟨r', s', e, B, d5, a', b', hB, hB2, rfl, rfl⟩ := forGo_inv (f := forBody (callN tb (k + 3)) (cupSt a b).length (.name 5) turnB) (c := N) (Inv := InvB n q w) (l := List.range x) (i := 0) (r := [some (.obj 0), some (.p (N n)), some (.p (N q)), some (.p (N w)), some (.p (bookP [m])), none]) (s := cupSt a2 b2) ⟨[m], none, a2, b2, rfl, fun y h => by rw [List.mem_singleton.mp h]; exact g, rfl, rfl⟩ fun j y r s hj hi => by
    obtain ⟨g1, g2⟩ := List.getElem?_eq_some_iff.mp hj
    rw [List.length_range] at g1
    rw [List.getElem_range] at g2
    subst g2
    rw [Nat.zero_add] at hi ⊢
    exact turnB_ok h1 hn hw hw2 (by omega) hi
  rw [Nat.zero_add, List.length_range] at hB
  refine ⟨B, a', b', ⟨h1, hn, by omega, by omega, hB2⟩, ?_⟩
  rw [callN_at (f := t_law_book) rfl rfl]
  have z : evSs (callN tb (k + 3)) (cupSt a b).length t_law_book.body (enter t_law_book [.obj 0, .p (N n), .p (N q), .p (N w)]) (cupSt a b) = .ok (.ret (.p (bookP B))) (cupSt a' b') :=
    st_asg (ev_pars (xs := [rows m]) (ev_cons (ev_call (ev_cons (ev_var rfl) (ev_cons (ev_var rfl) (ev_cons (ev_var rfl) ev_nil))) e1) ev_nil) rfl) (by show 4 < 6; decide) (st_for (ev_rng (ev_call (ev_cons (ev_var rfl) (ev_cons (ev_var rfl) ev_nil)) e2) (by omega)) e (st_ret (ev_var rfl)))
  rw [z]; rfl
theorem same_ok : ∀ {n k : Nat} {x : P} {s : St}, Sm n x → callN tb (k + n + 1) 25 [.p x, .p x] s = .ok (.p (.bl true)) s := by
  intro n
  induction n with
  | zero =>
    intro k x s h
    cases h with
    | non => exact fn_pure (f := t_law_same) rfl rfl (st_if0 (b := _) (ev_tru (ev_un (ev_var rfl) rfl)) (st_ifT (ev_cmp (ev_var rfl) ev_lit rfl) (st_ret (ev_tv (ev_cmp (ev_var rfl) ev_lit rfl)))))
    | @int _ i => exact fn_pure (f := t_law_same) rfl rfl (st_if0 (ev_tru (ev_un (ev_var rfl) rfl)) (st_if0 (ev_cmp (ev_var rfl) ev_lit rfl) (st_if0 (ev_tru (ev_un (ev_var rfl) rfl)) (st_ifT (ev_tru (ev_un (ev_var rfl) rfl)) (st_ret (ev_tv (ev_and (b := true) (c := true) (ev_tru (ev_un (ev_var rfl) rfl)) fun _ => ev_and (b := true) (c := true) (ev_not (b := false) (ev_tru (ev_un (ev_var rfl) rfl))) fun _ => ev_cmp (x := .int i) (y := .int i) (ev_un (ev_var rfl) rfl) (ev_var rfl) (by rw [c_eq, peq_int]; exact congrArg some (decide_eq_true rfl)))))))))
    | @bl _ b =>
      refine fn_pure (f := t_law_same) rfl rfl (st_if0 (ev_tru (ev_un (ev_var rfl) rfl)) (st_if0 (ev_cmp (ev_var rfl) ev_lit rfl) (st_ifT (ev_tru (ev_un (ev_var rfl) rfl)) (st_ret ?_))))
      cases b with
      | true => exact ev_ifT (ev_tru (ev_var rfl)) (ev_tv (ev_cmp (ev_var rfl) ev_lit rfl))
      | false => exact ev_ifF (ev_tru (ev_var rfl)) (ev_tv (ev_cmp (ev_var rfl) ev_lit rfl))
  | succ n ih =>
    intro k x s h
    cases h with
    | non => exact fn_pure (f := t_law_same) rfl rfl (st_if0 (b := _) (ev_tru (ev_un (ev_var rfl) rfl)) (st_ifT (ev_cmp (ev_var rfl) ev_lit rfl) (st_ret (ev_tv (ev_cmp (ev_var rfl) ev_lit rfl)))))
    | @int _ i => exact fn_pure (f := t_law_same) rfl rfl (st_if0 (ev_tru (ev_un (ev_var rfl) rfl)) (st_if0 (ev_cmp (ev_var rfl) ev_lit rfl) (st_if0 (ev_tru (ev_un (ev_var rfl) rfl)) (st_ifT (ev_tru (ev_un (ev_var rfl) rfl)) (st_ret (ev_tv (ev_and (b := true) (c := true) (ev_tru (ev_un (ev_var rfl) rfl)) fun _ => ev_and (b := true) (c := true) (ev_not (b := false) (ev_tru (ev_un (ev_var rfl) rfl))) fun _ => ev_cmp (x := .int i) (y := .int i) (ev_un (ev_var rfl) rfl) (ev_var rfl) (by rw [c_eq, peq_int]; exact congrArg some (decide_eq_true rfl)))))))))
    | @bl _ b =>
      refine fn_pure (f := t_law_same) rfl rfl (st_if0 (ev_tru (ev_un (ev_var rfl) rfl)) (st_if0 (ev_cmp (ev_var rfl) ev_lit rfl) (st_ifT (ev_tru (ev_un (ev_var rfl) rfl)) (st_ret ?_))))
      cases b with
      | true => exact ev_ifT (ev_tru (ev_var rfl)) (ev_tv (ev_cmp (ev_var rfl) ev_lit rfl))
      | false => exact ev_ifF (ev_tru (ev_var rfl)) (ev_tv (ev_cmp (ev_var rfl) ev_lit rfl))
    | @tup _ l hl hn =>
      have e1 : ∀ i (hi : i < l.length), callN tb (k + n + 1) 25 [.p l[i], .p l[i]] s = .ok (.p (.bl true)) s := fun i hi => ih (hl _ (List.getElem_mem hi))
      refine fn_pure (f := t_law_same) rfl rfl (st_ifT (s2 := s) (ev_tru (ev_un (ev_var rfl) rfl)) (st_if0 (ev_or (b := false) (c := false) (ev_not (b := true) (ev_tru (ev_un (ev_var rfl) rfl))) fun _ => ev_cmp (x := .int l.length) (y := .int l.length) (ev_un (ev_var rfl) u_len_t) (ev_un (ev_var rfl) u_len_t) (by rw [c_ne, peq_int, decide_eq_true rfl]; rfl)) (st_ret (ev_un (x := .lst ((List.range l.length).map fun _ => .bl true)) (ev_frz (ev_compA (l := List.range l.length) (c := N) (f := fun _ => .bl true) (ev_rng (ev_un (ev_var rfl) u_len_t) hn) (fun i hi => ⟨_, rfl, ?_⟩) (by rw [List.length_range]; exact hn))) ?_))))
      · have hi := List.mem_range.mp hi
        exact ev_call (ev_cons (ev_bin (ev_var rfl) (ev_var rfl) (at_P hi)) (ev_cons (ev_bin (ev_var rfl) (ev_var rfl) (at_P hi)) ev_nil)) (e1 i hi)
      · rw [u_all_b (p := fun _ => true)]
        refine congrArg (fun z => some (P.bl z)) ?_
        rw [List.all_eq_true]
        intros; rfl
theorem cup_ok {k : Nat} {ns : List Int} (hn : ns.length ≤ 63) : ∃ a b, callN tb (k + 1) 22 [.p (.lst (ns.map P.int))] [] = .ok (.obj 0) (cupSt a b) := by
  obtain ⟨i, hi⟩ := first_ok (ns := ns)
  have ha : evU .abs (.int i) = some (N i.natAbs) := by
    rw [u_abs]
    refine congrArg (fun z => some (P.int z)) ?_
    split <;> omega
  generalize i.natAbs = c at ha
  have e1 : evE (callN tb k) (.un .abs (.bin .idx (.frz (.cat (.frz (.ofE (.var 0))) (.frz (.disp (.cons (.lit (.int 0)) .nil))))) (.lit (.int 0)))) [some (.p (.lst (ns.map P.int))), none] [] = .ok (.p (N c)) [] :=
    ev_un (ev_bin (ev_frz (ev_cat (ev_frz (ev_ofE (ev_var rfl))) (ev_frz (ev_disp (xs := [.int 0]) (ev_cons ev_lit ev_nil) rfl)) (by simp; omega))) ev_lit hi) ha
  have e2 : ∃ a, evE (callN tb k) (.ife (.cmp .ge (.var 1) (.bin .pow (.lit (.int 10)) (.lit (.int 18)))) (.bin .fdiv (.var 1) (.lit (.int 305))) (.lit (.int 0))) [some (.p (.lst (ns.map P.int))), some (.p (N c))] [] = .ok (.p (N a)) [] := by
    by_cases h : (1000000000000000000 : Int) ≤ (c : Int)
    · exact ⟨c / 305, ev_ifT (ev_cmp (ev_var rfl) (ev_bin ev_lit ev_lit pow18) (by rw [c_ge, decide_eq_true h])) (ev_bin (ev_var rfl) (ev_lit (x := N 305)) (b_fdiv (by omega) (by omega)))⟩
    · exact ⟨0, ev_ifF (ev_cmp (ev_var rfl) (ev_bin ev_lit ev_lit pow18) (by rw [c_ge, decide_eq_false h])) (ev_lit (x := N 0))⟩
  obtain ⟨a, e2⟩ := e2
  refine ⟨a, (c * 635 + 5419) % 2077503101 + 425, ?_⟩
  rw [callN_at (f := t_law_cup) rfl rfl]
  have z : evSs (callN tb k) ([] : St).length t_law_cup.body (enter t_law_cup [.p (.lst (ns.map P.int))]) [] = .ok (.ret (.obj 0)) (cupSt a ((c * 635 + 5419) % 2077503101 + 425)) :=
    st_asg e1 (by show 1 < 2; decide) (st_ret (ev_new (ev_disp (xs := [N a, N ((c * 635 + 5419) % 2077503101 + 425)]) (ev_cons e2 (ev_cons (ev_bin (ev_bin (ev_un (ev_bin (ev_bin (ev_var rfl) (ev_lit (x := N 635)) (b_mul (.inr (by omega)))) (ev_lit (x := N 5419)) b_add) u_int) (ev_lit (x := N 2077503101)) (b_mod (by omega))) (ev_lit (x := N 425)) b_add) ev_nil)) rfl)))
  rw [z]; rfl
end Ev.Pl

set_option Elab.async false
set_option linter.all false
set_option maxRecDepth 100000
set_option maxHeartbeats 400000
set_option exponentiation.threshold 5000
namespace Ev.Pl
open PySem

/-! ### rules -/
section
variable {cf : Nat → List D → St → R D} {k0 : Nat} {r r1 : En} {s s1 s2 s3 : St} {e e1 e2 : E} {x y z : P} {d d' : D} {xs : List P} {c : Nat} {fs : List P}
theorem st_ifX {b : Ss} {t : T} {u v : Ss} (h : evT cf t r s = .ok true s1) (h2 : evSs cf k0 u r s1 = .exc c fs s2) : evSs cf k0 (.cons (.ife t u v) b) r s = .exc c fs s2 := by
  rw [evSs, evS, h, R.bind_ok', if_pos rfl, h2]; rfl
theorem st_raise {b : Ss} : evSs cf k0 (.cons (.raise c .nil) b) r s = .exc c [] s := by
  rw [evSs, evS, evEs]; rfl
theorem st_exX {b : Ss} (h : evE cf e r s = .exc c fs s1) : evSs cf k0 (.cons (.ex e) b) r s = .exc c fs s1 := by
  rw [evSs, evS, h]; rfl
theorem ev_callX {g : Nat} {es : Es} {ds : List D} (h : evEs cf es r s = .ok ds s1) (hc : cf g ds s1 = .exc c fs s2) : evE cf (.call g es) r s = .exc c fs s2 := by rw [evE, h, R.bind_ok', hc]
theorem ev_word {g : Nat} {okv : P} {tab : List (Nat × Tell)} (h : evE cf e r s = .ok d s) : evE cf (.word g okv tab e) r s = .ok (.p okv) s := by
  rw [evE, h]
  dsimp only
  rw [List.take_length]
theorem ev_wordX {g : Nat} {okv : P} {tab : List (Nat × Tell)} (h : evE cf e r s = .exc c fs s) (hw : wordOf tab c fs = some x) : evE cf (.word g okv tab e) r s = .ok (.p x) s := by
  rw [evE, h]
  dsimp only
  rw [hw, List.take_length]
/-- a def that raises, the store as it was -/
theorem fn_exc {Tb : List Fn} {n g : Nat} {as : List D} {f : Fn} (h : Tb[g]? = some f) (hl : as.length = f.np) (hb : evSs (callN Tb n) s.length f.body (enter f as) s = .exc c fs s) : callN Tb (n + 1) g as s = .exc c fs s := by
  rw [callN_at h hl, hb]
  show R.exc c fs (s.take s.length) = _
  rw [List.take_length]
/-- a def that answers a plain value, what it made forgotten -/
theorem fn_new {Tb : List Fn} {n g : Nat} {as : List D} {f : Fn} {t : St} (h : Tb[g]? = some f) (hl : as.length = f.np) (hb : evSs (callN Tb n) s.length f.body (enter f as) s = .ok (.ret (.p x)) (s ++ t)) : callN Tb (n + 1) g as s = .ok (.p x) s := by
  rw [callN_at h hl, hb]
  show R.ok (D.p x) ((s ++ t).take s.length) = _
  rw [List.take_left]
theorem st_app {b : Ss} {i n : Nat} {l : List P} {res : R Fl} (hi : r[i]? = some (some (.obj n))) (hs : s[n]? = some (.lst l)) (h : evE cf e r s = .ok (.p x) s) (hl : l.length < 1000) (h2 : evSs cf k0 b r (s.set n (.lst (l ++ [x]))) = res) : evSs cf k0 (.cons (.app i e) b) r s = res := by
  rw [evSs, evS, hi]
  dsimp only
  rw [hs]
  dsimp only
  rw [h, R.bind_ok', hs]
  dsimp only
  rw [if_pos (decide_eq_true (Nat.lt_of_lt_of_le hl (le_big (Nat.le_refl _))))]
  exact h2
theorem ev_neI {i j : Nat} (h1 : evE cf e1 r s = .ok (.p (N i)) s1) (h2 : evE cf e2 r s1 = .ok (.p (N j)) s2) : evT cf (.cmp .ne e1 e2) r s = .ok (!decide (i = j)) s2 := by
  refine ev_cmp h1 h2 ?_
  rw [c_ne, peq_int]
  have : decide ((i : Int) = j) = decide (i = j) := decide_eq_decide.mpr (by omega)
  rw [this]
theorem ev_gtI {i j : Nat} (h1 : evE cf e1 r s = .ok (.p (N i)) s1) (h2 : evE cf e2 r s1 = .ok (.p (N j)) s2) : evT cf (.cmp .gt e1 e2) r s = .ok (decide (j < i)) s2 := by
  refine ev_cmp h1 h2 ?_
  rw [c_gt]
  exact congrArg some (decide_eq_decide.mpr (by omega))
theorem ev_ltI {i j : Nat} (h1 : evE cf e1 r s = .ok (.p (N i)) s1) (h2 : evE cf e2 r s1 = .ok (.p (N j)) s2) : evT cf (.cmp .lt e1 e2) r s = .ok (decide (i < j)) s2 := by
  refine ev_cmp h1 h2 ?_
  rw [c_lt]
  exact congrArg some (decide_eq_decide.mpr (by omega))
theorem ev_neB {p q : Bool} (h1 : evE cf e1 r s = .ok (.p (.bl p)) s1) (h2 : evE cf e2 r s1 = .ok (.p (.bl q)) s2) : evT cf (.cmp .ne e1 e2) r s = .ok (!decide (p = q)) s2 := by
  refine ev_cmp h1 h2 ?_
  cases p <;> cases q <;> rfl
theorem ev_neS (h1 : evE cf e1 r s = .ok (.p x) s1) (h2 : evE cf e2 r s1 = .ok (.p x) s2) (hp : P.plain 60 x = true) : evT cf (.cmp .ne e1 e2) r s = .ok false s2 := by
  refine ev_cmp h1 h2 ?_
  rw [c_ne, peq_plain hp hp, decide_eq_true rfl]; rfl
theorem ev_slcT {l : List P} {i : E} {n : Nat} (h : evE cf e r s = .ok (.p (.tup l)) s1) (hi : evE cf i r s1 = .ok (.p (N n)) s1) : evE cf (.slc e .none (.some i)) r s = .ok (.p (.tup (l.take n))) s1 := by
  rw [evE, h, R.bind_ok', evO, R.bind_ok', evO, hi, R.bind_ok']
  dsimp only
  rw [R.bind_ok', show view s1 (.p (.tup l)) = some (.tup l) from rfl]
  dsimp only
  have : cutP l none (some (n : Int)) = l.take n := by
    unfold cutP sIx
    dsimp only
    rw [if_neg (by omega)]
    simp only [List.drop_zero, Nat.sub_zero, Int.toNat_natCast]
    rw [Nat.min_def]
    split
    · rfl
    · rw [List.take_length, List.take_of_length_le (by omega)]
  rw [this]
end
theorem b_mulI {i : Int} {j : Nat} (h : j < 2 ^ 64) : evB .mul (.int i) (N j) = some (.int (i * j)) := by
  have hm : mulOk i (j : Int) = true := by
    unfold mulOk
    simp [show j < 18446744073709551616 from h]
  exact if_pos hm
theorem b_min {i j : Nat} : evB .min2 (N i) (N j) = some (N (min i j)) := by
  show some (P.int (if (j : Int) < (i : Int) then (j : Int) else i)) = _
  refine congrArg (fun z => some (P.int z)) ?_
  split <;> omega
theorem b_rep0 {n : Nat} (h : 1 ≤ n) (h2 : n ≤ 6) : evB .mul (.tup [.int 0]) (N n) = some (nats (List.replicate n 0)) := by
  have : n = 1 ∨ n = 2 ∨ n = 3 ∨ n = 4 ∨ n = 5 ∨ n = 6 := by omega
  rcases this with rfl | rfl | rfl | rfl | rfl | rfl <;> rfl
/-! ### a fraction in lowest terms -/
abbrev lowP (v : Int) (u : Nat) : P := .tup [.int (v / (Nat.gcd v.natAbs u : Int)), N (u / Nat.gcd v.natAbs u)]
abbrev gcdB : Ss := .cons (.par [2, 3] (.cons (.var 3) (.cons (.bin .mod (.un .int (.var 2)) (.un .int (.var 3))) .nil))) .nil
theorem gcd_loop {cf : Nat → List D → St → R D} {k0 : Nat} {d0 d1 : Option D} {s : St} : ∀ (f a b : Nat), b < f →
    whlGo (fun r1 s1 => evT cf (.cmp .gt (.var 3) (.lit (.int 0))) r1 s1) (fun r1 s1 => evSs cf k0 gcdB r1 s1) f [d0, d1, some (.p (N a)), some (.p (N b))] s = .ok (.next [d0, d1, some (.p (N (Nat.gcd a b))), some (.p (N 0))]) s
  | 0, a, b, h => by omega
  | f + 1, a, b, h => by
    have hc : evT cf (.cmp .gt (.var 3) (.lit (.int 0))) [d0, d1, some (.p (N a)), some (.p (N b))] s = .ok (decide (0 < b)) s := ev_gtI (i := b) (j := 0) (ev_var rfl) ev_lit
    rw [whlGo, hc, R.bind_ok']
    by_cases hb : 0 < b
    · rw [decide_eq_true hb, if_pos rfl]
      have e : evSs cf k0 gcdB [d0, d1, some (.p (N a)), some (.p (N b))] s = .ok (.next [d0, d1, some (.p (N b)), some (.p (N (a % b)))]) s :=
        st_par (ev_cons (ev_var rfl) (ev_cons (ev_bin (ev_un (ev_var rfl) u_int) (ev_un (ev_var rfl) u_int) (b_mod hb)) ev_nil)) rfl st_nil
      rw [e, R.bind_ok']
      have hl := Nat.mod_lt a hb
      refine (gcd_loop f b (a % b) (by omega)).trans ?_
      rw [Nat.gcd_comm b (a % b), ← Nat.gcd_rec, Nat.gcd_comm b a]
    · have : b = 0 := by omega
      subst this
      rw [decide_eq_false (by omega), if_neg (by simp), Nat.gcd_zero_right]
theorem b_fdivI {v : Int} {g : Nat} (h : 0 < g) (h2 : g < 2 ^ 64) : evB .fdiv (.int v) (N g) = some (.int (v / (g : Int))) := by
  have hd : divOk (g : Int) = true := by
    unfold divOk
    rw [Bool.and_eq_true, decide_eq_true_eq, decide_eq_true_eq]
    exact ⟨by omega, Nat.lt_of_lt_of_le (m := 2 ^ 64) (by omega) (Nat.pow_le_pow_right (by omega) (by omega))⟩
  exact if_pos hd
theorem low_ok {k u : Nat} {v : Int} {s : St} (hu : 0 < u) (h2 : u < 2 ^ 64) : callN tb (k + 1) 11 [.p (.int v), .p (N u)] s = .ok (.p (lowP v u)) s := by
  have hg : 0 < Nat.gcd v.natAbs u := Nat.gcd_pos_of_pos_right _ hu
  have hg2 : Nat.gcd v.natAbs u ≤ u := Nat.gcd_le_right _ hu
  have ha : evU .abs (.int v) = some (N v.natAbs) := by
    rw [u_abs]
    refine congrArg (fun z => some (P.int z)) ?_
    split <;> omega
  have lp := gcd_loop (cf := callN tb k) (k0 := s.length) (d0 := some (.p (.int v))) (d1 := some (.p (N u))) (s := s) (u + 1) v.natAbs u (by omega)
  exact fn_pure (f := t_law_low) rfl rfl (st_par (r1 := [some (.p (.int v)), some (.p (N u)), some (.p (N v.natAbs)), some (.p (N u))]) (ev_cons (ev_un (ev_var rfl) ha) (ev_cons (ev_var rfl) ev_nil)) rfl
    (st_whl lp (st_ret (ev_pars (xs := [.int (v / (Nat.gcd v.natAbs u : Int)), N (u / Nat.gcd v.natAbs u)]) (ev_cons (ev_un (ev_bin (ev_var rfl) (ev_var rfl) (b_fdivI hg (by omega))) u_int) (ev_cons (ev_un (ev_bin (ev_var rfl) (ev_var rfl) (b_fdiv hg (by omega))) u_int) ev_nil)) rfl))))
theorem lowP_scale {v : Int} {u c : Nat} (hc : 0 < c) : lowP (v * c) (u * c) = lowP v u := by
  have e : Nat.gcd (v * c).natAbs (u * c) = Nat.gcd v.natAbs u * c := by rw [Int.natAbs_mul, Int.natAbs_natCast, Nat.gcd_mul_right]
  unfold lowP
  rw [e]
  have e1 : (v * (c : Int)) / ((Nat.gcd v.natAbs u * c : Nat) : Int) = v / (Nat.gcd v.natAbs u : Int) := by
    rw [Int.natCast_mul]
    exact Int.mul_ediv_mul_of_pos_left _ _ (by omega)
  rw [e1, Nat.mul_div_mul_right _ _ hc]
end Ev.Pl

set_option Elab.async false
set_option linter.all false
set_option maxRecDepth 100000
set_option maxHeartbeats 400000
set_option exponentiation.threshold 5000
namespace Ev.Pl
open PySem

/-! ### random numbers -/
abbrev numP (q : Int × Nat) : P := .tup [.int q.1, N q.2]
def NumOk (q : Int × Nat) : Prop := 0 < q.2 ∧ q.2 ≤ 3 ∧ q.1.natAbs ≤ 4
abbrev numsP (L : List (Int × Nat)) : P := .tup (L.map numP)
theorem nums_of : ∀ {ys : List P}, (∀ y ∈ ys, ∃ q, y = numP q ∧ NumOk q) → ∃ L : List (Int × Nat), ys = L.map numP ∧ ∀ q ∈ L, NumOk q
  | [], _ => ⟨[], rfl, fun q h => absurd h List.not_mem_nil⟩
  | y :: ys, h => by
    obtain ⟨q, rfl, hq⟩ := h y List.mem_cons_self
    obtain ⟨L, e, hL⟩ := nums_of (ys := ys) fun z m => h z (List.mem_cons_of_mem _ m)
    exact ⟨q :: L, by rw [e]; rfl, fun z m => (List.mem_cons.mp m).elim (fun e => e ▸ hq) (hL z)⟩
theorem low_num {v : Int} {u : Nat} (hv : v.natAbs ≤ 4) (hu : 0 < u) (h3 : u ≤ 3) : ∃ q, lowP v u = numP q ∧ NumOk q := by
  have hg : 0 < Nat.gcd v.natAbs u := Nat.gcd_pos_of_pos_right _ hu
  have hg2 : Nat.gcd v.natAbs u ≤ u := Nat.gcd_le_right _ hu
  refine ⟨(v / (Nat.gcd v.natAbs u : Int), u / Nat.gcd v.natAbs u), rfl, Nat.div_pos hg2 hg, Nat.le_trans (Nat.div_le_self _ _) h3, ?_⟩
  exact Nat.le_trans (Int.natAbs_ediv_le_natAbs _ _) hv
theorem numbers_ok {k n a b : Nat} (hn : n ≤ 6) : ∃ L a' b', L.length = n ∧ (∀ q ∈ L, NumOk q) ∧ callN tb (k + 2) 13 [.obj 0, .p (N n)] (cupSt a b) = .ok (.p (numsP L)) (cupSt a' b') := by
  obtain ⟨ys, a', b', h1, h2, h3⟩ := ev_compC (cf := callN tb (k + 1)) (r := [some (.obj 0), some (.p (N n)), none]) (e := .call 11 (.cons (.bin .sub (.call 23 (.cons (.var 0) (.cons (.lit (.int 9)) .nil))) (.lit (.int 4))) (.cons (.bin .add (.lit (.int 1)) (.call 23 (.cons (.var 0) (.cons (.lit (.int 3)) .nil)))) .nil)))
    (vs := [2]) (tg := .name 2) (it := .rng1 (.var 1)) (c := N) (ok := fun y => ∃ q, y = numP q ∧ NumOk q) (l := List.range n) (a := a) (b := b) (ev_rng (ev_var rfl) (by omega)) (fun x hx a b => by
    obtain ⟨i, a1, b1, hi, e1⟩ := roll_ok (k := k) (a := a) (b := b) (m := 9) (by omega) (by omega)
    obtain ⟨j, a2, b2, hj, e2⟩ := roll_ok (k := k) (a := a1) (b := b1) (m := 3) (by omega) (by omega)
    obtain ⟨q, hq1, hq2⟩ := low_num (v := (i : Int) - 4) (u := 1 + j) (by omega) (by omega) (by omega)
    refine ⟨_, lowP ((i : Int) - 4) (1 + j), a2, b2, rfl, ⟨q, hq1, hq2⟩, ?_⟩
    refine ev_call (ev_cons (ev_bin (ev_call (ev_cons (ev_var rfl) (ev_cons (ev_lit (x := N 9)) ev_nil)) e1) ev_lit rfl) (ev_cons (ev_bin (ev_lit (x := N 1)) (ev_call (ev_cons (ev_var rfl) (ev_cons (ev_lit (x := N 3)) ev_nil)) e2) b_add) ev_nil)) ?_
    exact low_ok (by omega) (by omega)) (by rw [List.length_range]; omega)
  obtain ⟨L, e, hL⟩ := nums_of h2
  subst e
  refine ⟨L, a', b', by rw [List.length_map, List.length_range] at h1; exact h1, hL, ?_⟩
  rw [callN_at (f := t_law_numbers) rfl rfl]
  have z : evSs (callN tb (k + 1)) (cupSt a b).length t_law_numbers.body (enter t_law_numbers [.obj 0, .p (N n)]) (cupSt a b) = .ok (.ret (.p (numsP L))) (cupSt a' b') := st_ret (ev_un (ev_frz h3) u_tuple_l)
  rw [z]; rfl
/-! ### numbers behind a meeting -/
def prodL : List (Int × Nat) → Nat
  | [] => 1
  | q :: l => q.2 * prodL l
def valL (s u : Nat) : List (Nat × (Int × Nat)) → Int
  | [] => 0
  | q :: l => (q.1 : Int) * q.2.1 * ((u / (s * q.2.2) : Nat) : Int) + valL s u l
abbrev lowRow (L : List (Int × Nat)) (row : List Nat) : P := lowP (valL row.sum (row.sum * prodL L) (row.zip L)) (row.sum * prodL L)
theorem prodL_app {L M : List (Int × Nat)} : prodL (L ++ M) = prodL L * prodL M := by
  induction L with
  | nil => simp [prodL]
  | cons q L ih => simp [prodL, ih, Nat.mul_assoc]
theorem prodL_pos {L : List (Int × Nat)} (h : ∀ q ∈ L, NumOk q) : 0 < prodL L := by
  induction L with
  | nil => simp [prodL]
  | cons q L ih => exact Nat.mul_pos (h q List.mem_cons_self).1 (ih fun z m => h z (List.mem_cons_of_mem _ m))
theorem prodL_le {L : List (Int × Nat)} (h : ∀ q ∈ L, NumOk q) : prodL L ≤ 3 ^ L.length := by
  induction L with
  | nil => simp [prodL]
  | cons q L ih =>
    have h1 := (h q List.mem_cons_self).2.1
    have h2 := ih fun z m => h z (List.mem_cons_of_mem _ m)
    rw [List.length_cons, Nat.pow_succ, Nat.mul_comm]
    exact Nat.mul_le_mul h1 h2
theorem dvd_prodL {L : List (Int × Nat)} {q : Int × Nat} (h : q ∈ L) : q.2 ∣ prodL L := by
  induction L with
  | nil => cases h
  | cons p L ih =>
    rcases List.mem_cons.mp h with rfl | h
    · exact ⟨_, rfl⟩
    · exact Nat.dvd_trans (ih h) ⟨p.2, Nat.mul_comm _ _⟩
theorem valL_app {s u : Nat} {l m : List (Nat × (Int × Nat))} : valL s u (l ++ m) = valL s u l + valL s u m := by
  induction l with
  | nil => simp [valL]
  | cons q l ih => simp [valL, ih, Int.add_assoc]
theorem valL_nil {s u : Nat} {l : List (Nat × (Int × Nat))} (h : ∀ q ∈ l, q.1 = 0) : valL s u l = 0 := by
  induction l with
  | nil => rfl
  | cons q l ih => simp [valL, ih fun z m => h z (List.mem_cons_of_mem _ m), h q List.mem_cons_self]
theorem valL_scale {s p c : Nat} {l : List (Nat × (Int × Nat))} (hs : 0 < s) (h : ∀ q ∈ l, 0 < q.2.2 ∧ q.2.2 ∣ p) : valL s (s * (p * c)) l = valL s (s * p) l * c := by
  induction l with
  | nil => simp [valL]
  | cons q l ih =>
    obtain ⟨hd, e, he⟩ := h q List.mem_cons_self
    have h1 : s * (p * c) / (s * q.2.2) = (s * p / (s * q.2.2)) * c := by
      rw [Nat.mul_div_mul_left _ _ hs, Nat.mul_div_mul_left _ _ hs, he, Nat.mul_assoc, Nat.mul_div_cancel_left _ hd, Nat.mul_div_cancel_left _ hd]
    rw [valL, valL, ih fun z m => h z (List.mem_cons_of_mem _ m), h1, Int.natCast_mul, Int.add_mul]
    congr 1
    rw [Int.mul_assoc, Int.mul_assoc, Int.mul_assoc]
theorem sum_zeros (m : Nat) : (List.replicate m 0).sum = 0 := by simp
theorem zip_mem_snd {r : List Nat} {L : List (Int × Nat)} {q : Nat × (Int × Nat)} (h : q ∈ r.zip L) : q.2 ∈ L := (List.of_mem_zip (a := q.1) (b := q.2) h).2
theorem zip_mem_fst {r : List Nat} {L : List (Int × Nat)} {q : Nat × (Int × Nat)} (h : q ∈ r.zip L) : q.1 ∈ r := (List.of_mem_zip (a := q.1) (b := q.2) h).1
/-- weights of nought behind change nothing -/
theorem lowRow_left {L M : List (Int × Nat)} {row : List Nat} (hl : row.length = L.length) (hs : 0 < row.sum) (hL : ∀ q ∈ L, NumOk q) (hM : ∀ q ∈ M, NumOk q) : lowRow (L ++ M) (row ++ List.replicate M.length 0) = lowRow L row := by
  have e1 : (row ++ List.replicate M.length 0).sum = row.sum := by rw [List.sum_append, sum_zeros]; omega
  unfold lowRow
  rw [e1, prodL_app, List.zip_append hl, valL_app, valL_nil (l := (List.replicate M.length 0).zip M) (fun q hq => List.eq_of_mem_replicate (zip_mem_fst hq)), Int.add_zero,
    valL_scale hs (fun q hq => ⟨(hL _ (zip_mem_snd hq)).1, dvd_prodL (zip_mem_snd hq)⟩), ← Nat.mul_assoc]
  exact lowP_scale (prodL_pos hM)
/-- .. nor ahead -/
theorem lowRow_right {L M : List (Int × Nat)} {row : List Nat} (hl : row.length = M.length) (hs : 0 < row.sum) (hL : ∀ q ∈ L, NumOk q) (hM : ∀ q ∈ M, NumOk q) : lowRow (L ++ M) (List.replicate L.length 0 ++ row) = lowRow M row := by
  have e1 : (List.replicate L.length 0 ++ row).sum = row.sum := by rw [List.sum_append, sum_zeros]; omega
  unfold lowRow
  rw [e1, prodL_app, List.zip_append (by rw [List.length_replicate]), valL_app, valL_nil (l := (List.replicate L.length 0).zip L) (fun q hq => List.eq_of_mem_replicate (zip_mem_fst hq)), Int.zero_add, Nat.mul_comm (prodL L),
    valL_scale hs (fun q hq => ⟨(hM _ (zip_mem_snd hq)).1, dvd_prodL (zip_mem_snd hq)⟩), ← Nat.mul_assoc]
  exact lowP_scale (prodL_pos hL)
theorem sum_val {s u : Nat} : ∀ {l : List (Nat × (Int × Nat))}, evU .sum (.lst (l.map fun q => .int ((q.1 : Int) * q.2.1 * ((u / (s * q.2.2) : Nat) : Int)))) = some (.int (valL s u l)) := by
  intro l
  have e : sumI (l.map fun q => .int ((q.1 : Int) * q.2.1 * ((u / (s * q.2.2) : Nat) : Int))) = some (valL s u l) := by
    induction l with
    | nil => rfl
    | cons q l ih => rw [List.map_cons, sumI, ih]; rfl
  show (match sumI (l.map fun q => .int ((q.1 : Int) * q.2.1 * ((u / (s * q.2.2) : Nat) : Int))) with | some i => some (P.int i) | none => none) = _
  rw [e]
theorem b_mulNI {w : Nat} {o : Int} (h : o.natAbs < 2 ^ 64) : evB .mul (N w) (.int o) = some (.int (w * o)) := by
  have hm : mulOk (w : Int) o = true := by
    unfold mulOk
    simp [show o.natAbs < 18446744073709551616 from h]
  exact if_pos hm
theorem prodL_take {L : List (Int × Nat)} {i : Nat} {q : Int × Nat} (h : L[i]? = some q) : prodL (L.take (i + 1)) = prodL (L.take i) * q.2 := by
  rw [List.take_add_one, h, prodL_app]
  simp [prodL]
end Ev.Pl

set_option Elab.async false
set_option linter.all false
set_option maxRecDepth 100000
set_option maxHeartbeats 400000
set_option exponentiation.threshold 5000
namespace Ev.Pl
open PySem

/-! ### the numbers behind a meeting, as the law makes them -/
abbrev elt : E := .bin .mul (.bin .mul (.var 7) (.var 5)) (.bin .fdiv (.var 4) (.bin .mul (.un .sum (.var 3)) (.var 6)))
abbrev rowE : E := .call 11 (.cons (.un .sum (.frz (.comp [7, 5, 6] (.tup (.cons (.name 7) (.cons (.tup (.cons (.name 5) (.cons (.name 6) .nil))) .nil))) (.zip (.var 3) (.var 1)) .yes elt))) (.cons (.var 4) .nil))
abbrev inB : Ss := .cons (.asg 4 (.bin .mul (.var 4) (.var 6))) .nil
abbrev turnS : Ss := .cons (.asg 4 (.un .sum (.var 3))) (.cons (.fo (.tup (.cons (.name 5) (.cons (.name 6) .nil))) (.ex (.var 1)) inB) (.cons (.asg 2 (.bin .add (.var 2) (.tup (.cons rowE .nil)))) .nil))
section
variable {cf : Nat → List D → St → R D} {k0 : Nat} {s : St} {X F : P} {L : List (Int × Nat)} {row : List Nat} {d2 d5 d6 : Option D}
theorem in_loop (hL : ∀ q ∈ L, NumOk q) {u : Nat} : ∃ d5' d6', forGo (forBody cf k0 (.tup (.cons (.name 5) (.cons (.name 6) .nil))) inB) (L.map numP) [some (.p X), some (.p (numsP L)), some (.p F), some (.p (nats row)), some (.p (N u)), d5, d6, none] s =
    .ok (.next [some (.p X), some (.p (numsP L)), some (.p F), some (.p (nats row)), some (.p (N (u * prodL L))), d5', d6', none]) s := by
  obtain ⟨r', s', e, d5', d6', h1, h2⟩ := forGo_inv (f := forBody cf k0 (.tup (.cons (.name 5) (.cons (.name 6) .nil))) inB) (c := numP) (l := L) (i := 0) (s := s)
    (Inv := fun i r s1 => ∃ d5' d6', r = [some (.p X), some (.p (numsP L)), some (.p F), some (.p (nats row)), some (.p (N (u * prodL (L.take i)))), d5', d6', none] ∧ s1 = s)
    (r := [some (.p X), some (.p (numsP L)), some (.p F), some (.p (nats row)), some (.p (N u)), d5, d6, none]) ⟨d5, d6, by rw [List.take_zero, prodL, Nat.mul_one], rfl⟩ fun j q r s1 hj ⟨a5, a6, hr, hs⟩ => by
      subst hr hs
      have hq := hL q (List.mem_of_getElem? hj)
      refine ⟨_, s1, forBody_at (r2 := [some (.p X), some (.p (numsP L)), some (.p F), some (.p (nats row)), some (.p (N (u * prodL (L.take (0 + j))))), some (.p (.int q.1)), some (.p (N q.2)), none]) rfl (st_asg (ev_bin (ev_var rfl) (ev_var rfl) (b_mul (.inr (by have := hq.2.1; omega)))) (by show 4 < 8; decide) st_nil), ⟨some (.p (.int q.1)), some (.p (N q.2)), ?_, rfl⟩⟩
      rw [Nat.zero_add, prodL_take hj, ← Nat.mul_assoc]; rfl
  subst h2
  rw [Nat.zero_add, List.take_length] at h1
  exact ⟨d5', d6', by rw [e, h1]⟩
theorem zip_pairs {row : List Nat} {L : List (Int × Nat)} : pairsP (row.map N) (L.map numP) = (row.zip L).map fun q => .tup [N q.1, numP q.2] := pairs_map
end
theorem rowE_ok {k : Nat} {s : St} {X F : P} {L : List (Int × Nat)} {row : List Nat} {d5 d6 : Option D} (hL : ∀ q ∈ L, NumOk q) (h6 : L.length ≤ 6) (hr : row.length ≤ 12) (hs : 0 < row.sum) (hs2 : row.sum ≤ 2000) :
    evE (callN tb (k + 1)) rowE [some (.p X), some (.p (numsP L)), some (.p F), some (.p (nats row)), some (.p (N (row.sum * prodL L))), d5, d6, none] s = .ok (.p (lowRow L row)) s := by
  have hp := prodL_pos hL
  have hp2 : prodL L ≤ 729 := Nat.le_trans (prodL_le hL) (Nat.le_trans (Nat.pow_le_pow_right (by omega) h6) (by decide))
  have hu : row.sum * prodL L ≤ 2000 * 729 := Nat.mul_le_mul hs2 hp2
  have hu0 : 0 < row.sum * prodL L := Nat.mul_pos hs hp
  refine ev_call (ev_cons (ev_un (ev_frz (ev_compA (l := row.zip L) (c := fun q => .tup [N q.1, numP q.2]) (f := fun q => .int ((q.1 : Int) * q.2.1 * ((row.sum * prodL L / (row.sum * q.2.2) : Nat) : Int))) ?_ (fun q hq => ?_) ?_)) sum_val) (ev_cons (ev_var rfl) ev_nil)) (low_ok hu0 (by omega))
  · rw [← zip_pairs]
    exact ev_zip (ev_var rfl) (ev_var rfl)
  · have hn := hL _ (zip_mem_snd hq)
    have h1 := hn.2.1
    have hd : 0 < row.sum * q.2.2 := Nat.mul_pos hs hn.1
    have hd2 : row.sum * q.2.2 ≤ 2000 * 3 := Nat.mul_le_mul hs2 h1
    have hq2 : row.sum * prodL L / (row.sum * q.2.2) ≤ row.sum * prodL L := Nat.div_le_self _ _
    refine ⟨_, rfl, ev_bin (ev_bin (ev_var rfl) (ev_var rfl) (b_mulNI (by have := hn.2.2; omega))) (ev_bin (ev_var rfl) (ev_bin (ev_un (ev_var rfl) u_sum_t) (ev_var rfl) (b_mul (.inr (by omega)))) (b_fdiv hd (by omega))) (b_mulI (by omega))⟩
  · rw [List.length_zip]; omega
structure RowsOk (x : List (List Nat)) : Prop where
  few : x.length ≤ 12
  row : ∀ r ∈ x, r.length ≤ 12 ∧ 0 < r.sum ∧ r.sum ≤ 2000
theorem set_ok {k : Nat} {s : St} {L : List (Int × Nat)} {x : List (List Nat)} (hL : ∀ q ∈ L, NumOk q) (h6 : L.length ≤ 6) (hx : RowsOk x) : callN tb (k + 2) 12 [.p (rows x), .p (numsP L)] s = .ok (.p (.tup (x.map (lowRow L)))) s := by
  obtain ⟨r', s', e, d3, d4, d5, d6, h1, h2⟩ := forGo_inv (f := forBody (callN tb (k + 1)) s.length (.name 3) turnS) (c := nats) (l := x) (i := 0) (s := s)
    (Inv := fun i r s1 => ∃ d3 d4 d5 d6, r = [some (.p (rows x)), some (.p (numsP L)), some (.p (.tup ((x.take i).map (lowRow L)))), d3, d4, d5, d6, none] ∧ s1 = s)
    (r := [some (.p (rows x)), some (.p (numsP L)), some (.p (.tup [])), none, none, none, none, none]) ⟨none, none, none, none, rfl, rfl⟩ fun j q r s1 hj ⟨a3, a4, a5, a6, hr, hs⟩ => by
      subst hr hs
      obtain ⟨q1, q2, q3⟩ := hx.row q (List.mem_of_getElem? hj)
      obtain ⟨d5, d6, el⟩ := in_loop (cf := callN tb (k + 1)) (k0 := s1.length) (s := s1) (X := rows x) (F := .tup ((x.take (0 + j)).map (lowRow L))) (row := q) (d5 := a5) (d6 := a6) hL (u := q.sum)
      have hb : ((x.take (0 + j)).map (lowRow L)).length + [lowRow L q].length ≤ big := le_big (by rw [List.length_map, List.length_take]; have := hx.few; show min (0 + j) x.length + 1 ≤ 1000; omega)
      refine ⟨_, s1, forBody_at (r2 := [some (.p (rows x)), some (.p (numsP L)), some (.p (.tup ((x.take (0 + j)).map (lowRow L)))), some (.p (nats q)), a4, a5, a6, none]) rfl
        (st_asg (ev_un (ev_var rfl) u_sum_t) (by show 4 < 8; decide) (st_for (ev_ex (ev_var rfl) rfl) el (st_asg (ev_bin (ev_var rfl) (ev_pars (xs := [lowRow L q]) (ev_cons (rowE_ok hL h6 q1 q2 q3) ev_nil) rfl) (b_add_t hb)) (by show 2 < 8; decide) st_nil))), ⟨some (.p (nats q)), some (.p (N (q.sum * prodL L))), d5, d6, ?_, rfl⟩⟩
      rw [show x.take (0 + j + 1) = x.take (0 + j) ++ [q] by rw [List.take_add_one, Nat.zero_add, hj]; rfl, List.map_append]; rfl
  subst h2
  rw [Nat.zero_add, List.take_length] at h1
  subst h1
  exact fn_pure (f := t_law_set) rfl rfl (st_asg (ev_pars ev_nil rfl) (by show 2 < 8; decide) (st_for (ev_ex (ev_var rfl) rfl) e (st_ret (ev_var rfl))))
end Ev.Pl

set_option Elab.async false
set_option linter.all false
set_option maxRecDepth 100000
set_option maxHeartbeats 1000000
set_option exponentiation.threshold 5000
namespace Ev.Pl
open PySem

/-! ### fractions -/
theorem low_eq {v v' : Int} {u u' : Nat} (hu : 0 < u) (hu' : 0 < u') (h : v * u' = v' * u) : lowP v u = lowP v' u' := by
  rw [← lowP_scale (v := v) (u := u) hu', ← lowP_scale (v := v') (u := u') hu, h, Nat.mul_comm u u']
theorem low_cross {v v' : Int} {u u' : Nat} (hu : 0 < u) (hu' : 0 < u') (h : lowP v u = lowP v' u') : v * u' = v' * u := by
  injection h with h
  injection h with h1 h2
  injection h2 with h2 _
  injection h1 with h1
  injection h2 with h2
  have g1 : 0 < Nat.gcd v.natAbs u := Nat.gcd_pos_of_pos_right _ hu
  have g2 : 0 < Nat.gcd v'.natAbs u' := Nat.gcd_pos_of_pos_right _ hu'
  have h2 : u / Nat.gcd v.natAbs u = u' / Nat.gcd v'.natAbs u' := Int.ofNat_inj.mp h2
  generalize hg : Nat.gcd v.natAbs u = g at h1 h2 g1
  generalize hk : Nat.gcd v'.natAbs u' = k at h1 h2 g2
  have d1 : (g : Int) ∣ v := by rw [← hg]; exact Int.ofNat_dvd_left.mpr (Nat.gcd_dvd_left _ _)
  have d2 : g ∣ u := by rw [← hg]; exact Nat.gcd_dvd_right _ _
  have d3 : (k : Int) ∣ v' := by rw [← hk]; exact Int.ofNat_dvd_left.mpr (Nat.gcd_dvd_left _ _)
  have d4 : k ∣ u' := by rw [← hk]; exact Nat.gcd_dvd_right _ _
  have e1 : v = v / g * g := (Int.ediv_mul_cancel d1).symm
  have e2 : u = u / g * g := (Nat.div_mul_cancel d2).symm
  have e3 : v' = v' / k * k := (Int.ediv_mul_cancel d3).symm
  have e4 : u' = u' / k * k := (Nat.div_mul_cancel d4).symm
  rw [e1, e2, e3, e4, h1, h2]
  simp only [Int.natCast_mul]
  rw [Int.mul_assoc, Int.mul_assoc]
  congr 1
  rw [Int.mul_comm (g : Int), Int.mul_comm (k : Int), Int.mul_assoc, Int.mul_assoc, Int.mul_comm (k : Int)]
/-! ### the program's own fractions -/
theorem divisor_ok {k a b : Nat} {s : St} : callN tb (k + 1) 7 [.p (N a), .p (N b)] s = .ok (.p (N (Nat.gcd a b))) s := by
  have lp : ∀ (f a b : Nat), b < f → whlGo (fun r1 s1 => evT (callN tb k) (.cmp .gt (.var 1) (.lit (.int 0))) r1 s1) (fun r1 s1 => evSs (callN tb k) s.length (.cons (.par [0, 1] (.cons (.var 1) (.cons (.bin .mod (.var 0) (.var 1)) .nil))) .nil) r1 s1) f [some (.p (N a)), some (.p (N b))] s = .ok (.next [some (.p (N (Nat.gcd a b))), some (.p (N 0))]) s := by
    intro f
    induction f with
    | zero => intro a b h; omega
    | succ f ih =>
      intro a b h
      have hc : evT (callN tb k) (.cmp .gt (.var 1) (.lit (.int 0))) [some (.p (N a)), some (.p (N b))] s = .ok (decide (0 < b)) s := ev_gtI (i := b) (j := 0) (ev_var rfl) ev_lit
      rw [whlGo, hc, R.bind_ok']
      by_cases hb : 0 < b
      · rw [decide_eq_true hb, if_pos rfl]
        have e : evSs (callN tb k) s.length (.cons (.par [0, 1] (.cons (.var 1) (.cons (.bin .mod (.var 0) (.var 1)) .nil))) .nil) [some (.p (N a)), some (.p (N b))] s = .ok (.next [some (.p (N b)), some (.p (N (a % b)))]) s :=
          st_par (ev_cons (ev_var rfl) (ev_cons (ev_bin (ev_var rfl) (ev_var rfl) (b_mod hb)) ev_nil)) rfl st_nil
        rw [e, R.bind_ok']
        have hl := Nat.mod_lt a hb
        refine (ih b (a % b) (by omega)).trans ?_
        rw [Nat.gcd_comm b (a % b), ← Nat.gcd_rec, Nat.gcd_comm b a]
      · have : b = 0 := by omega
        subst this
        rw [decide_eq_false (by omega), if_neg (by simp), Nat.gcd_zero_right]
  exact fn_pure (f := t_divisor_of) rfl rfl (st_whl (lp (b + 1) a b (by omega)) (st_ret (ev_var rfl)))
theorem lowest_ok {k u : Nat} {v : Int} {s : St} (hu : 0 < u) (h2 : u < 2 ^ 64) : callN tb (k + 2) 8 [.p (.int v), .p (N u)] s = .ok (.p (lowP v u)) s := by
  have hg : 0 < Nat.gcd v.natAbs u := Nat.gcd_pos_of_pos_right _ hu
  have hg2 : Nat.gcd v.natAbs u ≤ u := Nat.gcd_le_right _ hu
  have ha : evU .abs (.int v) = some (N v.natAbs) := by
    rw [u_abs]
    refine congrArg (fun z => some (P.int z)) ?_
    split <;> omega
  exact fn_pure (f := t_lowest) rfl rfl (st_asg (ev_call (ev_cons (ev_un (ev_var rfl) ha) (ev_cons (ev_var rfl) ev_nil)) (divisor_ok (k := k))) (by show 2 < 3; decide) (st_ret (ev_pars (xs := [.int (v / (Nat.gcd v.natAbs u : Int)), N (u / Nat.gcd v.natAbs u)]) (ev_cons (ev_bin (ev_var rfl) (ev_var rfl) (b_fdivI hg (by omega))) (ev_cons (ev_bin (ev_var rfl) (ev_var rfl) (b_fdiv hg (by omega))) ev_nil)) rfl)))
end Ev.Pl

set_option Elab.async false
set_option linter.all false
set_option maxRecDepth 100000
set_option maxHeartbeats 1000000
set_option exponentiation.threshold 5000
namespace Ev.Pl
open PySem

/-! ### lumps: each member's part for each lump -/
abbrev Lumps := List (List Nat)
def pick (r : List Nat) (i : Nat) : Nat := (r[i]?).getD 0
def rowAt (m : List (List Nat)) (i : Nat) : List Nat := (m[i]?).getD []
/-- the weights of a row for a lump -/
def wt (r : List Nat) (lump : List Nat) : Nat := (lump.map fun at_ => pick r at_).sum
def partP (m : List (List Nat)) (own : Nat) (lump : List Nat) : P := lowP (wt (rowAt m own) lump : Nat) (rowAt m own).sum
def alike (l : List P) : Bool := l.all fun x => decide (some x = l.head?)
def lumpedB (m : List (List Nat)) (lumps : Lumps) : Bool := lumps.all fun lump => lumps.all fun other => alike (lump.map fun own => partP m own other)
/-- lumps that cover the members -/
structure LumpsOk (n : Nat) (l : Lumps) : Prop where
  ne : ∀ x ∈ l, x ≠ []
  lt : ∀ x ∈ l, ∀ i ∈ x, i < n
  few : l.length ≤ 12
  small : ∀ x ∈ l, x.length ≤ 12
theorem row_at {n : Nat} {m : List (List Nat)} (g : GoodM n m) {i : Nat} (h : i < n) : m[i]? = some (rowAt m i) ∧ rowAt m i ∈ m := by
  have hl : i < m.length := by rw [g.len]; exact h
  have e : m[i]? = some m[i] := List.getElem?_eq_getElem hl
  have e2 : rowAt m i = m[i] := by unfold rowAt; rw [e]; rfl
  exact ⟨by rw [e2]; exact e, by rw [e2]; exact List.getElem_mem hl⟩
theorem pick_at {r : List Nat} {i : Nat} (h : i < r.length) : r[i]? = some (pick r i) := by
  have e : r[i]? = some r[i] := List.getElem?_eq_getElem h
  have e2 : pick r i = r[i] := by unfold pick; rw [e]; rfl
  rw [e2]; exact e
theorem sum_le {l : List Nat} (h : ∀ x ∈ l, x ≤ 99) : l.sum ≤ 99 * l.length := by
  induction l with
  | nil => simp
  | cons x l ih =>
    have h1 := h x List.mem_cons_self
    have h2 := ih fun z m => h z (List.mem_cons_of_mem _ m)
    rw [List.sum_cons, List.length_cons]
    omega
theorem row_sum {n : Nat} {m : List (List Nat)} (h6 : n ≤ 6) (g : GoodM n m) {r : List Nat} (h : r ∈ m) : 0 < r.sum ∧ r.sum ≤ 594 := by
  obtain ⟨h1, h2, h3⟩ := g.row r h
  have := sum_le h2
  exact ⟨h3, by omega⟩
section
variable {k n : Nat} {m : List (List Nat)} {s : St}
theorem part_for_ok (h6 : n ≤ 6) (g : GoodM n m) {own : Nat} {lump : List Nat} (ho : own < n) (hl : ∀ i ∈ lump, i < n) (hs : lump.length ≤ 12) : callN tb (k + 3) 19 [.p (nats (rowAt m own)), .p (nats lump)] s = .ok (.p (partP m own lump)) s := by
  obtain ⟨_, hm⟩ := row_at g ho
  have hr := g.row _ hm
  have hsm := row_sum h6 g hm
  refine fn_pure (f := t_part_for) rfl rfl (st_ret (ev_call (ev_cons (ev_un (x := .lst ((lump.map fun at_ => pick (rowAt m own) at_).map N)) (ev_frz ?_) u_sum_l) (ev_cons (ev_un (ev_var rfl) u_sum_t) ev_nil)) (lowest_ok (k := k) hsm.1 (by omega))))
  rw [List.map_map]
  exact ev_compA (l := lump) (c := N) (f := fun at_ => N (pick (rowAt m own) at_)) (ev_ex (ev_var rfl) rfl) (fun at_ ha => ⟨_, rfl, ev_bin (ev_var rfl) (ev_var rfl) (at_map (c := N) (pick_at (by rw [hr.1]; exact hl _ ha)))⟩) (by omega)
end
theorem low_beq {x y : P} (hx : P.plain 60 x = true) (hy : P.plain 60 y = true) : (match peq x y with | some c => some (!c) | none => none) = some (!decide (x = y)) := by rw [peq_plain hx hy]
theorem plain_low {v : Int} {u : Nat} {n : Nat} : P.plain (n + 1) (lowP v u) = true := by
  rw [P.plain, P.plains, P.plains, P.plains]
  cases n <;> simp [P.plain]
theorem plain_part {m : List (List Nat)} {own : Nat} {lump : List Nat} {n : Nat} : P.plain (n + 1) (partP m own lump) = true := plain_low
theorem any_diff {l : List P} {x : P} (h : l.head? = some x) : (l.any fun y => !decide (y = x)) = !alike l := by
  unfold alike
  rw [h, ← List.not_all_eq_any_not]
  congr 2
  funext y
  simp
abbrev partsE : E := .frz (.comp [5] (.name 5) (.ex (.var 2)) .yes (.call 19 (.cons (.bin .idx (.var 0) (.var 5)) (.cons (.var 3) .nil))))
abbrev turnO : Ss := .cons (.asg 4 partsE) (.cons (.ife (.tru (.un .any (.frz (.comp [5] (.name 5) (.ex (.var 4)) .yes (.tv (.cmp .ne (.var 5) (.bin .idx (.var 4) (.lit (.int 0))))))))) (.cons (.ret (.lit (.bl false))) .nil) .nil) .nil)
abbrev envI (m : List (List Nat)) (lumps : Lumps) (d2 d3 d4 : Option D) : En := [some (.p (rows m)), some (.p (rows lumps)), d2, d3, d4, none]
section
variable {k n : Nat} {m : List (List Nat)} {lumps : Lumps} {s : St}
theorem turnO_ok {k0 : Nat} (h6 : n ≤ 6) (g : GoodM n m) (L : LumpsOk n lumps) {lump other : List Nat} (h1 : lump ∈ lumps) (h2 : other ∈ lumps) {d3 d4 : Option D} :
    (alike (lump.map fun own => partP m own other) = true → ∃ d4', forBody (callN tb (k + 3)) k0 (.name 3) turnO (nats other) (envI m lumps (some (.p (nats lump))) d3 d4) s = .ok (.next (envI m lumps (some (.p (nats lump))) (some (.p (nats other))) d4')) s) ∧
    (alike (lump.map fun own => partP m own other) = false → forBody (callN tb (k + 3)) k0 (.name 3) turnO (nats other) (envI m lumps (some (.p (nats lump))) d3 d4) s = .ok (.ret (.p (.bl false))) s) := by
  have hs := L.small lump h1
  have e1 : evE (callN tb (k + 3)) partsE (envI m lumps (some (.p (nats lump))) (some (.p (nats other))) d4) s = .ok (.p (.lst (lump.map fun own => partP m own other))) s :=
    ev_frz (ev_compA (l := lump) (c := N) (f := fun own => partP m own other) (ev_ex (ev_var rfl) rfl) (fun own ho => ⟨_, rfl, ev_call (ev_cons (ev_bin (ev_var rfl) (ev_var rfl) (at_map (c := nats) (row_at g (L.lt lump h1 own ho)).1)) (ev_cons (ev_var rfl) ev_nil)) (part_for_ok h6 g (L.lt lump h1 own ho) (L.lt other h2) (L.small other h2))⟩) (by omega))
  obtain ⟨own0, rest, e0⟩ : ∃ a l, lump = a :: l := by
    cases lump with
    | nil => exact absurd rfl (L.ne _ h1)
    | cons a l => exact ⟨a, l, rfl⟩
  have e2 : evT (callN tb (k + 3)) (.tru (.un .any (.frz (.comp [5] (.name 5) (.ex (.var 4)) .yes (.tv (.cmp .ne (.var 5) (.bin .idx (.var 4) (.lit (.int 0))))))))) (envI m lumps (some (.p (nats lump))) (some (.p (nats other))) (some (.p (.lst (lump.map fun own => partP m own other))))) s = .ok (!alike (lump.map fun own => partP m own other)) s := by
    refine ev_tru (ev_un (x := .lst ((lump.map fun own => partP m own other).map fun y => .bl (!decide (y = partP m own0 other)))) (ev_frz (ev_compA (l := lump.map fun own => partP m own other) (c := fun y => y) (f := fun y => .bl (!decide (y = partP m own0 other))) (ev_ex (ev_var rfl) (by rw [List.map_id']; rfl)) (fun y hy => ⟨_, rfl, ev_tv (ev_cmp (ev_var rfl) (ev_bin (z := partP m own0 other) (ev_var rfl) ev_lit (by rw [e0]; exact at_P (l := partP m own0 other :: rest.map fun own => partP m own other) (i := 0) (by simp))) ?_)⟩) (by rw [List.length_map]; omega))) ?_)
    · obtain ⟨own, _, rfl⟩ := List.mem_map.mp hy
      rw [c_ne]
      exact low_beq plain_part plain_part
    · rw [u_any_b, any_diff (by rw [e0]; rfl)]
  constructor
  · intro ha
    rw [ha] at e2
    exact ⟨_, forBody_at (r2 := envI m lumps (some (.p (nats lump))) (some (.p (nats other))) d4) rfl (st_asg e1 (by show 4 < 6; decide) (st_if0 e2 st_nil))⟩
  · intro ha
    rw [ha] at e2
    exact forBody_at (r2 := envI m lumps (some (.p (nats lump))) (some (.p (nats other))) d4) rfl (st_asg e1 (by show 4 < 6; decide) (st_ifT e2 (st_ret ev_lit)))
abbrev turnJ : Ss := .cons (.fo (.name 3) (.ex (.var 1)) turnO) .nil
theorem turnJ_ok {k0 : Nat} (h6 : n ≤ 6) (g : GoodM n m) (L : LumpsOk n lumps) {lump : List Nat} (h1 : lump ∈ lumps) {d2 d3 d4 : Option D} :
    ((lumps.all fun other => alike (lump.map fun own => partP m own other)) = true → ∃ d3' d4', forBody (callN tb (k + 3)) k0 (.name 2) turnJ (nats lump) (envI m lumps d2 d3 d4) s = .ok (.next (envI m lumps (some (.p (nats lump))) d3' d4')) s) ∧
    ((lumps.all fun other => alike (lump.map fun own => partP m own other)) = false → forBody (callN tb (k + 3)) k0 (.name 2) turnJ (nats lump) (envI m lumps d2 d3 d4) s = .ok (.ret (.p (.bl false))) s) := by
  obtain ⟨f1, f2⟩ := forGo_search (f := forBody (callN tb (k + 3)) k0 (.name 3) turnO) (c := nats) (p := fun other => alike (lump.map fun own => partP m own other)) (d := .p (.bl false)) (s := s) (I := fun r => ∃ d3 d4, r = envI m lumps (some (.p (nats lump))) d3 d4) (l := lumps) (r := envI m lumps (some (.p (nats lump))) d3 d4) ⟨d3, d4, rfl⟩ fun other ho r ⟨a3, a4, hr⟩ => by
    subst hr
    obtain ⟨q1, q2⟩ := turnO_ok (k := k) (k0 := k0) (s := s) h6 g L h1 ho (d3 := a3) (d4 := a4)
    exact ⟨fun z => let ⟨d4', e⟩ := q1 z; ⟨_, e, _, _, rfl⟩, q2⟩
  constructor
  · intro z
    obtain ⟨r', e, d3', d4', rfl⟩ := f1 z
    exact ⟨d3', d4', forBody_at (r2 := envI m lumps (some (.p (nats lump))) d3 d4) rfl (st_for (ev_ex (ev_var rfl) rfl) e st_nil)⟩
  · intro z
    exact forBody_at (r2 := envI m lumps (some (.p (nats lump))) d3 d4) rfl (st_forR (ev_ex (ev_var rfl) rfl) (f2 z))
theorem is_lumped_ok (h6 : n ≤ 6) (g : GoodM n m) (L : LumpsOk n lumps) : callN tb (k + 4) 20 [.p (rows m), .p (rows lumps)] s = .ok (.p (.bl (lumpedB m lumps))) s := by
  obtain ⟨f1, f2⟩ := forGo_search (f := forBody (callN tb (k + 3)) s.length (.name 2) turnJ) (c := nats) (p := fun lump => lumps.all fun other => alike (lump.map fun own => partP m own other)) (d := .p (.bl false)) (s := s) (I := fun r => ∃ d2 d3 d4, r = envI m lumps d2 d3 d4) (l := lumps) (r := envI m lumps none none none) ⟨none, none, none, rfl⟩ fun lump hl r ⟨a2, a3, a4, hr⟩ => by
    subst hr
    obtain ⟨q1, q2⟩ := turnJ_ok (k := k) (k0 := s.length) (s := s) h6 g L hl (d2 := a2) (d3 := a3) (d4 := a4)
    exact ⟨fun z => let ⟨d3', d4', e⟩ := q1 z; ⟨_, e, _, _, _, rfl⟩, q2⟩
  cases hb : lumpedB m lumps with
  | true =>
    obtain ⟨r', e, d2, d3, d4, rfl⟩ := f1 hb
    exact fn_pure (f := t_is_lumped) rfl rfl (st_for (ev_ex (ev_var rfl) rfl) e (st_ret ev_lit))
  | false => exact fn_pure (f := t_is_lumped) rfl rfl (st_forR (ev_ex (ev_var rfl) rfl) (f2 hb))
end
end Ev.Pl

set_option Elab.async false
set_option linter.all false
set_option maxRecDepth 100000
set_option maxHeartbeats 1000000
set_option exponentiation.threshold 5000
namespace Ev.Pl
open PySem

/-! ### the law's own look at lumps -/
theorem any_beq {x : P} {l : List P} : l.any (P.beq x) = true ↔ x ∈ l := by
  rw [List.any_eq_true]
  exact ⟨fun ⟨y, h1, h2⟩ => by rw [P.eq_of_beq _ _ h2]; exact h1, fun h => ⟨x, h, P.beq_self x⟩⟩
theorem mem_dedupP {x : P} : ∀ {l : List P}, x ∈ dedupP l ↔ x ∈ l
  | [] => by simp [dedupP]
  | y :: l => by
    rw [dedupP]
    split
    · rename_i h
      rw [mem_dedupP, List.mem_cons]
      exact ⟨.inr, fun z => z.elim (fun e => e ▸ any_beq.mp h) id⟩
    · rw [List.mem_cons, List.mem_cons, mem_dedupP]
theorem nodup_dedupP : ∀ {l : List P}, (dedupP l).Nodup
  | [] => .nil
  | y :: l => by
    rw [dedupP]
    split
    · exact nodup_dedupP
    · rename_i h
      rw [List.nodup_cons]
      exact ⟨fun m => h (any_beq.mpr (mem_dedupP.mp m)), nodup_dedupP⟩
theorem dedup_one {l : List P} {x : P} (h : l.head? = some x) : decide (1 < (dedupP l).length) = !alike l := by
  have hx : x ∈ l := List.mem_of_head? h
  cases ha : alike l with
  | true =>
    have all : ∀ y ∈ dedupP l, y = x := fun y hy => by
      have z := List.all_eq_true.mp ha y (mem_dedupP.mp hy)
      rw [h] at z
      exact Option.some.inj (of_decide_eq_true z)
    have nd := nodup_dedupP (l := l)
    have : (dedupP l).length ≤ 1 := by
      cases e : dedupP l with
      | nil => simp
      | cons a t =>
        cases t with
        | nil => simp
        | cons b t =>
          rw [e] at nd all
          have h1 := all a (by simp)
          have h2 := all b (by simp)
          rw [List.nodup_cons] at nd
          exact absurd (by rw [h1, h2]; simp) nd.1
    rw [decide_eq_false (by omega)]; rfl
  | false =>
    have : ∃ y ∈ l, y ≠ x := Classical.byContradiction fun z => by
      have : alike l = true := List.all_eq_true.mpr fun y hy => by
        rw [h]
        exact decide_eq_true (congrArg some (Classical.byContradiction fun q => z ⟨y, hy, q⟩))
      rw [ha] at this
      cases this
    obtain ⟨y, hy, ne⟩ := this
    have m1 := mem_dedupP.mpr hx
    have m2 := mem_dedupP.mpr hy
    have : 1 < (dedupP l).length := by
      cases e : dedupP l with
      | nil => rw [e] at m1; cases m1
      | cons a t =>
        cases t with
        | nil =>
          rw [e] at m1 m2
          exact absurd ((List.mem_singleton.mp m2).trans (List.mem_singleton.mp m1).symm) ne
        | cons b t => simp
    rw [decide_eq_true this]; rfl
theorem has_part {m : List (List Nat)} {own : Nat} {lump : List Nat} : P.has (.seq .int) (partP m own lump) = true := by
  show P.hasAll .int [_, _] = true
  rfl
theorem has_parts {m : List (List Nat)} {other : List Nat} : ∀ {l : List Nat}, P.hasAll (.seq .int) (l.map fun own => partP m own other) = true
  | [] => rfl
  | a :: l => by
    rw [List.map_cons, P.hasAll, has_part, has_parts]; rfl
abbrev partsL : E := .frz (.comp [6] (.name 6) (.ex (.var 3)) .yes (.call 11 (.cons (.un .sum (.frz (.comp [7] (.name 7) (.ex (.var 4)) .yes (.bin .idx (.bin .idx (.var 2) (.var 6)) (.var 7))))) (.cons (.un .sum (.bin .idx (.var 2) (.var 6))) .nil))))
abbrev turnC : Ss := .cons (.asg 5 partsL) (.cons (.ife (.cmp .gt (.un .nset (.var 5)) (.lit (.int 1))) (.cons (.ret (.lit (.bl false))) .nil) .nil) .nil)
abbrev envC (b : List (List (List Nat))) (lumps : Lumps) (d2 d3 d4 d5 : Option D) : En := [some (.p (bookP b)), some (.p (rows lumps)), d2, d3, d4, d5, none, none]
section
variable {k n : Nat} {b : List (List (List Nat))} {m : List (List Nat)} {lumps : Lumps} {s : St}
theorem turnC_ok {k0 : Nat} (h6 : n ≤ 6) (g : GoodM n m) (L : LumpsOk n lumps) {lump other : List Nat} (h1 : lump ∈ lumps) (h2 : other ∈ lumps) {d4 d5 : Option D} :
    (alike (lump.map fun own => partP m own other) = true → ∃ d5', forBody (callN tb (k + 1)) k0 (.name 4) turnC (nats other) (envC b lumps (some (.p (rows m))) (some (.p (nats lump))) d4 d5) s = .ok (.next (envC b lumps (some (.p (rows m))) (some (.p (nats lump))) (some (.p (nats other))) d5')) s) ∧
    (alike (lump.map fun own => partP m own other) = false → forBody (callN tb (k + 1)) k0 (.name 4) turnC (nats other) (envC b lumps (some (.p (rows m))) (some (.p (nats lump))) d4 d5) s = .ok (.ret (.p (.bl false))) s) := by
  have hs := L.small lump h1
  have e1 : evE (callN tb (k + 1)) partsL (envC b lumps (some (.p (rows m))) (some (.p (nats lump))) (some (.p (nats other))) d5) s = .ok (.p (.lst (lump.map fun own => partP m own other))) s := by
    refine ev_frz (ev_compA (l := lump) (c := N) (f := fun own => partP m own other) (ev_ex (ev_var rfl) rfl) (fun own ho => ⟨_, rfl, ?_⟩) (by omega))
    obtain ⟨r1, r2⟩ := row_at g (L.lt lump h1 own ho)
    have hr := g.row _ r2
    have hsm := row_sum h6 g r2
    refine ev_call (ev_cons (ev_un (x := .lst ((other.map fun at_ => pick (rowAt m own) at_).map N)) (ev_frz ?_) u_sum_l) (ev_cons (ev_un (ev_bin (ev_var rfl) (ev_var rfl) (at_map (c := nats) r1)) u_sum_t) ev_nil)) (low_ok hsm.1 (by omega))
    rw [List.map_map]
    exact ev_compA (l := other) (c := N) (f := fun at_ => N (pick (rowAt m own) at_)) (ev_ex (ev_var rfl) rfl) (fun at_ ha => ⟨_, rfl, ev_bin (ev_bin (ev_var rfl) (ev_var rfl) (at_map (c := nats) r1)) (ev_var rfl) (at_map (c := N) (pick_at (by rw [hr.1]; exact L.lt other h2 _ ha)))⟩) (by have := L.small other h2; omega)
  obtain ⟨own0, rest, e0⟩ : ∃ a l, lump = a :: l := by
    cases lump with
    | nil => exact absurd rfl (L.ne _ h1)
    | cons a l => exact ⟨a, l, rfl⟩
  have e2 : evT (callN tb (k + 1)) (.cmp .gt (.un .nset (.var 5)) (.lit (.int 1))) (envC b lumps (some (.p (rows m))) (some (.p (nats lump))) (some (.p (nats other))) (some (.p (.lst (lump.map fun own => partP m own other))))) s = .ok (!alike (lump.map fun own => partP m own other)) s := by
    have q : evU .nset (.lst (lump.map fun own => partP m own other)) = some (N (dedupP (lump.map fun own => partP m own other)).length) := by
      show (if P.hasAll (.seq .int) (lump.map fun own => partP m own other) && decide ((lump.map fun own => partP m own other).length < 64) then _ else none) = _
      rw [has_parts, decide_eq_true (by rw [List.length_map]; omega)]; rfl
    have z := ev_gtI (cf := callN tb (k + 1)) (r := envC b lumps (some (.p (rows m))) (some (.p (nats lump))) (some (.p (nats other))) (some (.p (.lst (lump.map fun own => partP m own other))))) (s := s) (e1 := .un .nset (.var 5)) (e2 := .lit (.int 1)) (i := (dedupP (lump.map fun own => partP m own other)).length) (j := 1) (ev_un (ev_var (d := .p (.lst (lump.map fun own => partP m own other))) rfl) q) ev_lit
    rw [dedup_one (by rw [e0]; rfl)] at z
    exact z
  constructor
  · intro ha
    rw [ha] at e2
    exact ⟨_, forBody_at (r2 := envC b lumps (some (.p (rows m))) (some (.p (nats lump))) (some (.p (nats other))) d5) rfl (st_asg e1 (by show 5 < 8; decide) (st_if0 e2 st_nil))⟩
  · intro ha
    rw [ha] at e2
    exact forBody_at (r2 := envC b lumps (some (.p (rows m))) (some (.p (nats lump))) (some (.p (nats other))) d5) rfl (st_asg e1 (by show 5 < 8; decide) (st_ifT e2 (st_ret ev_lit)))
abbrev turnC2 : Ss := .cons (.fo (.name 4) (.ex (.var 1)) turnC) .nil
abbrev turnC3 : Ss := .cons (.fo (.name 3) (.ex (.var 1)) turnC2) .nil
theorem turnC2_ok {k0 : Nat} (h6 : n ≤ 6) (g : GoodM n m) (L : LumpsOk n lumps) {lump : List Nat} (h1 : lump ∈ lumps) {d3 d4 d5 : Option D} :
    ((lumps.all fun other => alike (lump.map fun own => partP m own other)) = true → ∃ d4' d5', forBody (callN tb (k + 1)) k0 (.name 3) turnC2 (nats lump) (envC b lumps (some (.p (rows m))) d3 d4 d5) s = .ok (.next (envC b lumps (some (.p (rows m))) (some (.p (nats lump))) d4' d5')) s) ∧
    ((lumps.all fun other => alike (lump.map fun own => partP m own other)) = false → forBody (callN tb (k + 1)) k0 (.name 3) turnC2 (nats lump) (envC b lumps (some (.p (rows m))) d3 d4 d5) s = .ok (.ret (.p (.bl false))) s) := by
  obtain ⟨f1, f2⟩ := forGo_search (f := forBody (callN tb (k + 1)) k0 (.name 4) turnC) (c := nats) (p := fun other => alike (lump.map fun own => partP m own other)) (d := .p (.bl false)) (s := s) (I := fun r => ∃ d4 d5, r = envC b lumps (some (.p (rows m))) (some (.p (nats lump))) d4 d5) (l := lumps) (r := envC b lumps (some (.p (rows m))) (some (.p (nats lump))) d4 d5) ⟨d4, d5, rfl⟩ fun other ho r ⟨a4, a5, hr⟩ => by
    subst hr
    obtain ⟨q1, q2⟩ := turnC_ok (k := k) (k0 := k0) (b := b) (s := s) h6 g L h1 ho (d4 := a4) (d5 := a5)
    exact ⟨fun z => let ⟨d5', e⟩ := q1 z; ⟨_, e, _, _, rfl⟩, q2⟩
  constructor
  · intro z
    obtain ⟨r', e, d4', d5', rfl⟩ := f1 z
    exact ⟨d4', d5', forBody_at (r2 := envC b lumps (some (.p (rows m))) (some (.p (nats lump))) d4 d5) rfl (st_for (ev_ex (ev_var rfl) rfl) e st_nil)⟩
  · intro z
    exact forBody_at (r2 := envC b lumps (some (.p (rows m))) (some (.p (nats lump))) d4 d5) rfl (st_forR (ev_ex (ev_var rfl) rfl) (f2 z))
theorem turnC3_ok {k0 : Nat} (h6 : n ≤ 6) (g : GoodM n m) (L : LumpsOk n lumps) {d2 d3 d4 d5 : Option D} :
    (lumpedB m lumps = true → ∃ d3' d4' d5', forBody (callN tb (k + 1)) k0 (.name 2) turnC3 (rows m) (envC b lumps d2 d3 d4 d5) s = .ok (.next (envC b lumps (some (.p (rows m))) d3' d4' d5')) s) ∧
    (lumpedB m lumps = false → forBody (callN tb (k + 1)) k0 (.name 2) turnC3 (rows m) (envC b lumps d2 d3 d4 d5) s = .ok (.ret (.p (.bl false))) s) := by
  obtain ⟨f1, f2⟩ := forGo_search (f := forBody (callN tb (k + 1)) k0 (.name 3) turnC2) (c := nats) (p := fun lump => lumps.all fun other => alike (lump.map fun own => partP m own other)) (d := .p (.bl false)) (s := s) (I := fun r => ∃ d3 d4 d5, r = envC b lumps (some (.p (rows m))) d3 d4 d5) (l := lumps) (r := envC b lumps (some (.p (rows m))) d3 d4 d5) ⟨d3, d4, d5, rfl⟩ fun lump hl r ⟨a3, a4, a5, hr⟩ => by
    subst hr
    obtain ⟨q1, q2⟩ := turnC2_ok (k := k) (k0 := k0) (b := b) (s := s) h6 g L hl (d3 := a3) (d4 := a4) (d5 := a5)
    exact ⟨fun z => let ⟨d4', d5', e⟩ := q1 z; ⟨_, e, _, _, _, rfl⟩, q2⟩
  constructor
  · intro z
    obtain ⟨r', e, d3', d4', d5', rfl⟩ := f1 z
    exact ⟨d3', d4', d5', forBody_at (r2 := envC b lumps (some (.p (rows m))) d3 d4 d5) rfl (st_for (ev_ex (ev_var rfl) rfl) e st_nil)⟩
  · intro z
    exact forBody_at (r2 := envC b lumps (some (.p (rows m))) d3 d4 d5) rfl (st_forR (ev_ex (ev_var rfl) rfl) (f2 z))
def canB (b : List (List (List Nat))) (lumps : Lumps) : Bool := b.all fun m => lumpedB m lumps
theorem law_can_ok (g : GoodB n b) (L : LumpsOk n lumps) : callN tb (k + 2) 37 [.p (bookP b), .p (rows lumps)] s = .ok (.p (.bl (canB b lumps))) s := by
  obtain ⟨f1, f2⟩ := forGo_search (f := forBody (callN tb (k + 1)) s.length (.name 2) turnC3) (c := rows) (p := fun m => lumpedB m lumps) (d := .p (.bl false)) (s := s) (I := fun r => ∃ d2 d3 d4 d5, r = envC b lumps d2 d3 d4 d5) (l := b) (r := envC b lumps none none none none) ⟨none, none, none, none, rfl⟩ fun m hm r ⟨a2, a3, a4, a5, hr⟩ => by
    subst hr
    obtain ⟨q1, q2⟩ := turnC3_ok (k := k) (k0 := s.length) (b := b) (s := s) g.le (g.all m hm) L (d2 := a2) (d3 := a3) (d4 := a4) (d5 := a5)
    exact ⟨fun z => let ⟨d3', d4', d5', e⟩ := q1 z; ⟨_, e, _, _, _, _, rfl⟩, q2⟩
  cases hb : canB b lumps with
  | true =>
    obtain ⟨r', e, d2, d3, d4, d5, rfl⟩ := f1 hb
    exact fn_pure (f := t_law_can) rfl rfl (st_for (ev_ex (ev_var rfl) rfl) e (st_ret ev_lit))
  | false => exact fn_pure (f := t_law_can) rfl rfl (st_forR (ev_ex (ev_var rfl) rfl) (f2 hb))
end
end Ev.Pl

set_option Elab.async false
set_option linter.all false
set_option maxRecDepth 100000
set_option maxHeartbeats 1000000
set_option exponentiation.threshold 5000
namespace Ev.Pl
open PySem

/-! ### all lumps of few members -/
def partsOf : Nat → List Lumps
  | 1 => [[[0]]]
  | 2 => [[[0], [1]], [[0, 1]]]
  | 3 => [[[0], [1], [2]], [[0], [1, 2]], [[0, 1], [2]], [[0, 1, 2]], [[0, 2], [1]]]
  | 4 => [[[0], [1], [2], [3]], [[0], [1], [2, 3]], [[0], [1, 2], [3]], [[0], [1, 2, 3]], [[0], [1, 3], [2]], [[0, 1], [2], [3]], [[0, 1], [2, 3]], [[0, 1, 2], [3]], [[0, 1, 2, 3]], [[0, 1, 3], [2]], [[0, 2], [1], [3]], [[0, 2], [1, 3]], [[0, 2, 3], [1]], [[0, 3], [1], [2]], [[0, 3], [1, 2]]]
  | _ => []
theorem parts_cases {n : Nat} (h1 : 1 ≤ n) (h4 : n ≤ 4) : n = 1 ∨ n = 2 ∨ n = 3 ∨ n = 4 := by omega
theorem parts_ok {k n x y : Nat} (h1 : 1 ≤ n) (h4 : n ≤ 4) : callN tb (k + 1) 28 [.p (N n)] (cupSt x y) = .ok (.p (.lst ((partsOf n).map rows))) (cupSt x y) := by
  rcases parts_cases h1 h4 with rfl | rfl | rfl | rfl <;> kernel_rfl
theorem law_parts_ok {k n x y : Nat} (h1 : 1 ≤ n) (h4 : n ≤ 4) : callN tb (k + 1) 36 [.p (N n)] (cupSt x y) = .ok (.p (.lst ((partsOf n).map rows))) (cupSt x y) := by
  rcases parts_cases h1 h4 with rfl | rfl | rfl | rfl <;> kernel_rfl
/-- what holds of each of the lumps -/
theorem each_parts {Q : Nat → Lumps → Prop}
    (q1_0 : Q 1 [[0]]) (q2_0 : Q 2 [[0], [1]]) (q2_1 : Q 2 [[0, 1]]) (q3_0 : Q 3 [[0], [1], [2]]) (q3_1 : Q 3 [[0], [1, 2]]) (q3_2 : Q 3 [[0, 1], [2]]) (q3_3 : Q 3 [[0, 1, 2]]) (q3_4 : Q 3 [[0, 2], [1]]) (q4_0 : Q 4 [[0], [1], [2], [3]]) (q4_1 : Q 4 [[0], [1], [2, 3]]) (q4_2 : Q 4 [[0], [1, 2], [3]]) (q4_3 : Q 4 [[0], [1, 2, 3]]) (q4_4 : Q 4 [[0], [1, 3], [2]]) (q4_5 : Q 4 [[0, 1], [2], [3]]) (q4_6 : Q 4 [[0, 1], [2, 3]]) (q4_7 : Q 4 [[0, 1, 2], [3]]) (q4_8 : Q 4 [[0, 1, 2, 3]]) (q4_9 : Q 4 [[0, 1, 3], [2]]) (q4_10 : Q 4 [[0, 2], [1], [3]]) (q4_11 : Q 4 [[0, 2], [1, 3]]) (q4_12 : Q 4 [[0, 2, 3], [1]]) (q4_13 : Q 4 [[0, 3], [1], [2]]) (q4_14 : Q 4 [[0, 3], [1, 2]]) :
    ∀ {n : Nat} {l : Lumps}, l ∈ partsOf n → Q n l := by
  intro n l h
  match n, h with
  | 0, h => cases h
  | n + 5, h => cases h
  | 1, h =>
    simp only [partsOf, List.mem_cons, List.not_mem_nil, or_false] at h
    subst h; exact q1_0
  | 2, h =>
    simp only [partsOf, List.mem_cons, List.not_mem_nil, or_false] at h
    rcases h with rfl | rfl
    · exact q2_0
    · exact q2_1
  | 3, h =>
    simp only [partsOf, List.mem_cons, List.not_mem_nil, or_false] at h
    rcases h with rfl | rfl | rfl | rfl | rfl
    · exact q3_0
    · exact q3_1
    · exact q3_2
    · exact q3_3
    · exact q3_4
  | 4, h =>
    simp only [partsOf, List.mem_cons, List.not_mem_nil, or_false] at h
    rcases h with rfl | rfl | rfl | rfl | rfl | rfl | rfl | rfl | rfl | rfl | rfl | rfl | rfl | rfl | rfl
    · exact q4_0
    · exact q4_1
    · exact q4_2
    · exact q4_3
    · exact q4_4
    · exact q4_5
    · exact q4_6
    · exact q4_7
    · exact q4_8
    · exact q4_9
    · exact q4_10
    · exact q4_11
    · exact q4_12
    · exact q4_13
    · exact q4_14
theorem fits_lumps_ok {k n x y : Nat} {l : Lumps} (h : l ∈ partsOf n) : callN tb (k + 3) 17 [.p (N n), .p (rows l)] (cupSt x y) = .ok (.p (.bl true)) (cupSt x y) := by
  refine each_parts (Q := fun n l => callN tb (k + 3) 17 [.p (N n), .p (rows l)] (cupSt x y) = .ok (.p (.bl true)) (cupSt x y)) ?_ ?_ ?_ ?_ ?_ ?_ ?_ ?_ ?_ ?_ ?_ ?_ ?_ ?_ ?_ ?_ ?_ ?_ ?_ ?_ ?_ ?_ ?_ h <;> kernel_rfl
theorem lumps_ok {n : Nat} {l : Lumps} (h : l ∈ partsOf n) : LumpsOk n l := by
  refine each_parts (Q := LumpsOk) ?_ ?_ ?_ ?_ ?_ ?_ ?_ ?_ ?_ ?_ ?_ ?_ ?_ ?_ ?_ ?_ ?_ ?_ ?_ ?_ ?_ ?_ ?_ h <;> exact ⟨by decide, by decide, by decide, by decide⟩
theorem parts_len {n : Nat} {l : Lumps} (h : l ∈ partsOf n) : 1 ≤ l.length ∧ l.length ≤ n ∧ n ≤ 4 := by
  refine each_parts (Q := fun n l => 1 ≤ l.length ∧ l.length ≤ n ∧ n ≤ 4) ?_ ?_ ?_ ?_ ?_ ?_ ?_ ?_ ?_ ?_ ?_ ?_ ?_ ?_ ?_ ?_ ?_ ?_ ?_ ?_ ?_ ?_ ?_ h <;> decide
section
variable {k n x y : Nat} {b : List (List (List Nat))} {l : Lumps} {s : St}
theorem many_ok {cf : Nat → List D → St → R D} {n i : Nat} {b : List (List (List Nat))} {r : En} {s : St} (g : GoodB n b) (h : r[i]? = some (some (.p (bookP b)))) : evE cf (.un .len (.bin .idx (.var i) (.lit (.int 0)))) r s = .ok (.p (N n)) s := by
  obtain ⟨m0, hm0, hb0⟩ : ∃ m0 ∈ b, b[0]? = some m0 := by
    cases b with
    | nil => have := g.ne; simp at this
    | cons a b => exact ⟨a, List.mem_cons_self, rfl⟩
  refine ev_un (ev_bin (ev_var h) ev_lit (at_map (c := rows) (i := 0) hb0)) ?_
  rw [u_len_t, List.length_map, (g.all _ hm0).len]
theorem need_lumps_ok (g : GoodB n b) (h : l ∈ partsOf n) : callN tb (k + 5) 18 [.p (bookP b), .p (rows l)] (cupSt x y) = .ok (.p .non) (cupSt x y) := by
  rw [callN_at (f := t_need_lumps) rfl rfl]
  have z : evSs (callN tb (k + 4)) (cupSt x y).length t_need_lumps.body (enter t_need_lumps [.p (bookP b), .p (rows l)]) (cupSt x y) = .ok (.next [some (.p (bookP b)), some (.p (rows l))]) (cupSt x y) :=
    st_ex (ev_call (ev_cons (ev_var rfl) ev_nil) (need_book_ok (k := k) g)) (st_if0 (ev_not (b := true) (ev_tru (ev_call (ev_cons (many_ok g rfl) (ev_cons (ev_var rfl) ev_nil)) (fits_lumps_ok (k := k + 1) h)))) st_nil)
  rw [z]; rfl
theorem allE {cf : Nat → List D → St → R D} {r : En} {q : List Nat → List (List Nat)} {vs : List Nat} {tg : G} {a : E} {i : Nat} (hb : b.length ≤ 6) (hi : r[i]? = some (some (.p (bookP b)))) (hx : ∀ m ∈ b, ∃ r1, asgG tg (rows m) (wipeE r vs) = some r1 ∧ evE cf a r1 s = .ok (.p (.bl (lumpedB m l))) s) :
    evE cf (.un .all (.frz (.comp vs tg (.ex (.var i)) .yes a))) r s = .ok (.p (.bl (canB b l))) s :=
  ev_un (x := .lst (b.map fun m => .bl (lumpedB m l))) (ev_frz (ev_compA (l := b) (c := rows) (f := fun m => .bl (lumpedB m l)) (ev_ex (ev_var hi) rfl) hx (by omega))) (by rw [u_all_b]; rfl)
theorem can_lump_ok (g : GoodB n b) (h : l ∈ partsOf n) : callN tb (k + 6) 29 [.p (bookP b), .p (rows l)] (cupSt x y) = .ok (.p (.bl (canB b l))) (cupSt x y) :=
  fn_pure (f := t_can_lump) rfl rfl (st_ex (ev_call (ev_cons (ev_var rfl) (ev_cons (ev_var rfl) ev_nil)) (need_lumps_ok (k := k) g h)) (st_ret (allE (q := fun _ => []) g.few rfl fun m hm => ⟨_, rfl, ev_call (ev_cons (ev_var rfl) (ev_cons (ev_var rfl) ev_nil)) (is_lumped_ok (k := k + 1) g.le (g.all m hm) (lumps_ok h))⟩)))
theorem parts_few (h1 : 1 ≤ n) (h4 : n ≤ 4) : (partsOf n).length ≤ 15 := by
  rcases parts_cases h1 h4 with rfl | rfl | rfl | rfl <;> decide
theorem lumps_of_ok (g : GoodB n b) (h4 : n ≤ 4) : callN tb (k + 6) 34 [.p (bookP b)] (cupSt x y) = .ok (.p (.tup (((partsOf n).filter fun l => canB b l).map rows))) (cupSt x y) := by
  have hf := parts_few g.pos h4
  have hl : ((partsOf n).filter fun l => canB b l).length ≤ 15 := Nat.le_trans (List.length_filter_le _ _) hf
  refine fn_pure (f := t_lumps_of) rfl rfl (st_ex (ev_call (ev_cons (ev_var rfl) ev_nil) (need_book_ok (k := k + 1) g)) (st_asg (ev_call (ev_cons (many_ok g rfl) ev_nil) (parts_ok (k := k + 4) g.pos h4)) (by show 1 < 5; decide)
    (st_asg (ev_frz (ev_comp (l := partsOf n) (c := rows) (p := fun l => canB b l) (f := rows) (ev_ex (ev_var rfl) rfl) (fun l hl => ⟨_, rfl, ev_if1 (ev_tru (allE (q := fun _ => []) g.few rfl fun m hm => ⟨_, rfl, ev_call (ev_cons (ev_var rfl) (ev_cons (ev_var rfl) ev_nil)) (is_lumped_ok (k := k + 1) g.le (g.all m hm) (lumps_ok hl))⟩)), fun _ => ev_var rfl⟩) (by omega))) (by show 2 < 5; decide)
      (st_if0 ?_ (st_ret (ev_un (ev_var rfl) u_tuple_l))))))
  have z := ev_gtI (cf := callN tb (k + 5)) (r := [some (.p (bookP b)), some (.p (.lst ((partsOf n).map rows))), some (.p (.lst (((partsOf n).filter fun l => canB b l).map rows))), none, none]) (s := cupSt x y) (e1 := .un .len (.var 2)) (e2 := .gc (.int 100) (PySem.Str.ofString "LUMPS")) (i := ((partsOf n).filter fun l => canB b l).length) (j := 100) (ev_un (ev_var (d := .p (.lst (((partsOf n).filter fun l => canB b l).map rows))) rfl) (by rw [u_len_l, List.length_map])) ev_gc
  rw [decide_eq_false (by omega)] at z
  exact z
end
/-! ### the meeting of lumps -/
def hd (lump : List Nat) : Nat := pick lump 0
def lumpM (m : List (List Nat)) (l : Lumps) : List (List Nat) := l.map fun lump => l.map fun other => wt (rowAt m (hd lump)) other
theorem hd_mem {lump : List Nat} (h : lump ≠ []) : hd lump ∈ lump ∧ lump[0]? = some (hd lump) := by
  cases lump with
  | nil => exact absurd rfl h
  | cons a t => exact ⟨List.mem_cons_self, rfl⟩
theorem lumped_ok {k n : Nat} {m : List (List Nat)} {l : Lumps} {s : St} (g : GoodM n m) (L : LumpsOk n l) : callN tb (k + 1) 21 [.p (rows m), .p (rows l)] s = .ok (.p (rows (lumpM m l))) s := by
  have hf := L.few
  refine fn_pure (f := t_lumped) rfl rfl (st_ret (ev_un (x := .lst (l.map fun lump => nats (l.map fun other => wt (rowAt m (hd lump)) other))) (ev_frz (ev_compA (l := l) (c := nats) (f := fun lump => nats (l.map fun other => wt (rowAt m (hd lump)) other)) (ev_ex (ev_var rfl) rfl) (fun lump hl => ⟨_, rfl, ?_⟩) (by omega))) ?_))
  · refine ev_un (x := .lst (l.map fun other => N (wt (rowAt m (hd lump)) other))) (ev_frz (ev_compA (l := l) (c := nats) (f := fun other => N (wt (rowAt m (hd lump)) other)) (ev_ex (ev_var rfl) rfl) (fun other ho => ⟨_, rfl, ?_⟩) (by omega))) ?_
    · obtain ⟨h0, h1⟩ := hd_mem (L.ne lump hl)
      obtain ⟨r1, r2⟩ := row_at g (L.lt lump hl _ h0)
      have hr := g.row _ r2
      refine ev_un (x := .lst ((other.map fun at_ => pick (rowAt m (hd lump)) at_).map N)) (ev_frz ?_) u_sum_l
      rw [List.map_map]
      exact ev_compA (l := other) (c := N) (f := fun at_ => N (pick (rowAt m (hd lump)) at_)) (ev_ex (ev_var rfl) rfl) (fun at_ ha => ⟨_, rfl, ev_bin (ev_bin (ev_var rfl) (ev_bin (ev_var rfl) ev_lit (at_map (c := N) (i := 0) h1)) (at_map (c := nats) r1)) (ev_var rfl) (at_map (c := N) (pick_at (by rw [hr.1]; exact L.lt other ho _ ha)))⟩) (by have := L.small other ho; omega)
    · rw [u_tuple_l]
      show _ = some (P.tup _)
      rw [List.map_map]; rfl
  · rw [u_tuple_l]
    show _ = some (P.tup _)
    unfold lumpM
    rw [List.map_map]; rfl
end Ev.Pl

set_option Elab.async false
set_option linter.all false
set_option maxRecDepth 100000
set_option maxHeartbeats 1000000
set_option exponentiation.threshold 5000
namespace Ev.Pl
open PySem

/-! ### the weights of lumps -/
theorem wt_sum {n : Nat} {l : Lumps} (h : l ∈ partsOf n) : ∀ r : List Nat, r.length = n → (l.map fun o => wt r o).sum = r.sum := by
  refine each_parts (Q := fun n l => ∀ r : List Nat, r.length = n → (l.map fun o => wt r o).sum = r.sum) ?_ ?_ ?_ ?_ ?_ ?_ ?_ ?_ ?_ ?_ ?_ ?_ ?_ ?_ ?_ ?_ ?_ ?_ ?_ ?_ ?_ ?_ ?_ h <;> (
    intro r hr
    rcases r with _ | ⟨a, _ | ⟨b, _ | ⟨c, _ | ⟨d, _ | ⟨e, r⟩⟩⟩⟩⟩ <;> first
      | (exfalso; simp only [List.length_cons, List.length_nil] at hr; omega)
      | (simp [wt, pick]; done)
      | (simp [wt, pick]; omega))
/-- rows of a meeting, the weights maybe great -/
structure PreM (c : Nat) (x : List (List Nat)) : Prop where
  len : x.length = c
  row : ∀ r ∈ x, r.length = c ∧ 0 < r.sum
def small (x : List (List Nat)) : Bool := x.all fun r => r.all fun v => decide (v ≤ 99)
theorem small_good {c : Nat} {x : List (List Nat)} (g : PreM c x) (h : small x = true) : GoodM c x := ⟨g.len, fun r hr => ⟨(g.row r hr).1, fun v hv => of_decide_eq_true (List.all_eq_true.mp (List.all_eq_true.mp h r hr) v hv), (g.row r hr).2⟩⟩
theorem lump_pre {n : Nat} {m : List (List Nat)} {l : Lumps} (g : GoodM n m) (h : l ∈ partsOf n) : PreM l.length (lumpM m l) := by
  have L := lumps_ok h
  refine ⟨by rw [lumpM, List.length_map], fun r hr => ?_⟩
  obtain ⟨lump, hl, rfl⟩ := List.mem_map.mp hr
  obtain ⟨_, r2⟩ := row_at g (L.lt lump hl _ (hd_mem (L.ne lump hl)).1)
  have hrow := g.row _ r2
  refine ⟨by rw [List.length_map], ?_⟩
  rw [wt_sum h _ hrow.1]
  exact hrow.2.2
section
variable {k c : Nat} {x : List (List Nat)} {f : List (List (List Nat))} {s : St}
theorem fits_meeting_gen (h1 : 1 ≤ c) (h6 : c ≤ 6) (g : PreM c x) : callN tb (k + 2) 3 [.p (rows x)] s = .ok (.p (.bl (small x))) s := by
  cases hs : small x with
  | true => exact fits_meeting_ok h1 h6 (small_good g hs)
  | false =>
    have hl := g.len
    have e1 : callN tb (k + 1) 1 [.p (rows x), .p (.int 1), .p (.int 6)] s = .ok (.p (.bl true)) s := by
      rw [is_tuple_of_tup]
      simp [hl]; omega
    have e2 : ∀ r ∈ x, callN tb (k + 1) 1 [.p (nats r), .p (N c), .p (N c)] s = .ok (.p (.bl true)) s := fun r hr => by
      rw [is_tuple_of_tup]
      simp [(g.row r hr).1]
    have e3 : ∀ v : Nat, callN tb (k + 1) 0 [.p (N v), .p (.int 0), .p (.int 99)] s = .ok (.p (.bl (decide (v ≤ 99)))) s := fun v => by
      rw [is_whole_int]
      have : decide ((v : Int) ≤ 99) = decide (v ≤ 99) := decide_eq_decide.mpr (by omega)
      simp [this]
    refine fn_pure (f := t_fits_meeting) rfl rfl (st_if0 (ev_not (b := true) (ev_tru (ev_call (ev_cons (ev_var rfl) (ev_cons ev_lit (ev_cons ev_gc ev_nil))) e1))) (st_asg (d := .p (N c)) (ev_un (ev_var rfl) (by rw [u_len_t, List.length_map, hl])) (by show 1 < 4; decide) (st_ifT (ev_not (b := false) (ev_tru (ev_un (x := .lst (x.map fun r => .bl (r.all fun v => decide (v ≤ 99)))) (ev_frz (ev_compA (l := x) (c := nats) (f := fun r => .bl (r.all fun v => decide (v ≤ 99))) (ev_ex (ev_var rfl) rfl) (fun r hr => ⟨_, rfl, ev_tv (ev_and (b := true) (c := r.all fun v => decide (v ≤ 99)) (ev_tru (ev_call (ev_cons (ev_var rfl) (ev_cons (ev_var rfl) (ev_cons (ev_var rfl) ev_nil))) (e2 r hr))) fun _ => ev_tru (ev_un (x := .lst (r.map fun v => .bl (decide (v ≤ 99)))) (ev_frz (ev_compA (l := r) (c := N) (f := fun v => .bl (decide (v ≤ 99))) (ev_ex (ev_var rfl) rfl) (fun v hv => ⟨_, rfl, ev_call (ev_cons (ev_var rfl) (ev_cons ev_lit (ev_cons ev_gc ev_nil))) (e3 v)⟩) (by have := (g.row r hr).1; omega))) u_all_b))⟩) (by omega))) ?_))) (st_ret ev_lit))))
    rw [u_all_b]
    exact congrArg (fun z => some (P.bl z)) hs
theorem fits_book_gen (h1 : 1 ≤ c) (h6 : c ≤ 6) (hf : 1 ≤ f.length) (hf6 : f.length ≤ 6) (g : ∀ x ∈ f, PreM c x) : callN tb (k + 3) 4 [.p (bookP f)] s = .ok (.p (.bl (f.all small))) s := by
  cases hs : f.all small with
  | true => exact fits_book_ok ⟨h1, h6, hf, hf6, fun x hx => small_good (g x hx) (List.all_eq_true.mp hs x hx)⟩
  | false =>
    have e1 : callN tb (k + 2) 1 [.p (bookP f), .p (.int 1), .p (.int 6)] s = .ok (.p (.bl true)) s := by
      rw [is_tuple_of_tup]
      simp; omega
    refine fn_pure (f := t_fits_book) rfl rfl (st_ifT (ev_or (b := false) (c := true) (ev_not (b := true) (ev_tru (ev_call (ev_cons (ev_var rfl) (ev_cons ev_lit (ev_cons ev_gc ev_nil))) e1))) fun _ => ev_not (b := false) (ev_tru (ev_un (x := .lst (f.map fun x => .bl (small x))) (ev_frz (ev_compA (l := f) (c := rows) (f := fun x => .bl (small x)) (ev_ex (ev_var rfl) rfl) (fun x hx => ⟨_, rfl, ev_call (ev_cons (ev_var rfl) ev_nil) (fits_meeting_gen h1 h6 (g x hx))⟩) (by omega))) ?_))) (st_ret ev_lit))
    rw [u_all_b]
    exact congrArg (fun z => some (P.bl z)) hs
theorem need_book_gen (h1 : 1 ≤ c) (h6 : c ≤ 6) (hf : 1 ≤ f.length) (hf6 : f.length ≤ 6) (g : ∀ x ∈ f, PreM c x) (hs : f.all small = false) : callN tb (k + 4) 5 [.p (bookP f)] s = .exc 40 [] s := by
  have e := fits_book_gen (k := k) (s := s) h1 h6 hf hf6 g
  rw [hs] at e
  exact fn_exc (f := t_need_book) rfl rfl (st_ifX (ev_not (b := false) (ev_tru (ev_call (ev_cons (ev_var rfl) ev_nil) e))) st_raise)
end
section
variable {k n x y : Nat} {b : List (List (List Nat))} {l : Lumps}
def lateB (b : List (List (List Nat))) (l : Lumps) : List (List (List Nat)) := b.map fun m => lumpM m l
theorem late_pre (g : GoodB n b) (h : l ∈ partsOf n) : ∀ m ∈ lateB b l, PreM l.length m := fun m hm => by
  obtain ⟨z, hz, rfl⟩ := List.mem_map.mp hm
  exact lump_pre (g.all z hz) h
theorem late_good (g : GoodB n b) (h : l ∈ partsOf n) (hs : (lateB b l).all small = true) : GoodB l.length (lateB b l) := by
  have hl := parts_len h
  refine ⟨hl.1, by omega, by rw [lateB, List.length_map]; exact g.ne, by rw [lateB, List.length_map]; exact g.few, fun m hm => small_good (late_pre g h m hm) (List.all_eq_true.mp hs m hm)⟩
theorem canE (g : GoodB n b) (h : l ∈ partsOf n) {d2 : Option D} : evE (callN tb (k + 5)) (.un .all (.frz (.comp [3] (.name 3) (.ex (.var 0)) .yes (.call 20 (.cons (.var 3) (.cons (.var 1) .nil)))))) [some (.p (bookP b)), some (.p (rows l)), d2, none] (cupSt x y) = .ok (.p (.bl (canB b l))) (cupSt x y) :=
  allE (q := fun _ => []) g.few rfl fun m hm => ⟨_, rfl, ev_call (ev_cons (ev_var rfl) (ev_cons (ev_var rfl) ev_nil)) (is_lumped_ok (k := k + 1) g.le (g.all m hm) (lumps_ok h))⟩
theorem foundE (g : GoodB n b) (h : l ∈ partsOf n) {d2 : Option D} : evE (callN tb (k + 5)) (.un .tuple (.frz (.comp [3] (.name 3) (.ex (.var 0)) .yes (.call 21 (.cons (.var 3) (.cons (.var 1) .nil)))))) [some (.p (bookP b)), some (.p (rows l)), d2, none] (cupSt x y) = .ok (.p (bookP (lateB b l))) (cupSt x y) := by
  refine ev_un (x := .lst (b.map fun m => rows (lumpM m l))) (ev_frz (ev_compA (l := b) (c := rows) (f := fun m => rows (lumpM m l)) (ev_ex (ev_var rfl) rfl) (fun m hm => ⟨_, rfl, ev_call (ev_cons (ev_var rfl) (ev_cons (ev_var rfl) ev_nil)) (lumped_ok (k := k + 4) (g.all m hm) (lumps_ok h))⟩) (by have := g.few; omega))) ?_
  rw [u_tuple_l, lateB]
  show _ = some (P.tup _)
  rw [List.map_map]; rfl
theorem lumped_book_member (g : GoodB n b) (h : l ∈ partsOf n) (hc : canB b l = false) : callN tb (k + 6) 30 [.p (bookP b), .p (rows l)] (cupSt x y) = .exc 41 [] (cupSt x y) := by
  have e := canE (k := k) (x := x) (y := y) g h (d2 := none)
  rw [hc] at e
  exact fn_exc (f := t_lumped_book) rfl rfl (st_ex (ev_call (ev_cons (ev_var rfl) (ev_cons (ev_var rfl) ev_nil)) (need_lumps_ok (k := k) g h)) (st_ifX (ev_not (b := false) (ev_tru e)) st_raise))
theorem lumped_book_meeting (g : GoodB n b) (h : l ∈ partsOf n) (hc : canB b l = true) (hs : (lateB b l).all small = false) : callN tb (k + 6) 30 [.p (bookP b), .p (rows l)] (cupSt x y) = .exc 40 [] (cupSt x y) := by
  have e := canE (k := k) (x := x) (y := y) g h (d2 := none)
  rw [hc] at e
  have hl := parts_len h
  exact fn_exc (f := t_lumped_book) rfl rfl (st_ex (ev_call (ev_cons (ev_var rfl) (ev_cons (ev_var rfl) ev_nil)) (need_lumps_ok (k := k) g h)) (st_if0 (ev_not (b := true) (ev_tru e)) (st_asg (foundE g h) (by show 2 < 4; decide)
    (st_exX (ev_callX (ev_cons (ev_var rfl) ev_nil) (need_book_gen (k := k + 1) hl.1 (by omega) (by rw [lateB, List.length_map]; exact g.ne) (by rw [lateB, List.length_map]; exact g.few) (late_pre g h) hs))))))
theorem lumped_book_ok (g : GoodB n b) (h : l ∈ partsOf n) (hc : canB b l = true) (hs : (lateB b l).all small = true) : callN tb (k + 6) 30 [.p (bookP b), .p (rows l)] (cupSt x y) = .ok (.p (bookP (lateB b l))) (cupSt x y) := by
  have e := canE (k := k) (x := x) (y := y) g h (d2 := none)
  rw [hc] at e
  exact fn_pure (f := t_lumped_book) rfl rfl (st_ex (ev_call (ev_cons (ev_var rfl) (ev_cons (ev_var rfl) ev_nil)) (need_lumps_ok (k := k) g h)) (st_if0 (ev_not (b := true) (ev_tru e)) (st_asg (foundE g h) (by show 2 < 4; decide)
    (st_ex (ev_call (ev_cons (ev_var rfl) ev_nil) (need_book_ok (k := k + 1) (late_good g h hs))) (st_ret (ev_var rfl))))))
end
/-! ### the greatest weight -/
def mxN (l : List Nat) : Nat := l.foldl max 0
theorem foldl_max : ∀ (l : List Nat) (a c : Nat), c < l.foldl max a ↔ c < a ∨ ∃ x ∈ l, c < x
  | [], a, c => by simp
  | x :: l, a, c => by
    rw [List.foldl_cons, foldl_max l]
    simp only [List.mem_cons, exists_eq_or_imp]
    have e : c < max a x ↔ c < a ∨ c < x := by omega
    rw [e, or_assoc]
theorem mx_iff {l : List Nat} {c : Nat} : c < mxN l ↔ ∃ x ∈ l, c < x := by
  rw [mxN, foldl_max]
  simp
theorem first_max : ∀ (l : List Nat) (a : Nat), firstMin false (N a) (l.map N) = N (l.foldl max a)
  | [], a => rfl
  | x :: l, a => by
    rw [List.map_cons, firstMin, List.foldl_cons]
    simp only [Bool.false_eq_true, if_false]
    rw [ltb_N]
    by_cases h : a < x
    · rw [if_pos (decide_eq_true h), first_max, Nat.max_eq_right (by omega)]
    · rw [if_neg (by simpa using h), first_max, Nat.max_eq_left (by omega)]
theorem ev_mxL {cf : Nat → List D → St → R D} {r : En} {s s1 : St} {e : E} {l : List Nat} (hl : l ≠ []) (h : evE cf e r s = .ok (.p (.lst (l.map N))) s1) : evE cf (.mx false .int e) r s = .ok (.p (N (mxN l))) s1 := by
  cases l with
  | nil => exact absurd rfl hl
  | cons a l =>
    rw [ev_mx (x := N a) (l := l.map N) h (hasAll_N (l := a :: l)) rfl, first_max, mxN, List.foldl_cons, Nat.zero_max]
theorem ev_mxT {cf : Nat → List D → St → R D} {r : En} {s s1 : St} {e : E} {l : List Nat} (hl : l ≠ []) (h : evE cf e r s = .ok (.p (nats l)) s1) : evE cf (.mx false .int e) r s = .ok (.p (N (mxN l))) s1 := by
  cases l with
  | nil => exact absurd rfl hl
  | cons a l =>
    rw [evE, h, R.bind_ok', show view s1 (.p (nats (a :: l))) = some (.tup (N a :: l.map N)) from rfl]
    dsimp only
    have hA : P.hasAll .int (N a :: l.map N) = true := hasAll_N (l := a :: l)
    rw [hA, first_max, mxN, List.foldl_cons, Nat.zero_max]; rfl
end Ev.Pl

set_option Elab.async false
set_option linter.all false
set_option maxRecDepth 100000
set_option maxHeartbeats 1000000
set_option exponentiation.threshold 5000
namespace Ev.Pl
open PySem

/-! ### fractions as values -/
/-- in lowest terms, not great -/
structure FrOk (q : Int × Nat) : Prop where
  over : q.1.natAbs ≤ 1000000
  pos : 1 ≤ q.2
  under : q.2 ≤ 1000000
  cop : Nat.gcd q.1.natAbs q.2 = 1
theorem low_fr {v : Int} {u : Nat} (hu : 0 < u) (h1 : v.natAbs ≤ 1000000) (h2 : u ≤ 1000000) : lowP v u = numP (v / (Nat.gcd v.natAbs u : Int), u / Nat.gcd v.natAbs u) ∧ FrOk (v / (Nat.gcd v.natAbs u : Int), u / Nat.gcd v.natAbs u) := by
  have hg : 0 < Nat.gcd v.natAbs u := Nat.gcd_pos_of_pos_right _ hu
  have hg2 : Nat.gcd v.natAbs u ≤ u := Nat.gcd_le_right _ hu
  have hd : (Nat.gcd v.natAbs u : Int) ∣ v := Int.ofNat_dvd_left.mpr (Nat.gcd_dvd_left _ _)
  refine ⟨rfl, Nat.le_trans (Int.natAbs_ediv_le_natAbs _ _) h1, Nat.div_pos hg2 hg, Nat.le_trans (Nat.div_le_self _ _) h2, ?_⟩
  have e : (v / (Nat.gcd v.natAbs u : Int)).natAbs = v.natAbs / Nat.gcd v.natAbs u := by
    rw [Int.natAbs_ediv_of_dvd hd, Int.natAbs_natCast]
  show Nat.gcd (v / (Nat.gcd v.natAbs u : Int)).natAbs (u / Nat.gcd v.natAbs u) = 1
  rw [e]
  exact Nat.gcd_div_gcd_div_gcd_of_pos_right hu
section
variable {k : Nat} {q : Int × Nat} {L : List (Int × Nat)} {s : St}
theorem fits_fraction_ok (h : FrOk q) : callN tb (k + 2) 9 [.p (numP q)] s = .ok (.p (.bl true)) s := by
  have h1 := h.over
  have h2 := h.pos
  have h3 := h.under
  have e1 : callN tb (k + 1) 1 [.p (numP q), .p (.int 2), .p (.int 2)] s = .ok (.p (.bl true)) s := by
    rw [is_tuple_of_tup]; rfl
  have e2 : callN tb (k + 1) 0 [.p (.int q.1), .p (.int (-1000000)), .p (.int 1000000)] s = .ok (.p (.bl true)) s := by
    rw [is_whole_int]
    simp; omega
  have e3 : callN tb (k + 1) 0 [.p (N q.2), .p (.int 1), .p (.int 1000000)] s = .ok (.p (.bl true)) s := by
    rw [is_whole_int]
    simp; omega
  have ha : evU .abs (.int q.1) = some (N q.1.natAbs) := by
    rw [u_abs]
    refine congrArg (fun z => some (P.int z)) ?_
    split <;> omega
  have i0 : atP [.int q.1, N q.2] 0 = some (.int q.1) := at_P (l := [.int q.1, N q.2]) (i := 0) (by simp)
  have i1 : atP [.int q.1, N q.2] 1 = some (N q.2) := at_P (l := [.int q.1, N q.2]) (i := 1) (by simp)
  refine fn_pure (f := t_fits_fraction) rfl rfl (st_if0 (ev_or (b := false) (c := false) (ev_not (b := true) (ev_tru (ev_call (ev_cons (ev_var rfl) (ev_cons ev_lit (ev_cons ev_lit ev_nil))) e1))) fun _ => ev_or (b := false) (c := false) (ev_not (b := true) (ev_tru (ev_call (ev_cons (ev_bin (ev_var rfl) ev_lit i0) (ev_cons (ev_un ev_gc u_neg') (ev_cons ev_gc ev_nil))) e2))) fun _ => ev_not (b := true) (ev_tru (ev_call (ev_cons (ev_bin (ev_var rfl) ev_lit i1) (ev_cons ev_lit (ev_cons ev_gc ev_nil))) e3)))
    (st_ret (ev_tv (ev_cmp (x := N 1) (y := .int 1) (ev_call (ev_cons (ev_un (ev_bin (ev_var rfl) ev_lit i0) ha) (ev_cons (ev_bin (ev_var rfl) ev_lit i1) ev_nil)) ((divisor_ok (k := k)).trans (by rw [h.cop]))) ev_lit ?_))))
  rw [c_eq, peq_int]; rfl
theorem all_fr {cf : Nat → List D → St → R D} {r : En} {vs : List Nat} {tg : G} {a : E} {i : Nat} (hb : L.length ≤ 1000) (hi : r[i]? = some (some (.p (numsP L)))) (hx : ∀ q ∈ L, ∃ r1, asgG tg (numP q) (wipeE r vs) = some r1 ∧ evE cf a r1 s = .ok (.p (.bl true)) s) :
    evE cf (.un .all (.frz (.comp vs tg (.ex (.var i)) .yes a))) r s = .ok (.p (.bl true)) s := by
  refine ev_un (x := .lst (L.map fun _ => .bl true)) (ev_frz (ev_compA (l := L) (c := numP) (f := fun _ => .bl true) (ev_ex (ev_var hi) rfl) hx hb)) ?_
  rw [u_all_b (p := fun _ => true)]
  refine congrArg (fun z => some (P.bl z)) ?_
  rw [List.all_eq_true]
  intros; rfl
theorem need_row_ok (h1 : 1 ≤ L.length) (h6 : L.length ≤ 6) (h : ∀ q ∈ L, FrOk q) : callN tb (k + 3) 16 [.p (numsP L)] s = .ok (.p .non) s := by
  have e1 : callN tb (k + 2) 1 [.p (numsP L), .p (.int 1), .p (.int 6)] s = .ok (.p (.bl true)) s := by
    rw [is_tuple_of_tup]
    simp; omega
  rw [callN_at (f := t_need_row) rfl rfl]
  have z : evSs (callN tb (k + 2)) s.length t_need_row.body (enter t_need_row [.p (numsP L)]) s = .ok (.next [some (.p (numsP L)), none]) s :=
    st_if0 (ev_or (b := false) (c := false) (ev_not (b := true) (ev_tru (ev_call (ev_cons (ev_var rfl) (ev_cons ev_lit (ev_cons ev_lit ev_nil))) e1))) fun _ => ev_not (b := true) (ev_tru (all_fr (L := L) (by omega) rfl fun q hq => ⟨_, rfl, ev_call (ev_cons (ev_var rfl) ev_nil) (fits_fraction_ok (h q hq))⟩))) st_nil
  rw [z]
  show R.ok _ (s.take s.length) = _
  rw [List.take_length]
theorem need_numbers_ok (h6 : L.length ≤ 6) (h : ∀ q ∈ L, FrOk q) : callN tb (k + 4) 15 [.p (N L.length), .p (numsP L)] s = .ok (.p .non) s := by
  have e1 : callN tb (k + 2) 1 [.p (numsP L), .p (N L.length), .p (N L.length)] s = .ok (.p (.bl true)) s := by
    rw [is_tuple_of_tup]
    simp
  have e2 : callN tb (k + 3) 14 [.p (N L.length), .p (numsP L)] s = .ok (.p (.bl true)) s :=
    fn_pure (f := t_fits_numbers) rfl rfl (st_ret (ev_tv (ev_and (b := true) (c := true) (ev_tru (ev_call (ev_cons (ev_var rfl) (ev_cons (ev_var rfl) (ev_cons (ev_var rfl) ev_nil))) e1)) fun _ => ev_tru (all_fr (L := L) (by omega) rfl fun q hq => ⟨_, rfl, ev_call (ev_cons (ev_var rfl) ev_nil) (fits_fraction_ok (h q hq))⟩))))
  rw [callN_at (f := t_need_numbers) rfl rfl]
  have z : evSs (callN tb (k + 3)) s.length t_need_numbers.body (enter t_need_numbers [.p (N L.length), .p (numsP L)]) s = .ok (.next [some (.p (N L.length)), some (.p (numsP L))]) s :=
    st_if0 (ev_not (b := true) (ev_tru (ev_call (ev_cons (ev_var rfl) (ev_cons (ev_var rfl) ev_nil)) e2))) st_nil
  rw [z]
  show R.ok _ (s.take s.length) = _
  rw [List.take_length]
end
/-! ### which lump a member is in -/
def lumpAt (l : Lumps) (i : Nat) : List Nat := (l[i]?).getD []
def idxs (l : Lumps) (own : Nat) : List Nat := (List.range l.length).filter fun i => decide (own ∈ lumpAt l i)
def idx (l : Lumps) (own : Nat) : Nat := (idxs l own).headD 0
theorem idx_ok {n : Nat} {l : Lumps} (h : l ∈ partsOf n) : ∀ own ∈ List.range n, idxs l own = [idx l own] ∧ idx l own < l.length ∧ own ∈ lumpAt l (idx l own) := by
  refine each_parts (Q := fun n l => ∀ own ∈ List.range n, idxs l own = [idx l own] ∧ idx l own < l.length ∧ own ∈ lumpAt l (idx l own)) ?_ ?_ ?_ ?_ ?_ ?_ ?_ ?_ ?_ ?_ ?_ ?_ ?_ ?_ ?_ ?_ ?_ ?_ ?_ ?_ ?_ ?_ ?_ h <;> decide
theorem idx_in {n : Nat} {l : Lumps} (h : l ∈ partsOf n) : ∀ i ∈ List.range l.length, ∀ at_ ∈ lumpAt l i, idx l at_ = i := by
  refine each_parts (Q := fun n l => ∀ i ∈ List.range l.length, ∀ at_ ∈ lumpAt l i, idx l at_ = i) ?_ ?_ ?_ ?_ ?_ ?_ ?_ ?_ ?_ ?_ ?_ ?_ ?_ ?_ ?_ ?_ ?_ ?_ ?_ ?_ ?_ ?_ ?_ h <;> decide
theorem parts_sum {n : Nat} {l : Lumps} (h : l ∈ partsOf n) : (l.map List.length).sum = n := by
  refine each_parts (Q := fun n l => (l.map List.length).sum = n) ?_ ?_ ?_ ?_ ?_ ?_ ?_ ?_ ?_ ?_ ?_ ?_ ?_ ?_ ?_ ?_ ?_ ?_ ?_ ?_ ?_ ?_ ?_ h <;> decide
theorem lump_at {l : Lumps} {i : Nat} (h : i < l.length) : l[i]? = some (lumpAt l i) ∧ lumpAt l i ∈ l := by
  have e : l[i]? = some l[i] := List.getElem?_eq_getElem h
  have e2 : lumpAt l i = l[i] := by unfold lumpAt; rw [e]; rfl
  exact ⟨by rw [e2]; exact e, by rw [e2]; exact List.getElem_mem h⟩
/-- a sum over the members is one over the lumps -/
theorem regroup {n : Nat} {l : Lumps} (h : l ∈ partsOf n) : ∀ (r : List Nat) (c : Nat → Int), r.length = n → ((List.range n).map fun j => (pick r j : Int) * c (idx l j)).sum = ((List.range l.length).map fun i => (wt r (lumpAt l i) : Int) * c i).sum := by
  refine each_parts (Q := fun n l => ∀ (r : List Nat) (c : Nat → Int), r.length = n → ((List.range n).map fun j => (pick r j : Int) * c (idx l j)).sum = ((List.range l.length).map fun i => (wt r (lumpAt l i) : Int) * c i).sum) ?_ ?_ ?_ ?_ ?_ ?_ ?_ ?_ ?_ ?_ ?_ ?_ ?_ ?_ ?_ ?_ ?_ ?_ ?_ ?_ ?_ ?_ ?_ h <;> (
    intro r c hr
    rcases r with _ | ⟨a, _ | ⟨b, _ | ⟨d, _ | ⟨e, _ | ⟨f, r⟩⟩⟩⟩⟩ <;> first
      | (exfalso; simp only [List.length_cons, List.length_nil] at hr; omega)
      | (simp [wt, pick, lumpAt, idx, idxs, List.range_succ, Int.add_mul]; done)
      | (simp [wt, pick, lumpAt, idx, idxs, List.range_succ, Int.add_mul]; omega))
end Ev.Pl

set_option Elab.async false
set_option linter.all false
set_option maxRecDepth 100000
set_option maxHeartbeats 1000000
set_option exponentiation.threshold 5000
namespace Ev.Pl
open PySem

/-! ### random numbers, in lowest terms -/
theorem low_num2 {v : Int} {u : Nat} (hv : v.natAbs ≤ 4) (hu : 0 < u) (h3 : u ≤ 3) : ∃ q, lowP v u = numP q ∧ NumOk q ∧ FrOk q := by
  obtain ⟨e, f⟩ := low_fr (v := v) hu (by omega) (by omega)
  have hg : 0 < Nat.gcd v.natAbs u := Nat.gcd_pos_of_pos_right _ hu
  have hg2 : Nat.gcd v.natAbs u ≤ u := Nat.gcd_le_right _ hu
  exact ⟨_, e, ⟨Nat.div_pos hg2 hg, Nat.le_trans (Nat.div_le_self _ _) h3, Nat.le_trans (Int.natAbs_ediv_le_natAbs _ _) hv⟩, f⟩
theorem nums_of2 : ∀ {ys : List P}, (∀ y ∈ ys, ∃ q, y = numP q ∧ NumOk q ∧ FrOk q) → ∃ L : List (Int × Nat), ys = L.map numP ∧ ∀ q ∈ L, NumOk q ∧ FrOk q
  | [], _ => ⟨[], rfl, fun q h => absurd h List.not_mem_nil⟩
  | y :: ys, h => by
    obtain ⟨q, rfl, hq⟩ := h y List.mem_cons_self
    obtain ⟨L, e, hL⟩ := nums_of2 (ys := ys) fun z m => h z (List.mem_cons_of_mem _ m)
    exact ⟨q :: L, by rw [e]; rfl, fun z m => (List.mem_cons.mp m).elim (fun e => e ▸ hq) (hL z)⟩
theorem numC_ok {k n a b : Nat} (hn : n ≤ 6) : ∃ L a' b', L.length = n ∧ (∀ q ∈ L, NumOk q ∧ FrOk q) ∧ callN tb (k + 2) 13 [.obj 0, .p (N n)] (cupSt a b) = .ok (.p (numsP L)) (cupSt a' b') := by
  obtain ⟨ys, a', b', h1, h2, h3⟩ := ev_compC (cf := callN tb (k + 1)) (r := [some (.obj 0), some (.p (N n)), none]) (e := .call 11 (.cons (.bin .sub (.call 23 (.cons (.var 0) (.cons (.lit (.int 9)) .nil))) (.lit (.int 4))) (.cons (.bin .add (.lit (.int 1)) (.call 23 (.cons (.var 0) (.cons (.lit (.int 3)) .nil)))) .nil)))
    (vs := [2]) (tg := .name 2) (it := .rng1 (.var 1)) (c := N) (ok := fun y => ∃ q, y = numP q ∧ NumOk q ∧ FrOk q) (l := List.range n) (a := a) (b := b) (ev_rng (ev_var rfl) (by omega)) (fun x hx a b => by
    obtain ⟨i, a1, b1, hi, e1⟩ := roll_ok (k := k) (a := a) (b := b) (m := 9) (by omega) (by omega)
    obtain ⟨j, a2, b2, hj, e2⟩ := roll_ok (k := k) (a := a1) (b := b1) (m := 3) (by omega) (by omega)
    obtain ⟨q, hq1, hq2⟩ := low_num2 (v := (i : Int) - 4) (u := 1 + j) (by omega) (by omega) (by omega)
    refine ⟨_, lowP ((i : Int) - 4) (1 + j), a2, b2, rfl, ⟨q, hq1, hq2⟩, ?_⟩
    refine ev_call (ev_cons (ev_bin (ev_call (ev_cons (ev_var rfl) (ev_cons (ev_lit (x := N 9)) ev_nil)) e1) ev_lit rfl) (ev_cons (ev_bin (ev_lit (x := N 1)) (ev_call (ev_cons (ev_var rfl) (ev_cons (ev_lit (x := N 3)) ev_nil)) e2) b_add) ev_nil)) ?_
    exact low_ok (by omega) (by omega)) (by rw [List.length_range]; omega)
  obtain ⟨L, e, hL⟩ := nums_of2 h2
  subst e
  refine ⟨L, a', b', by rw [List.length_map, List.length_range] at h1; exact h1, hL, ?_⟩
  rw [callN_at (f := t_law_numbers) rfl rfl]
  have z : evSs (callN tb (k + 1)) (cupSt a b).length t_law_numbers.body (enter t_law_numbers [.obj 0, .p (N n)]) (cupSt a b) = .ok (.ret (.p (numsP L))) (cupSt a' b') := st_ret (ev_un (ev_frz h3) u_tuple_l)
  rw [z]; rfl
/-! ### lists of two clauses -/
theorem compGo_flat {α : Type} {F : P → St → R (List P)} {c : α → P} {G : α → List P} {s : St} : ∀ {l : List α}, (∀ x ∈ l, F (c x) s = .ok (G x) s) → compGo F (l.map c) s = .ok (l.flatMap G) s
  | [], _ => rfl
  | x :: l, h => by
    rw [List.map_cons, compGo, h x List.mem_cons_self, R.bind_ok', compGo_flat fun y m => h y (List.mem_cons_of_mem _ m), R.bind_ok', List.flatMap_cons]
theorem ev_comp2L {cf : Nat → List D → St → R D} {r : En} {s s1 : St} {e : E} {α β : Type} {vs vs1 : List Nat} {tg tg1 : G} {it it1 : I} {ifs1 : To} {c : α → P} {d : β → P} {g : α → List β} {p : α → β → Bool} {f : α → β → P} {l : List α} (hI : evI cf it r s = .ok (l.map c) s1)
    (hx : ∀ x ∈ l, ∃ r1, asgG tg (c x) (wipeE r vs) = some r1 ∧ evI cf it1 r1 s1 = .ok ((g x).map d) s1 ∧ ∀ y ∈ g x, ∃ r2, asgG tg1 (d y) (wipeE r1 vs1) = some r2 ∧ evTo cf ifs1 r2 s1 = .ok (p x y) s1 ∧ (p x y = true → evE cf e r2 s1 = .ok (.p (f x y)) s1))
    (hl : (l.flatMap fun x => ((g x).filter (p x)).map (f x)).length ≤ 1000) : evL cf (.comp2 vs tg it .yes vs1 tg1 it1 ifs1 e) r s = .ok (l.flatMap fun x => ((g x).filter (p x)).map (f x)) s1 := by
  rw [evL, hI, R.bind_ok', compGo_flat (G := fun x => ((g x).filter (p x)).map (f x)), R.bind_ok']
  · rw [if_pos (decide_eq_true (le_big hl))]
  · intro x hm
    obtain ⟨r1, a1, a2, a3⟩ := hx x hm
    rw [a1]
    dsimp only
    rw [ev_yes, R.noexc_ok, R.bind_ok', if_pos rfl, a2, R.noexc_ok, R.bind_ok']
    refine compGo_map (p := p x) (e := f x) fun y hy => ?_
    obtain ⟨r2, b1, b2, b3⟩ := a3 y hy
    rw [b1]
    dsimp only
    rw [b2, R.noexc_ok, R.bind_ok']
    cases hp : p x y
    · rfl
    · rw [if_pos rfl, b3 hp, R.noexc_ok, R.bind_ok']; rfl
theorem any_false : ∀ {xs : List P}, (∀ x ∈ xs, x = .bl false) → evU .any (.lst xs) = some (.bl false) := by
  intro xs h
  have e : anyB xs = some false := by
    induction xs with
    | nil => rfl
    | cons x xs ih => rw [h x List.mem_cons_self, anyB, ih fun y m => h y (List.mem_cons_of_mem _ m)]; rfl
  show (match anyB xs with | some b => some (P.bl b) | none => none) = _
  rw [e]
/-! ### numbers of lumps, numbers of members -/
def numAt (V : List (Int × Nat)) (i : Nat) : Int × Nat := (V[i]?).getD (0, 1)
theorem num_at {V : List (Int × Nat)} {i : Nat} (h : i < V.length) : V[i]? = some (numAt V i) ∧ numAt V i ∈ V := by
  have e : V[i]? = some V[i] := List.getElem?_eq_getElem h
  have e2 : numAt V i = V[i] := by unfold numAt; rw [e]; rfl
  exact ⟨by rw [e2]; exact e, by rw [e2]; exact List.getElem_mem h⟩
theorem range_num {V : List (Int × Nat)} : (List.range V.length).map (numAt V) = V := by
  apply List.ext_getElem
  · simp
  · intro i h1 h2
    simp [numAt, h2]
theorem range_pick {r : List Nat} : (List.range r.length).map (pick r) = r := by
  apply List.ext_getElem
  · simp
  · intro i h1 h2
    simp [pick, h2]
theorem range_row {m : List (List Nat)} : (List.range m.length).map (rowAt m) = m := by
  apply List.ext_getElem
  · simp
  · intro i h1 h2
    simp [rowAt, h2]
theorem range_lump {l : Lumps} : (List.range l.length).map (lumpAt l) = l := by
  apply List.ext_getElem
  · simp
  · intro i h1 h2
    simp [lumpAt, h2]
def spreadV (n : Nat) (l : Lumps) (V : List (Int × Nat)) : List (Int × Nat) := (List.range n).map fun own => numAt V (idx l own)
theorem enum_map {l : Lumps} : enumP 0 (l.map nats) = (List.range l.length).map fun i => .tup [N i, nats (lumpAt l i)] := by
  have go : ∀ (l : Lumps) (j : Nat), enumP j (l.map nats) = (List.range l.length).map fun i => .tup [N (j + i), nats (lumpAt l i)] := by
    intro l
    induction l with
    | nil => intro j; rfl
    | cons a l ih =>
      intro j
      rw [List.map_cons, enumP, ih, List.length_cons, List.range_succ_eq_map, List.map_cons, List.map_map]
      congr 1
      refine List.map_congr_left fun i _ => ?_
      show P.tup [N (j + 1 + i), nats (lumpAt l i)] = P.tup [N (j + (i + 1)), nats (lumpAt (a :: l) (i + 1))]
      rw [show j + 1 + i = j + (i + 1) by omega]; rfl
  rw [go l 0]
  refine List.map_congr_left fun i _ => ?_
  rw [Nat.zero_add]
theorem isin_N {own : Nat} {lump : List Nat} : evC .isin (N own) (nats lump) = some (decide (own ∈ lump)) := by
  rw [c_in_t, inSeq_plain (plain_N 60 own) (plains_N 60 lump)]
  exact congrArg some (decide_eq_decide.mpr mem_N)
section
variable {k n x y : Nat} {l : Lumps} {V W : List (Int × Nat)}
theorem are_lots_ok {s : St} (h : l.length ≤ 1000) : callN tb (k + 1) 33 [.p (rows l)] s = .ok (.p (.bl true)) s := by
  refine fn_pure (f := t_are_lots) rfl rfl (st_ret (ev_tv (ev_and (b := true) (c := true) (ev_tru (ev_un (ev_var rfl) rfl)) fun _ => ev_tru (ev_un (x := .lst (l.map fun _ => .bl true)) (ev_frz (ev_compA (l := l) (c := nats) (f := fun _ => .bl true) (ev_ex (ev_var rfl) rfl) (fun q hq => ⟨_, rfl, ev_un (ev_var rfl) rfl⟩) h)) ?_))))
  rw [u_all_b (p := fun _ => true)]
  refine congrArg (fun z => some (P.bl z)) ?_
  rw [List.all_eq_true]
  intros; rfl
theorem spread_ok (h : l ∈ partsOf n) (hV : V.length = l.length) (hF : ∀ q ∈ V, FrOk q) : callN tb (k + 6) 32 [.p (numsP V), .p (rows l)] (cupSt x y) = .ok (.p (numsP (spreadV n l V))) (cupSt x y) := by
  have hl := parts_len h
  have L := lumps_ok h
  have e1 : evE (callN tb (k + 5)) (.ife (.tru (.call 33 (.cons (.var 1) .nil))) (.un .sum (.frz (.comp [3] (.name 3) (.ex (.var 1)) .yes (.un .len (.var 3))))) (.lit (.int 0))) [some (.p (numsP V)), some (.p (rows l)), none, none, none, none] (cupSt x y) = .ok (.p (N n)) (cupSt x y) := by
    refine ev_ifT (ev_tru (ev_call (ev_cons (ev_var rfl) ev_nil) (are_lots_ok (by omega)))) (ev_un (x := .lst ((l.map List.length).map N)) (ev_frz ?_) (by rw [u_sum_l, parts_sum h]))
    rw [List.map_map]
    exact ev_compA (l := l) (c := nats) (f := fun lump => N lump.length) (ev_ex (ev_var rfl) rfl) (fun lump hx => ⟨_, rfl, ev_un (ev_var rfl) (by rw [u_len_t, List.length_map])⟩) (by omega)
  have e2 : evT (callN tb (k + 5)) (.cmp .gt (.var 2) (.gc (.int 6) (PySem.Str.ofString "MEMBERS"))) [some (.p (numsP V)), some (.p (rows l)), some (.p (N n)), none, none, none] (cupSt x y) = .ok false (cupSt x y) := by
    have z := ev_gtI (cf := callN tb (k + 5)) (r := [some (.p (numsP V)), some (.p (rows l)), some (.p (N n)), none, none, none]) (s := cupSt x y) (e1 := .var 2) (e2 := .gc (.int 6) (PySem.Str.ofString "MEMBERS")) (i := n) (j := 6) (ev_var rfl) ev_gc
    rw [decide_eq_false (by omega)] at z
    exact z
  refine fn_pure (f := t_spread_numbers) rfl rfl (st_ex (ev_call (ev_cons (ev_var rfl) ev_nil) (need_row_ok (k := k + 2) (by omega) (by omega) hF)) (st_asg e1 (by show 2 < 6; decide) (st_if0 (ev_or (b := false) (c := false) e2 fun _ => ev_not (b := true) (ev_tru (ev_call (ev_cons (ev_var rfl) (ev_cons (ev_var rfl) ev_nil)) (fits_lumps_ok (k := k + 2) h))))
    (st_ex (ev_call (ev_cons (ev_un (ev_var rfl) (by rw [u_len_t, List.length_map, ← hV])) (ev_cons (ev_var rfl) ev_nil)) (need_numbers_ok (k := k + 1) (by omega) hF)) (st_ret (ev_un (x := .lst ((List.range n).map fun own => numP (numAt V (idx l own)))) (ev_frz (ev_compA (l := List.range n) (c := N) (f := fun own => numP (numAt V (idx l own))) (ev_rng (ev_var rfl) (by omega)) (fun own ho => ⟨_, rfl, ?_⟩) (by rw [List.length_range]; omega))) ?_))))))
  · obtain ⟨i1, i2, i3⟩ := idx_ok h own ho
    have q := ev_comp (cf := callN tb (k + 5)) (r := [some (.p (numsP V)), some (.p (rows l)), some (.p (N n)), some (.p (N own)), none, none]) (s := cupSt x y) (s1 := cupSt x y) (vs := [4, 5]) (tg := .tup (.cons (.name 4) (.cons (.name 5) .nil))) (it := .enum (.var 1)) (ifs := .if1 (.cmp .isin (.var 3) (.var 5))) (e := .var 4)
      (l := List.range l.length) (c := fun i => .tup [N i, nats (lumpAt l i)]) (p := fun i => decide (own ∈ lumpAt l i)) (f := N) (by rw [evI, ev_var (d := .p (rows l)) rfl, R.bind_ok']; show R.ok (enumP 0 (l.map nats)) _ = _; rw [enum_map]) (fun i hi => ⟨_, rfl, ev_if1 (ev_cmp (ev_var rfl) (ev_var rfl) isin_N), fun _ => ev_var rfl⟩) (by rw [List.length_range]; omega)
    rw [show ((List.range l.length).filter fun i => decide (own ∈ lumpAt l i)) = [idx l own] from i1] at q
    exact ev_bin (ev_var rfl) (ev_bin (ev_frz q) ev_lit (at_P (l := [N (idx l own)]) (i := 0) (by simp))) (at_map (c := numP) (num_at (by omega)).1)
  · rw [u_tuple_l, spreadV]
    show _ = some (P.tup _)
    rw [List.map_map]; rfl
theorem lumped_numbers_ok (h : l ∈ partsOf n) (hW : W.length = n) (hF : ∀ q ∈ W, FrOk q) (hc : ∀ lump ∈ l, ∀ at_ ∈ lump, numAt W at_ = numAt W (hd lump)) : callN tb (k + 6) 31 [.p (numsP W), .p (rows l)] (cupSt x y) = .ok (.p (numsP (l.map fun lump => numAt W (hd lump)))) (cupSt x y) := by
  have hl := parts_len h
  have L := lumps_ok h
  have pl : ∀ q : Int × Nat, P.plain 60 (numP q) = true := fun q => by
    rw [P.plain, P.plains, P.plains, P.plains]
    simp [P.plain]
  have fl : (l.flatMap fun lump => (lump.filter fun _ => true).map fun _ => P.bl false).length ≤ 1000 := by
    rw [List.length_flatMap]
    have e : (l.map fun lump => ((lump.filter fun _ => true).map fun _ => P.bl false).length) = l.map List.length := List.map_congr_left fun lump _ => by rw [List.length_map, List.filter_eq_self.mpr fun _ _ => rfl]
    rw [e, parts_sum h]; omega
  have e1 : evT (callN tb (k + 5)) (.tru (.un .any (.frz (.comp2 [2, 3] (.name 2) (.ex (.var 1)) .yes [3] (.name 3) (.ex (.var 2)) .yes (.tv (.cmp .ne (.bin .idx (.var 0) (.var 3)) (.bin .idx (.var 0) (.bin .idx (.var 2) (.lit (.int 0)))))))))) [some (.p (numsP W)), some (.p (rows l)), none, none] (cupSt x y) = .ok false (cupSt x y) := by
    refine ev_tru (ev_un (x := .lst (l.flatMap fun lump => (lump.filter fun _ => true).map fun _ => P.bl false)) (ev_frz (ev_comp2L (l := l) (c := nats) (d := N) (g := fun lump => lump) (p := fun _ _ => true) (f := fun _ _ => .bl false) (ev_ex (ev_var rfl) rfl) (fun lump hx => ⟨_, rfl, ev_ex (ev_var rfl) rfl, fun at_ ha => ⟨_, rfl, ev_yes, fun _ => ?_⟩⟩) fl)) (any_false fun z hz => ?_))
    · obtain ⟨h0, h1⟩ := hd_mem (L.ne lump hx)
      refine ev_tv (ev_neS (x := numP (numAt W at_)) (ev_bin (ev_var rfl) (ev_var rfl) (at_map (c := numP) (num_at (by rw [hW]; exact L.lt lump hx _ ha)).1)) (ev_bin (ev_var rfl) (ev_bin (ev_var rfl) ev_lit (at_map (c := N) (i := 0) h1)) ?_) (pl _))
      rw [hc lump hx at_ ha]
      exact at_map (c := numP) (num_at (by rw [hW]; exact L.lt lump hx _ h0)).1
    · obtain ⟨lump, _, hz⟩ := List.mem_flatMap.mp hz
      obtain ⟨_, _, rfl⟩ := List.mem_map.mp hz
      rfl
  refine fn_pure (f := t_lumped_numbers) rfl rfl (st_ex (ev_call (ev_cons (ev_var rfl) ev_nil) (need_row_ok (k := k + 2) (by omega) (by omega) hF)) (st_if0 (ev_not (b := true) (ev_tru (ev_call (ev_cons (ev_un (ev_var rfl) (by rw [u_len_t, List.length_map, hW])) (ev_cons (ev_var rfl) ev_nil)) (fits_lumps_ok (k := k + 2) h)))) (st_if0 e1
    (st_ret (ev_un (x := .lst (l.map fun lump => numP (numAt W (hd lump)))) (ev_frz (ev_compA (l := l) (c := nats) (f := fun lump => numP (numAt W (hd lump))) (ev_ex (ev_var rfl) rfl) (fun lump hx => ⟨_, rfl, ?_⟩) (by omega))) ?_)))))
  · obtain ⟨h0, h1⟩ := hd_mem (L.ne lump hx)
    exact ev_bin (ev_var rfl) (ev_bin (ev_var rfl) ev_lit (at_map (c := N) (i := 0) h1)) (at_map (c := numP) (num_at (by rw [hW]; exact L.lt lump hx _ h0)).1)
  · rw [u_tuple_l]
    show _ = some (P.tup _)
    rw [List.map_map]; rfl
end
end Ev.Pl

set_option Elab.async false
set_option linter.all false
set_option maxRecDepth 100000
set_option maxHeartbeats 1000000
set_option exponentiation.threshold 5000
namespace Ev.Pl
open PySem

/-! ### played as one: the same numbers -/
theorem valL_D {s D D' : Nat} (hs : 0 < s) : ∀ {l : List (Nat × (Int × Nat))}, (∀ q ∈ l, 0 < q.2.2 ∧ q.2.2 ∣ D ∧ q.2.2 ∣ D') → valL s (s * D) l * D' = D * (l.map fun q => (q.1 : Int) * (q.2.1 * ((D' / q.2.2 : Nat) : Int))).sum
  | [], _ => by simp [valL]
  | q :: l, h => by
    obtain ⟨h0, ⟨e, he⟩, ⟨e', he'⟩⟩ := h q List.mem_cons_self
    have ih := valL_D (D' := D') hs (l := l) fun z m => h z (List.mem_cons_of_mem _ m)
    have h1 : s * D / (s * q.2.2) = e := by rw [Nat.mul_div_mul_left _ _ hs, he, Nat.mul_div_cancel_left _ h0]
    have h2 : D' / q.2.2 = e' := by rw [he', Nat.mul_div_cancel_left _ h0]
    have h3 : (e : Int) * D' = D * e' := by
      rw [← Int.natCast_mul, ← Int.natCast_mul]
      refine congrArg Int.ofNat ?_
      rw [he', he, ← Nat.mul_assoc, Nat.mul_comm e]
    rw [valL, List.map_cons, List.sum_cons, Int.add_mul, Int.mul_add, ih, h1, h2]
    congr 1
    rw [Int.mul_assoc ((q.1 : Int) * q.2.1), h3]
    ac_rfl
theorem valL_val {s D' : Nat} (hs : 0 < s) : ∀ {l : List (Nat × (Int × Nat))}, (∀ q ∈ l, 0 < q.2.2) → valL s (s * D') l = (l.map fun q => (q.1 : Int) * (q.2.1 * ((D' / q.2.2 : Nat) : Int))).sum
  | [], _ => by simp [valL]
  | q :: l, h => by
    rw [valL, List.map_cons, List.sum_cons, valL_val hs fun z m => h z (List.mem_cons_of_mem _ m), Nat.mul_div_mul_left _ _ hs, Int.mul_assoc]
theorem sum_cross {s t : Int} {f g : Nat → Int} {c : Nat → Int} : ∀ {l : List Nat}, (∀ i ∈ l, f i * t = g i * s) → (l.map fun i => f i * c i).sum * t = (l.map fun i => g i * c i).sum * s
  | [], _ => by simp
  | i :: l, h => by
    rw [List.map_cons, List.map_cons, List.sum_cons, List.sum_cons, Int.add_mul, Int.add_mul, sum_cross fun j m => h j (List.mem_cons_of_mem _ m)]
    congr 1
    rw [Int.mul_right_comm, h i List.mem_cons_self, Int.mul_right_comm]
theorem zip_range {α β : Type} {f : Nat → α} {g : Nat → β} : ∀ {l : List Nat}, (l.map f).zip (l.map g) = l.map fun i => (f i, g i)
  | [] => rfl
  | i :: l => by rw [List.map_cons, List.map_cons, List.zip_cons_cons, zip_range]; rfl
theorem alike_at {m : List (List Nat)} {lump other : List Nat} (h : alike (lump.map fun own => partP m own other) = true) {own : Nat} (ho : own ∈ lump) : partP m own other = partP m (hd lump) other := by
  cases lump with
  | nil => cases ho
  | cons a t =>
    have z := List.all_eq_true.mp h (partP m own other) (List.mem_map.mpr ⟨own, ho, rfl⟩)
    exact Option.some.inj (of_decide_eq_true z)
section
variable {n : Nat} {m : List (List Nat)} {l : Lumps} {V : List (Int × Nat)}
/-- the row of a lump -/
abbrev lumpRow (m : List (List Nat)) (l : Lumps) (h : Nat) : List Nat := l.map fun other => wt (rowAt m h) other
theorem spread_num (h : l ∈ partsOf n) (hV : V.length = l.length) (hN : ∀ q ∈ V, NumOk q) : ∀ q ∈ spreadV n l V, NumOk q := fun q hq => by
  obtain ⟨own, ho, rfl⟩ := List.mem_map.mp hq
  exact hN _ (num_at (by rw [hV]; exact (idx_ok h own ho).2.1)).2
theorem spread_fr (h : l ∈ partsOf n) (hV : V.length = l.length) (hN : ∀ q ∈ V, FrOk q) : ∀ q ∈ spreadV n l V, FrOk q := fun q hq => by
  obtain ⟨own, ho, rfl⟩ := List.mem_map.mp hq
  exact hN _ (num_at (by rw [hV]; exact (idx_ok h own ho).2.1)).2
theorem row_same (h6 : n ≤ 6) (g : GoodM n m) (h : l ∈ partsOf n) (hb : lumpedB m l = true) (hV : V.length = l.length) (hN : ∀ q ∈ V, NumOk q) {own : Nat} (ho : own ∈ List.range n) :
    lowRow (spreadV n l V) (rowAt m own) = lowRow V (lumpRow m l (hd (lumpAt l (idx l own)))) := by
  have L := lumps_ok h
  obtain ⟨_, i2, i3⟩ := idx_ok h own ho
  obtain ⟨k1, k2⟩ := lump_at i2
  obtain ⟨h0, _⟩ := hd_mem (L.ne _ k2)
  have hh : hd (lumpAt l (idx l own)) < n := L.lt _ k2 _ h0
  generalize hL : hd (lumpAt l (idx l own)) = hed at *
  obtain ⟨_, m1⟩ := row_at g (List.mem_range.mp ho)
  obtain ⟨_, m2⟩ := row_at g hh
  have r1 := g.row _ m1
  have r2 := g.row _ m2
  have s1 := (row_sum h6 g m1).1
  have s2 := (row_sum h6 g m2).1
  have eR : (lumpRow m l hed).sum = (rowAt m hed).sum := wt_sum h _ r2.1
  have pN := spread_num h hV hN
  have p1 := prodL_pos pN
  have p2 := prodL_pos hN
  unfold lowRow
  rw [eR]
  refine low_eq (Nat.mul_pos s1 p1) (Nat.mul_pos s2 p2) ?_
  let c : Nat → Int := fun i => (numAt V i).1 * ((prodL V / (numAt V i).2 : Nat) : Int)
  have z1 : (rowAt m own).zip (spreadV n l V) = (List.range n).map fun j => (pick (rowAt m own) j, numAt V (idx l j)) := by
    have e := range_pick (r := rowAt m own)
    rw [r1.1] at e
    conv => lhs; rw [← e]
    exact zip_range
  have z2 : (lumpRow m l hed).zip V = (List.range l.length).map fun i => (wt (rowAt m hed) (lumpAt l i), numAt V i) := by
    have e := range_num (V := V)
    rw [hV] at e
    have e2 : lumpRow m l hed = (List.range l.length).map fun i => wt (rowAt m hed) (lumpAt l i) := by
      show l.map _ = _
      conv => lhs; rw [← range_lump (l := l)]
      rw [List.map_map]; rfl
    rw [e2]
    conv => lhs; rw [← e]
    exact zip_range
  have a1 := valL_D (s := (rowAt m own).sum) (D := prodL (spreadV n l V)) (D' := prodL V) s1 (l := (rowAt m own).zip (spreadV n l V)) fun q hq => by
    have q1 := zip_mem_snd hq
    obtain ⟨j, hj, e⟩ := List.mem_map.mp q1
    have q2 := (num_at (V := V) (by rw [hV]; exact (idx_ok h j hj).2.1)).2
    refine ⟨(pN _ q1).1, dvd_prodL q1, ?_⟩
    rw [← e]
    exact dvd_prodL q2
  have a2 := valL_val (s := (rowAt m hed).sum) (D' := prodL V) s2 (l := (lumpRow m l hed).zip V) fun q hq => (hN _ (zip_mem_snd hq)).1
  rw [z1, List.map_map] at a1
  rw [z2, List.map_map] at a2
  have b1 : ((List.range n).map ((fun q : Nat × (Int × Nat) => (q.1 : Int) * (q.2.1 * ((prodL V / q.2.2 : Nat) : Int))) ∘ fun j => (pick (rowAt m own) j, numAt V (idx l j)))).sum = ((List.range l.length).map fun i => (wt (rowAt m own) (lumpAt l i) : Int) * c i).sum := regroup h (rowAt m own) c r1.1
  rw [b1] at a1
  have cr := sum_cross (s := ((rowAt m own).sum : Int)) (t := ((rowAt m hed).sum : Int)) (f := fun i => (wt (rowAt m own) (lumpAt l i) : Int)) (g := fun i => (wt (rowAt m hed) (lumpAt l i) : Int)) (c := c) (l := List.range l.length) fun i hi => by
    have q := alike_at (List.all_eq_true.mp (List.all_eq_true.mp hb _ k2) _ (lump_at (List.mem_range.mp hi)).2) i3
    rw [hL] at q
    exact low_cross s1 s2 q
  rw [z1, z2]
  have a2 : valL (rowAt m hed).sum ((rowAt m hed).sum * prodL V) ((List.range l.length).map fun i => (wt (rowAt m hed) (lumpAt l i), numAt V i)) = ((List.range l.length).map fun i => (wt (rowAt m hed) (lumpAt l i) : Int) * c i).sum := a2
  rw [a2, Int.natCast_mul, Int.natCast_mul, Int.mul_comm ((rowAt m hed).sum : Int), ← Int.mul_assoc, a1, Int.mul_assoc, cr, Int.mul_comm, Int.mul_assoc]
/-- the numbers behind the meeting of lumps -/
def lowQ (V : List (Int × Nat)) (row : List Nat) : Int × Nat := (valL row.sum (row.sum * prodL V) (row.zip V) / (Nat.gcd (valL row.sum (row.sum * prodL V) (row.zip V)).natAbs (row.sum * prodL V) : Int), row.sum * prodL V / Nat.gcd (valL row.sum (row.sum * prodL V) (row.zip V)).natAbs (row.sum * prodL V))
theorem valL_abs {s u B : Nat} : ∀ {l : List (Nat × (Int × Nat))}, (∀ q ∈ l, q.2.1.natAbs ≤ 4 ∧ u / (s * q.2.2) ≤ B) → (valL s u l).natAbs ≤ (l.map (·.1)).sum * (4 * B)
  | [], _ => by simp [valL]
  | q :: l, h => by
    obtain ⟨h1, h2⟩ := h q List.mem_cons_self
    have ih := valL_abs (B := B) fun z m => h z (List.mem_cons_of_mem _ m)
    rw [valL, List.map_cons, List.sum_cons, Nat.add_mul]
    refine Nat.le_trans (Int.natAbs_add_le _ _) (Nat.add_le_add ?_ ih)
    rw [Int.natAbs_mul, Int.natAbs_mul, Int.natAbs_natCast, Int.natAbs_natCast, Nat.mul_assoc]
    exact Nat.mul_le_mul_left _ (Nat.mul_le_mul h1 h2)
theorem late_fr (h6 : n ≤ 6) (g : GoodM n m) (h : l ∈ partsOf n) (hV : V.length = l.length) (hN : ∀ q ∈ V, NumOk q) : ∀ q ∈ (lumpM m l).map (lowQ V), FrOk q := fun q hq => by
  obtain ⟨r, hr, rfl⟩ := List.mem_map.mp hq
  obtain ⟨lump, hl, rfl⟩ := List.mem_map.mp hr
  have L := lumps_ok h
  have hp := parts_len h
  obtain ⟨_, m2⟩ := row_at g (L.lt lump hl _ (hd_mem (L.ne lump hl)).1)
  have r2 := g.row _ m2
  have sm := row_sum h6 g m2
  have eR : (lumpRow m l (hd lump)).sum = (rowAt m (hd lump)).sum := wt_sum h _ r2.1
  have p2 := prodL_pos hN
  have p3 : prodL V ≤ 81 := Nat.le_trans (prodL_le hN) (Nat.le_trans (Nat.pow_le_pow_right (by omega) (show V.length ≤ 4 by omega)) (by decide))
  have hu : (lumpRow m l (hd lump)).sum * prodL V ≤ 594 * 81 := by rw [eR]; exact Nat.mul_le_mul sm.2 p3
  have hu0 : 0 < (lumpRow m l (hd lump)).sum * prodL V := by rw [eR]; exact Nat.mul_pos sm.1 p2
  have hs0 : 0 < (lumpRow m l (hd lump)).sum := by rw [eR]; exact sm.1
  have hv := valL_abs (s := (lumpRow m l (hd lump)).sum) (u := (lumpRow m l (hd lump)).sum * prodL V) (B := 81) (l := (lumpRow m l (hd lump)).zip V) fun q hq => by
    refine ⟨(hN _ (zip_mem_snd hq)).2.2, ?_⟩
    rw [Nat.mul_div_mul_left _ _ hs0]
    exact Nat.le_trans (Nat.div_le_self _ _) p3
  have e1 : (((lumpRow m l (hd lump)).zip V).map (·.1)) = lumpRow m l (hd lump) := List.map_fst_zip (by rw [List.length_map, hV]; exact Nat.le_refl _)
  rw [e1] at hv
  have hs594 : (lumpRow m l (hd lump)).sum ≤ 594 := by rw [eR]; exact sm.2
  have hv2 : (lumpRow m l (hd lump)).sum * (4 * 81) ≤ 594 * (4 * 81) := Nat.mul_le_mul_right _ hs594
  exact (low_fr (v := valL (lumpRow m l (hd lump)).sum ((lumpRow m l (hd lump)).sum * prodL V) ((lumpRow m l (hd lump)).zip V)) (u := (lumpRow m l (hd lump)).sum * prodL V) hu0 (Nat.le_trans hv (Nat.le_trans hv2 (by omega))) (Nat.le_trans hu (by omega))).2
theorem behind_same (h6 : n ≤ 6) (g : GoodM n m) (h : l ∈ partsOf n) (hb : lumpedB m l = true) (hV : V.length = l.length) (hN : ∀ q ∈ V, NumOk q) :
    numsP (spreadV n l ((lumpM m l).map (lowQ V))) = .tup (m.map (lowRow (spreadV n l V))) := by
  refine congrArg P.tup ?_
  unfold spreadV
  rw [List.map_map]
  have e := range_row (m := m)
  rw [g.len] at e
  conv => rhs; rw [← e]
  rw [List.map_map]
  refine List.map_congr_left fun own ho => ?_
  obtain ⟨_, i2, i3⟩ := idx_ok h own ho
  show numP (numAt ((lumpM m l).map (lowQ V)) (idx l own)) = lowRow (spreadV n l V) (rowAt m own)
  rw [row_same h6 g h hb hV hN ho]
  unfold numAt lumpM
  rw [List.map_map, List.getElem?_map, (lump_at i2).1]; rfl
theorem spread_const (h : l ∈ partsOf n) : ∀ lump ∈ l, ∀ at_ ∈ lump, numAt (spreadV n l V) at_ = numAt (spreadV n l V) (hd lump) := fun lump hl at_ ha => by
  have L := lumps_ok h
  obtain ⟨h0, _⟩ := hd_mem (L.ne lump hl)
  obtain ⟨i, hi, e⟩ := List.mem_iff_getElem.mp hl
  have el : lumpAt l i = lump := by unfold lumpAt; rw [List.getElem?_eq_getElem hi, e]; rfl
  have at1 : ∀ z ∈ lump, numAt (spreadV n l V) z = numAt V i := fun z hz => by
    have hz2 := L.lt lump hl z hz
    have q := idx_in h i (List.mem_range.mpr hi) z (by rw [el]; exact hz)
    have : (spreadV n l V)[z]? = some (numAt V (idx l z)) := by
      unfold spreadV
      rw [List.getElem?_map, List.getElem?_range hz2]; rfl
    unfold numAt at this ⊢
    rw [this, q]; rfl
  rw [at1 at_ ha, at1 _ h0]
theorem spread_back (h : l ∈ partsOf n) (hV : V.length = l.length) : (l.map fun lump => numAt (spreadV n l V) (hd lump)) = V := by
  have L := lumps_ok h
  have e := range_num (V := V)
  rw [hV] at e
  conv => rhs; rw [← e]
  have el := congrArg (List.map fun lump => numAt (spreadV n l V) (hd lump)) (range_lump (l := l))
  rw [List.map_map] at el
  rw [← el]
  refine List.map_congr_left fun i hi => ?_
  obtain ⟨k1, k2⟩ := lump_at (List.mem_range.mp hi)
  obtain ⟨h0, _⟩ := hd_mem (L.ne _ k2)
  have hz2 := L.lt _ k2 _ h0
  have q := idx_in h i hi _ h0
  show numAt (spreadV n l V) (hd (lumpAt l i)) = numAt V i
  have : (spreadV n l V)[hd (lumpAt l i)]? = some (numAt V (idx l (hd (lumpAt l i)))) := by
    unfold spreadV
    rw [List.getElem?_map, List.getElem?_range hz2]; rfl
  unfold numAt at this ⊢
  rw [this, q]; rfl
end
end Ev.Pl

set_option Elab.async false
set_option linter.all false
set_option maxRecDepth 100000
set_option maxHeartbeats 1000000
set_option exponentiation.threshold 5000
namespace Ev.Pl
open PySem

/-! ### members alike -/
def tabRow (r : List Nat) : P := .tup (r.map fun a => lowP (a : Nat) r.sum)
def prs (n : Nat) : List (Nat × Nat) := (List.range n).flatMap fun i => ((List.range n).filter fun j => decide (i < j)).map fun j => (i, j)
theorem prs_law {n : Nat} (h1 : 1 ≤ n) (h4 : n ≤ 4) : prs n = (List.range n).flatMap fun i => (List.range (n - (i + 1))).map fun j => (i, i + 1 + j) := by
  rcases parts_cases h1 h4 with rfl | rfl | rfl | rfl <;> decide
theorem prs_lt {n : Nat} (h1 : 1 ≤ n) (h4 : n ≤ 4) : (∀ q ∈ prs n, q.1 < n ∧ q.2 < n) ∧ (prs n).length ≤ 6 := by
  rcases parts_cases h1 h4 with rfl | rfl | rfl | rfl <;> decide
abbrev prP (q : Nat × Nat) : P := .tup [N q.1, N q.2]
def aliB (b : List (List (List Nat))) (q : Nat × Nat) : Bool := b.all fun m => decide (tabRow (rowAt m q.1) = tabRow (rowAt m q.2))
section
variable {k n x y : Nat} {b : List (List (List Nat))} {m : List (List Nat)} {s : St}
theorem plain_tab {r : List Nat} : P.plain 60 (tabRow r) = true := by
  rw [tabRow, P.plain]
  refine P.plains_iff.mpr fun z h => ?_
  obtain ⟨a, _, rfl⟩ := List.mem_map.mp h
  exact plain_low
theorem table_in_ok (h6 : n ≤ 6) (g : GoodM n m) : callN tb (k + 3) 10 [.p (rows m)] s = .ok (.p (.tup (m.map tabRow))) s := by
  have hl := g.len
  refine fn_pure (f := t_table_in) rfl rfl (st_ret (ev_un (x := .lst (m.map tabRow)) (ev_frz (ev_compA (l := m) (c := nats) (f := tabRow) (ev_ex (ev_var rfl) rfl) (fun r hr => ⟨_, rfl, ?_⟩) (by omega))) u_tuple_l))
  have hrow := g.row r hr
  have sm := row_sum h6 g hr
  exact ev_un (x := .lst (r.map fun a => lowP (a : Nat) r.sum)) (ev_frz (ev_compA (l := r) (c := N) (f := fun a => lowP (a : Nat) r.sum) (ev_ex (ev_var rfl) rfl) (fun a ha => ⟨_, rfl, ev_call (ev_cons (ev_var rfl) (ev_cons (ev_un (ev_var rfl) u_sum_t) ev_nil)) (lowest_ok (k := k) sm.1 (by omega))⟩) (by omega))) u_tuple_l
abbrev tabP (m : List (List Nat)) : P := .tup (m.map tabRow)
theorem alike_ok (g : GoodB n b) (h4 : n ≤ 4) : callN tb (k + 5) 35 [.p (bookP b)] s = .ok (.p (.tup (((prs n).filter fun q => aliB b q).map prP))) s := by
  have hp := prs_lt g.pos h4
  have hb := g.few
  have rg : rngOk 0 (n : Int) = true := rngOk_N (by omega)
  have iR : itemsOf (.rng 0 (n : Int)) = some ((List.range n).map N) := by
    show (if rngOk 0 (n : Int) then some (rngP 0 (n : Int)) else none) = _
    rw [rg, if_pos rfl, rng_N]
  have ePrs : ((List.range n).flatMap fun i => ((List.range n).filter fun j => decide (i < j)).map fun j => prP (i, j)) = (prs n).map prP := by
    rw [prs, List.map_flatMap]
    refine congrArg (fun f => List.flatMap f (List.range n)) (funext fun i => ?_)
    rw [List.map_map]
    exact List.map_congr_left fun j _ => rfl
  have e1 : evL (callN tb (k + 4)) (.comp2 [5, 6] (.name 5) (.ex (.var 2)) .yes [6] (.name 6) (.ex (.var 2)) (.if1 (.cmp .lt (.var 5) (.var 6))) (.tup (.cons (.var 5) (.cons (.var 6) .nil)))) [some (.p (bookP b)), some (.p (.lst (b.map tabP))), some (.p (.rng 0 n)), none, none, none, none, none, none] s = .ok ((prs n).map prP) s := by
    rw [← ePrs]
    exact ev_comp2L (l := List.range n) (c := N) (d := N) (g := fun _ => List.range n) (p := fun i j => decide (i < j)) (f := fun i j => prP (i, j)) (ev_ex (ev_var rfl) iR) (fun i hi => ⟨_, rfl, ev_ex (ev_var rfl) iR, fun j hj => ⟨_, rfl, ev_if1 (ev_ltI (ev_var rfl) (ev_var rfl)), fun _ => ev_pars (xs := [N i, N j]) (ev_cons (ev_var rfl) (ev_cons (ev_var rfl) ev_nil)) rfl⟩⟩) (by rw [ePrs, List.length_map]; omega)
  have e2 : evL (callN tb (k + 4)) (.comp [4] (.name 4) (.ex (.var 0)) .yes (.call 10 (.cons (.var 4) .nil))) [some (.p (bookP b)), none, none, none, none, none, none, none, none] s = .ok (b.map tabP) s :=
    ev_compA (l := b) (c := rows) (f := tabP) (ev_ex (ev_var rfl) rfl) (fun m hm => ⟨_, rfl, ev_call (ev_cons (ev_var rfl) ev_nil) (table_in_ok (k := k + 1) g.le (g.all m hm))⟩) (by omega)
  have e3 : evE (callN tb (k + 4)) (.rngv (.un .len (.bin .idx (.var 0) (.lit (.int 0))))) [some (.p (bookP b)), some (.p (.lst (b.map tabP))), none, none, none, none, none, none, none] s = .ok (.p (.rng 0 n)) s := by
    rw [evE, many_ok g rfl, R.bind_ok']
    exact if_pos rg
  refine fn_pure (f := t_alike_members) rfl rfl (st_ex (ev_call (ev_cons (ev_var rfl) ev_nil) (need_book_ok (k := k) g)) (st_asg (ev_frz e2) (by show 1 < 9; decide) (st_asg e3 (by show 2 < 9; decide) (st_asg (ev_frz e1) (by show 3 < 9; decide)
    (st_ret (ev_un (x := .lst (((prs n).filter fun q => aliB b q).map prP)) (ev_frz (ev_comp (l := prs n) (c := prP) (p := fun q => aliB b q) (f := prP) (ev_ex (ev_var rfl) rfl) (fun q hq => ⟨_, rfl, ev_if1 (ev_tru (ev_un (x := .lst (b.map fun m => .bl (decide (tabRow (rowAt m q.1) = tabRow (rowAt m q.2))))) (ev_frz (ev_compA (l := b) (c := tabP) (f := fun m => .bl (decide (tabRow (rowAt m q.1) = tabRow (rowAt m q.2)))) (ev_ex (ev_var rfl) rfl) (fun m hm => ⟨_, rfl, ev_tv (ev_cmp (ev_bin (ev_var rfl) (ev_bin (ev_var rfl) ev_lit (at_P (l := [N q.1, N q.2]) (i := 0) (by simp))) (at_map (c := tabRow) (row_at (g.all m hm) (hp.1 q hq).1).1)) (ev_bin (ev_var rfl) (ev_bin (ev_var rfl) ev_lit (at_P (l := [N q.1, N q.2]) (i := 1) (by simp))) (at_map (c := tabRow) (row_at (g.all m hm) (hp.1 q hq).2).1)) (by rw [c_eq, peq_plain plain_tab plain_tab]))⟩) (by omega))) (by rw [u_all_b]; rfl))), fun _ => ev_var rfl⟩) (by omega))) u_tuple_l))))))
/-! ### the law's own pairs -/
def lawAl (n : Nat) (b : List (List (List Nat))) (q : Nat × Nat) : Bool := b.all fun m => (List.range n).all fun by_ => decide (pick (rowAt m q.1) by_ * (rowAt m q.2).sum = pick (rowAt m q.2) by_ * (rowAt m q.1).sum)
theorem lawAl_eq (g : GoodB n b) {q : Nat × Nat} (h1 : q.1 < n) (h2 : q.2 < n) : lawAl n b q = aliB b q := by
  unfold lawAl aliB
  rw [Bool.eq_iff_iff, List.all_eq_true, List.all_eq_true]
  refine forall_congr' fun m => forall_congr' fun hm => ?_
  have g := g.all m hm
  obtain ⟨_, m1⟩ := row_at g h1
  obtain ⟨_, m2⟩ := row_at g h2
  have r1 := g.row _ m1
  have r2 := g.row _ m2
  have e1 := range_pick (r := rowAt m q.1)
  have e2 := range_pick (r := rowAt m q.2)
  rw [r1.1] at e1
  rw [r2.1] at e2
  rw [List.all_eq_true, decide_eq_true_eq]
  have t1 : tabRow (rowAt m q.1) = .tup ((List.range n).map fun j => lowP (pick (rowAt m q.1) j : Nat) (rowAt m q.1).sum) := by
    unfold tabRow
    conv => lhs; arg 1; arg 2; rw [← e1]
    rw [List.map_map]; rfl
  have t2 : tabRow (rowAt m q.2) = .tup ((List.range n).map fun j => lowP (pick (rowAt m q.2) j : Nat) (rowAt m q.2).sum) := by
    unfold tabRow
    conv => lhs; arg 1; arg 2; rw [← e2]
    rw [List.map_map]; rfl
  rw [t1, t2]
  constructor
  · intro h
    refine congrArg P.tup (List.map_congr_left fun j hj => ?_)
    have z := of_decide_eq_true (h j hj)
    exact low_eq r1.2.2 r2.2.2 (by rw [← Int.natCast_mul, ← Int.natCast_mul, z])
  · intro h j hj
    have z := (List.map_inj_left.mp (P.tup.inj h)) j hj
    have c := low_cross r1.2.2 r2.2.2 z
    rw [← Int.natCast_mul, ← Int.natCast_mul] at c
    exact decide_eq_true (Int.ofNat_inj.mp c)
end
end Ev.Pl

set_option Elab.async false
set_option linter.all false
set_option maxRecDepth 100000
set_option maxHeartbeats 1000000
set_option exponentiation.threshold 5000
namespace Ev.Pl
open PySem

/-! ### the law's look at one book: the lumps -/
abbrev envW (c1 c2 c3 c4 c5 c6 c7 c8 c9 c10 c11 c12 c13 c14 c15 c16 c17 c18 c19 c20 c21 c22 : Option D) : En := [some (.obj 0), c1, c2, c3, c4, c5, c6, c7, c8, c9, c10, c11, c12, c13, c14, c15, c16, c17, c18, c19, c20, c21, c22, none, none]
abbrev strP (x : String) : P := .str (PySem.Str.ofString x)
abbrev wordTab : List (Nat × Tell) := [(41, .txt (strP "member")), (40, .txt (strP "meeting"))]
section
variable {cf : Nat → List D → St → R D} {r r1 : En} {s s1 s2 : St} {k0 : Nat}
theorem st_ifY {b : Ss} {t : T} {u v : Ss} {res : R Fl} (h : evT cf t r s = .ok true s1) (h2 : evSs cf k0 u r s1 = .ok (.next r1) s2) (h3 : evSs cf k0 b r1 s2 = res) : evSs cf k0 (.cons (.ife t u v) b) r s = res := by
  rw [evSs, evS, h, R.bind_ok', if_pos rfl, h2, R.bind_ok']; exact h3
end
theorem rows_snoc (X : List (List Nat)) (y : List Nat) : rows (X ++ [y]) = .tup (X.map nats ++ [nats y]) := by
  show P.tup (List.map nats (X ++ [y])) = _; rw [List.map_append]; rfl
theorem book_snoc (X : List (List (List Nat))) (y : List (List Nat)) : bookP (X ++ [y]) = .tup (X.map rows ++ [rows y]) := by
  show P.tup (List.map rows (X ++ [y])) = _; rw [List.map_append]; rfl
theorem lateB_snoc (X : List (List (List Nat))) (y : List (List Nat)) (l : Lumps) : lateB (X ++ [y]) l = lateB X l ++ [lumpM y l] := by
  rw [lateB, List.map_append]; rfl
/-! the meetings of lumps, as the law makes them -/
abbrev cellE : E := .un .tuple (.frz (.comp [17] (.name 17) (.ex (.var 10)) .yes (.un .sum (.frz (.comp [24] (.name 24) (.ex (.var 17)) .yes (.bin .idx (.bin .idx (.var 14) (.bin .idx (.var 19) (.lit (.int 0)))) (.var 24)))))))
abbrev turnA : Ss := .cons (.asg 18 (.bin .add (.var 18) (.tup (.cons cellE .nil)))) .nil
abbrev turnB2 : Ss := .cons (.asg 18 (.tup .nil)) (.cons (.fo (.name 19) (.ex (.var 10)) turnA) (.cons (.asg 13 (.bin .add (.var 13) (.tup (.cons (.var 18) .nil)))) .nil))
section
variable {cf : Nat → List D → St → R D} {k0 n : Nat} {s : St} {b : List (List (List Nat))} {m : List (List Nat)} {l : Lumps} {c1 c2 c3 c4 c5 c6 c7 c8 c9 c10 c11 c12 c13 c14 c15 c16 c17 c18 c19 c20 c21 c22 : Option D}
theorem cellE_ok (g : GoodM n m) (L : LumpsOk n l) {lump : List Nat} (hl : lump ∈ l) : evE cf cellE (envW c1 c2 c3 c4 c5 c6 c7 c8 c9 (some (.p (rows l))) c11 c12 c13 (some (.p (rows m))) c15 c16 c17 c18 (some (.p (nats lump))) c20 c21 c22) s = .ok (.p (nats (lumpRow m l (hd lump)))) s := by
  obtain ⟨h0, h1⟩ := hd_mem (L.ne lump hl)
  obtain ⟨r1, r2⟩ := row_at g (L.lt lump hl _ h0)
  have hr := g.row _ r2
  refine ev_un (x := .lst (l.map fun other => N (wt (rowAt m (hd lump)) other))) (ev_frz (ev_compA (l := l) (c := nats) (f := fun other => N (wt (rowAt m (hd lump)) other)) (ev_ex (ev_var rfl) rfl) (fun other ho => ⟨_, rfl, ?_⟩) (by have := L.few; omega))) ?_
  · refine ev_un (x := .lst ((other.map fun at_ => pick (rowAt m (hd lump)) at_).map N)) (ev_frz ?_) u_sum_l
    rw [List.map_map]
    exact ev_compA (l := other) (c := N) (f := fun at_ => N (pick (rowAt m (hd lump)) at_)) (ev_ex (ev_var rfl) rfl) (fun at_ ha => ⟨_, rfl, ev_bin (ev_bin (ev_var rfl) (ev_bin (ev_var rfl) ev_lit (at_map (c := N) (i := 0) h1)) (at_map (c := nats) r1)) (ev_var rfl) (at_map (c := N) (pick_at (by rw [hr.1]; exact L.lt other ho _ ha)))⟩) (by have := L.small other ho; omega)
  · rw [u_tuple_l]
    show _ = some (P.tup _)
    rw [List.map_map]; rfl
theorem loopA (g : GoodM n m) (L : LumpsOk n l) : ∃ d19, forGo (forBody cf k0 (.name 19) turnA) (l.map nats) (envW c1 c2 c3 c4 c5 c6 c7 c8 c9 (some (.p (rows l))) c11 c12 c13 (some (.p (rows m))) c15 c16 c17 (some (.p (.tup []))) c19 c20 c21 c22) s =
    .ok (.next (envW c1 c2 c3 c4 c5 c6 c7 c8 c9 (some (.p (rows l))) c11 c12 c13 (some (.p (rows m))) c15 c16 c17 (some (.p (rows (lumpM m l)))) d19 c20 c21 c22)) s := by
  obtain ⟨r', s', e, d19, h1, h2⟩ := forGo_inv (f := forBody cf k0 (.name 19) turnA) (c := nats) (l := l) (i := 0) (s := s)
    (Inv := fun i r s1 => ∃ d19, r = envW c1 c2 c3 c4 c5 c6 c7 c8 c9 (some (.p (rows l))) c11 c12 c13 (some (.p (rows m))) c15 c16 c17 (some (.p (rows ((l.take i).map fun lump => lumpRow m l (hd lump))))) d19 c20 c21 c22 ∧ s1 = s)
    (r := envW c1 c2 c3 c4 c5 c6 c7 c8 c9 (some (.p (rows l))) c11 c12 c13 (some (.p (rows m))) c15 c16 c17 (some (.p (.tup []))) c19 c20 c21 c22) ⟨c19, rfl, rfl⟩ fun j lump r s1 hj ⟨a19, hr, hs⟩ => by
      subst hr hs
      have hl := List.mem_of_getElem? hj
      have hb := b_add_t (l := ((l.take (0 + j)).map fun lump => lumpRow m l (hd lump)).map nats) (m := [nats (lumpRow m l (hd lump))]) (le_big (by rw [List.length_map, List.length_map, List.length_take]; have := L.few; show min (0 + j) l.length + 1 ≤ 1000; omega))
      refine ⟨_, s1, forBody_at (r2 := envW c1 c2 c3 c4 c5 c6 c7 c8 c9 (some (.p (rows l))) c11 c12 c13 (some (.p (rows m))) c15 c16 c17 (some (.p (rows ((l.take (0 + j)).map fun lump => lumpRow m l (hd lump))))) (some (.p (nats lump))) c20 c21 c22) rfl (st_asg (ev_bin (ev_var rfl) (ev_pars (xs := [nats (lumpRow m l (hd lump))]) (ev_cons (cellE_ok g L hl) ev_nil) rfl) hb) (by show 18 < 25; decide) st_nil), ⟨some (.p (nats lump)), ?_, rfl⟩⟩
      rw [show l.take (0 + j + 1) = l.take (0 + j) ++ [lump] by rw [List.take_add_one, Nat.zero_add, hj]; rfl, List.map_append, List.map_cons, List.map_nil, rows_snoc]; rfl
  subst h1 h2
  rw [Nat.zero_add, List.take_length] at e
  exact ⟨d19, e⟩
theorem loopB (g : GoodB n b) (L : LumpsOk n l) : ∃ d14 d18 d19, forGo (forBody cf k0 (.name 14) turnB2) (b.map rows) (envW c1 c2 c3 c4 c5 c6 c7 c8 c9 (some (.p (rows l))) c11 c12 (some (.p (.tup []))) c14 c15 c16 c17 c18 c19 c20 c21 c22) s =
    .ok (.next (envW c1 c2 c3 c4 c5 c6 c7 c8 c9 (some (.p (rows l))) c11 c12 (some (.p (bookP (lateB b l)))) d14 c15 c16 c17 d18 d19 c20 c21 c22)) s := by
  obtain ⟨r', s', e, d14, d18, d19, h1, h2⟩ := forGo_inv (f := forBody cf k0 (.name 14) turnB2) (c := rows) (l := b) (i := 0) (s := s)
    (Inv := fun i r s1 => ∃ d14 d18 d19, r = envW c1 c2 c3 c4 c5 c6 c7 c8 c9 (some (.p (rows l))) c11 c12 (some (.p (bookP (lateB (b.take i) l)))) d14 c15 c16 c17 d18 d19 c20 c21 c22 ∧ s1 = s)
    (r := envW c1 c2 c3 c4 c5 c6 c7 c8 c9 (some (.p (rows l))) c11 c12 (some (.p (.tup []))) c14 c15 c16 c17 c18 c19 c20 c21 c22) ⟨c14, c18, c19, rfl, rfl⟩ fun j m r s1 hj ⟨a14, a18, a19, hr, hs⟩ => by
      subst hr hs
      have hm := List.mem_of_getElem? hj
      obtain ⟨d19, el⟩ := loopA (cf := cf) (k0 := k0) (s := s1) (c1 := c1) (c2 := c2) (c3 := c3) (c4 := c4) (c5 := c5) (c6 := c6) (c7 := c7) (c8 := c8) (c9 := c9) (c11 := c11) (c12 := c12) (c13 := some (.p (bookP (lateB (b.take (0 + j)) l)))) (c15 := c15) (c16 := c16) (c17 := c17) (c19 := a19) (c20 := c20) (c21 := c21) (c22 := c22) (g.all m hm) L
      have hb := b_add_t (l := (lateB (b.take (0 + j)) l).map rows) (m := [rows (lumpM m l)]) (le_big (by rw [lateB, List.length_map, List.length_map, List.length_take]; have := g.few; show min (0 + j) b.length + 1 ≤ 1000; omega))
      refine ⟨_, s1, forBody_at (r2 := envW c1 c2 c3 c4 c5 c6 c7 c8 c9 (some (.p (rows l))) c11 c12 (some (.p (bookP (lateB (b.take (0 + j)) l)))) (some (.p (rows m))) c15 c16 c17 a18 a19 c20 c21 c22) rfl (st_asg (ev_pars (xs := []) ev_nil rfl) (by show 18 < 25; decide) (st_for (ev_ex (ev_var rfl) rfl) el (st_asg (ev_bin (ev_var rfl) (ev_pars (xs := [rows (lumpM m l)]) (ev_cons (ev_var rfl) ev_nil) rfl) hb) (by show 13 < 25; decide) st_nil))), ⟨some (.p (rows m)), some (.p (rows (lumpM m l))), d19, ?_, rfl⟩⟩
      rw [show b.take (0 + j + 1) = b.take (0 + j) ++ [m] by rw [List.take_add_one, Nat.zero_add, hj]; rfl, lateB_snoc, book_snoc]; rfl
  subst h1 h2
  rw [Nat.zero_add, List.take_length] at e
  exact ⟨d14, d18, d19, e⟩
/-! the greatest weight -/
def grW (f : List (List (List Nat))) : Nat := mxN (f.map fun m => mxN (m.map mxN))
theorem grW_iff {f : List (List (List Nat))} : decide (99 < grW f) = !f.all small := by
  rw [Bool.eq_iff_iff, decide_eq_true_eq, Bool.not_eq_true', ← Bool.not_eq_true, List.all_eq_true, grW, mx_iff]
  constructor
  · rintro ⟨x, hx, h⟩ z
    obtain ⟨m, hm, rfl⟩ := List.mem_map.mp hx
    obtain ⟨y, hy, h⟩ := mx_iff.mp h
    obtain ⟨row, hr, rfl⟩ := List.mem_map.mp hy
    obtain ⟨v, hv, h⟩ := mx_iff.mp h
    have := of_decide_eq_true (List.all_eq_true.mp (List.all_eq_true.mp (z m hm) row hr) v hv)
    omega
  · intro z
    refine Classical.byContradiction fun q => z fun m hm => ?_
    refine List.all_eq_true.mpr fun row hr => List.all_eq_true.mpr fun v hv => decide_eq_true (Classical.byContradiction fun w => q ⟨_, List.mem_map.mpr ⟨m, hm, rfl⟩, mx_iff.mpr ⟨_, List.mem_map.mpr ⟨row, hr, rfl⟩, mx_iff.mpr ⟨v, hv, by omega⟩⟩⟩)
abbrev grE : E := .mx false .int (.frz (.comp [14] (.name 14) (.ex (.var 13)) .yes (.mx false .int (.frz (.comp [23] (.name 23) (.ex (.var 14)) .yes (.mx false .int (.var 23)))))))
theorem grE_ok {f : List (List (List Nat))} {c : Nat} (h1 : 1 ≤ c) (h6 : c ≤ 6) (hf : 1 ≤ f.length) (hf6 : f.length ≤ 6) (g : ∀ x ∈ f, PreM c x) : evE cf grE (envW c1 c2 c3 c4 c5 c6 c7 c8 c9 c10 c11 c12 (some (.p (bookP f))) c14 c15 c16 c17 c18 c19 c20 c21 c22) s = .ok (.p (N (grW f))) s := by
  have ne : ∀ {α β : Type} {q : α → β} {l : List α}, 1 ≤ l.length → l.map q ≠ [] := fun {α β q l} h e => by
    have := congrArg List.length e
    rw [List.length_map] at this
    simp at this
    subst this
    simp at h
  have ne0 : ∀ {α : Type} {l : List α}, 1 ≤ l.length → l ≠ [] := fun {α l} h e => by subst e; simp at h
  refine ev_mxL (l := f.map fun m => mxN (m.map mxN)) (ne hf) (ev_frz ?_)
  rw [List.map_map]
  refine ev_compA (l := f) (c := rows) (f := fun m => N (mxN (m.map mxN))) (ev_ex (ev_var rfl) rfl) (fun m hm => ⟨_, rfl, ?_⟩) (by omega)
  have gm := g m hm
  refine ev_mxL (l := m.map mxN) (ne (by rw [gm.len]; exact h1)) (ev_frz ?_)
  rw [List.map_map]
  exact ev_compA (l := m) (c := nats) (f := fun row => N (mxN row)) (ev_ex (ev_var rfl) rfl) (fun row hr => ⟨_, rfl, ev_mxT (ne0 (by rw [(gm.row row hr).1]; exact h1)) (ev_var rfl)⟩) (by rw [gm.len]; omega)
end
end Ev.Pl

set_option Elab.async false
set_option linter.all false
set_option maxRecDepth 100000
set_option maxHeartbeats 1000000
set_option exponentiation.threshold 5000
namespace Ev.Pl
open PySem

/-! ### one way to take members as one, looked at by the law -/
abbrev b1S : S := (.asg 20 (.call 13 (.cons (.var 0) (.cons (.un .len (.var 10)) .nil))))
abbrev b2S : S := (.asg 21 (.call 32 (.cons (.var 20) (.cons (.var 10) .nil))))
abbrev b3S : S := (.asg 22 (.call 12 (.cons (.bin .idx (.var 7) (.lit (.int 0))) (.cons (.var 21) .nil))))
abbrev b4S : S := (.ife (.or (.cmp .ne (.call 30 (.cons (.var 7) (.cons (.var 10) .nil))) (.var 13)) (.or (.cmp .ne (.call 31 (.cons (.var 21) (.cons (.var 10) .nil))) (.var 20)) (.cmp .ne (.call 32 (.cons (.call 12 (.cons (.bin .idx (.var 13) (.lit (.int 0))) (.cons (.var 20) .nil))) (.cons (.var 10) .nil))) (.var 22)))) (.cons (.ret (.lit (.bl false))) .nil) .nil)
abbrev blockL : Ss := .cons b1S (.cons b2S (.cons b3S (.cons b4S .nil)))
theorem rows_inj {x y : List (List Nat)} (h : rows x = rows y) : x = y := by
  have h := P.tup.inj h
  induction x generalizing y with
  | nil => cases y with
    | nil => rfl
    | cons b y => cases h
  | cons a x ih => cases y with
    | nil => cases h
    | cons b y =>
      rw [List.map_cons, List.map_cons] at h
      obtain ⟨h1, h2⟩ := List.cons.inj h
      rw [nats_inj h1, ih (congrArg P.tup h2) h2]
theorem plain_rows (n : Nat) (x : List (List Nat)) : P.plain (n + 2) (rows x) = true := by rw [P.plain]; exact plains_nats n x
theorem plains_rows (n : Nat) (x : List Lumps) : P.plains (n + 2) (x.map rows) = true := P.plains_iff.mpr fun z h => by
  obtain ⟨i, _, rfl⟩ := List.mem_map.mp h
  exact plain_rows n i
theorem plain_book {b : List (List (List Nat))} : P.plain 60 (bookP b) = true := by rw [P.plain]; exact plains_rows 57 b
theorem plain_nums {V : List (Int × Nat)} : P.plain 60 (numsP V) = true := by
  rw [P.plain]
  refine P.plains_iff.mpr fun z h => ?_
  obtain ⟨q, _, rfl⟩ := List.mem_map.mp h
  rw [P.plain, P.plains, P.plains, P.plains]
  simp [P.plain]
theorem in_rows {l : Lumps} {good : List Lumps} : inSeq (rows l) (good.map rows) = some (decide (l ∈ good)) := by
  rw [inSeq_plain (plain_rows 58 l) (plains_rows 58 good)]
  refine congrArg some (decide_eq_decide.mpr ⟨fun h => ?_, fun h => List.mem_map.mpr ⟨l, h, rfl⟩⟩)
  obtain ⟨z, hz, e⟩ := List.mem_map.mp h
  exact rows_inj e ▸ hz
def goods (n : Nat) (b : List (List (List Nat))) : List Lumps := (partsOf n).filter fun l => canB b l
theorem in_goods {n : Nat} {b : List (List (List Nat))} {l : Lumps} (h : l ∈ partsOf n) : decide (l ∈ goods n b) = canB b l := by
  rw [Bool.eq_iff_iff, decide_eq_true_eq, goods, List.mem_filter]
  exact ⟨fun h => h.2, fun h2 => ⟨h, h2⟩⟩
theorem rows_ok {n : Nat} {m : List (List Nat)} (h6 : n ≤ 6) (g : GoodM n m) : RowsOk m := ⟨by rw [g.len]; omega, fun r hr => by
  have sm := row_sum h6 g hr
  exact ⟨by rw [(g.row r hr).1]; omega, sm.1, by omega⟩⟩
section
variable {k k0 n x y : Nat} {b : List (List (List Nat))} {l : Lumps} {c1 c2 c3 c4 c5 c6 c7 c8 c9 c10 c11 c12 c13 c14 c15 c16 c17 c18 c19 c20 c21 c22 : Option D}
theorem blockL_ok (g : GoodB n b) (h : l ∈ partsOf n) (hc : canB b l = true) (hs : (lateB b l).all small = true) : ∃ d20 d21 d22 x' y',
    evSs (callN tb (k + 6)) k0 blockL (envW c1 c2 c3 c4 c5 c6 (some (.p (bookP b))) c8 c9 (some (.p (rows l))) c11 c12 (some (.p (bookP (lateB b l)))) c14 c15 c16 c17 c18 c19 c20 c21 c22) (cupSt x y) =
    .ok (.next (envW c1 c2 c3 c4 c5 c6 (some (.p (bookP b))) c8 c9 (some (.p (rows l))) c11 c12 (some (.p (bookP (lateB b l)))) c14 c15 c16 c17 c18 c19 d20 d21 d22)) (cupSt x' y') := by
  have hp := parts_len h
  obtain ⟨V, x', y', hV, hN, e1⟩ := numC_ok (k := k + 4) (n := l.length) (a := x) (b := y) (by omega)
  have hN1 : ∀ q ∈ V, NumOk q := fun q hq => (hN q hq).1
  have hN2 : ∀ q ∈ V, FrOk q := fun q hq => (hN q hq).2
  obtain ⟨m0, hm0, hb0⟩ : ∃ m0 ∈ b, b[0]? = some m0 := by
    cases b with
    | nil => have := g.ne; simp at this
    | cons a b => exact ⟨a, List.mem_cons_self, rfl⟩
  have g0 := g.all m0 hm0
  have lb0 : lumpedB m0 l = true := List.all_eq_true.mp hc m0 hm0
  have hW : (spreadV n l V).length = n := by unfold spreadV; rw [List.length_map, List.length_range]
  have e2 := spread_ok (k := k) (x := x') (y := y') h hV hN2
  have e3 := set_ok (k := k + 4) (s := cupSt x' y') (spread_num h hV hN1) (by rw [hW]; exact g.le) (rows_ok g.le g0)
  rw [← behind_same g.le g0 h lb0 hV hN1] at e3
  have e4 := lumped_book_ok (k := k) (x := x') (y := y') g h hc hs
  have e5 := lumped_numbers_ok (k := k) (x := x') (y := y') h hW (spread_fr h hV hN2) (spread_const h)
  rw [spread_back h hV] at e5
  have gl := late_good g h hs
  have gl0 : GoodM l.length (lumpM m0 l) := gl.all _ (List.mem_map.mpr ⟨m0, hm0, rfl⟩)
  have e6 := set_ok (k := k + 4) (s := cupSt x' y') hN1 (by omega) (rows_ok (by omega) gl0)
  have e7 : P.tup ((lumpM m0 l).map (lowRow V)) = numsP ((lumpM m0 l).map (lowQ V)) := by
    show _ = P.tup _
    rw [List.map_map]; rfl
  rw [e7] at e6
  have e8 := spread_ok (k := k) (x := x') (y := y') (V := (lumpM m0 l).map (lowQ V)) h (by rw [List.length_map, gl0.len]) (late_fr g.le g0 h hV hN1)
  have hl0 : (lateB b l)[0]? = some (lumpM m0 l) := by rw [lateB, List.getElem?_map, hb0]; rfl
  exact ⟨_, _, _, x', y', st_asg (ev_call (ev_cons (ev_var rfl) (ev_cons (ev_un (ev_var (d := .p (rows l)) rfl) (by rw [u_len_t, List.length_map])) ev_nil)) e1) (by show 20 < 25; decide)
    (st_asg (ev_call (ev_cons (ev_var rfl) (ev_cons (ev_var rfl) ev_nil)) e2) (by show 21 < 25; decide)
    (st_asg (ev_call (ev_cons (ev_bin (ev_var rfl) ev_lit (at_map (c := rows) (i := 0) hb0)) (ev_cons (ev_var rfl) ev_nil)) e3) (by show 22 < 25; decide)
    (st_if0 (ev_or (b := false) (c := false) (ev_neS (ev_call (ev_cons (ev_var rfl) (ev_cons (ev_var rfl) ev_nil)) e4) (ev_var rfl) plain_book) fun _ => ev_or (b := false) (c := false) (ev_neS (ev_call (ev_cons (ev_var rfl) (ev_cons (ev_var rfl) ev_nil)) e5) (ev_var rfl) plain_nums) fun _ =>
      ev_neS (ev_call (ev_cons (ev_call (ev_cons (ev_bin (ev_var rfl) ev_lit (at_map (c := rows) (i := 0) hl0)) (ev_cons (ev_var rfl) ev_nil)) e6) (ev_cons (ev_var rfl) ev_nil)) e8) (ev_var rfl) plain_nums) st_nil)))⟩
end
end Ev.Pl

set_option Elab.async false
set_option linter.all false
set_option maxRecDepth 100000
set_option maxHeartbeats 1000000
set_option exponentiation.threshold 5000
namespace Ev.Pl
open PySem

/-! ### each way, one after another -/
abbrev t1S : S := (.ife (.not (.tru (.call 25 (.cons (.call 29 (.cons (.var 7) (.cons (.var 10) .nil))) (.cons (.tv (.cmp .isin (.var 10) (.var 9))) .nil))))) (.cons (.ret (.lit (.bl false))) .nil) .nil)
abbrev wordE : E := (.ife (.cmp .notin (.var 10) (.var 9)) (.lit (.str (PySem.Str.ofString "member"))) (.ife (.cmp .gt (.var 15) (.lit (.int 99))) (.lit (.str (PySem.Str.ofString "meeting"))) (.lit (.str (PySem.Str.ofString "")))))
abbrev t6S : S := (.ife (.cmp .ne (.word 0 (.str (PySem.Str.ofString "")) [(41, .txt (.str (PySem.Str.ofString "member"))), (40, .txt (.str (PySem.Str.ofString "meeting")))] (.call 30 (.cons (.var 7) (.cons (.var 10) .nil)))) (.var 16)) (.cons (.ret (.lit (.bl false))) .nil) .nil)
abbrev t7S : S := (.ife (.cmp .eq (.var 16) (.lit (.str (PySem.Str.ofString "")))) blockL .nil)
abbrev turnLp : Ss := .cons t1S (.cons (.asg 13 (.tup .nil)) (.cons (.fo (.name 14) (.ex (.var 7)) turnB2) (.cons (.asg 15 grE) (.cons (.asg 16 wordE) (.cons t6S (.cons t7S .nil))))))
theorem w_member : evC .eq (strP "member") (strP "") = some false := by kernel_rfl
theorem w_meeting : evC .eq (strP "meeting") (strP "") = some false := by kernel_rfl
theorem w_none : evC .eq (strP "") (strP "") = some true := by kernel_rfl
def wordQ (b : List (List (List Nat))) (l : Lumps) : String := if canB b l then (if (lateB b l).all small then "" else "meeting") else "member"
theorem n_member : evC .ne (strP "member") (strP "member") = some false := by kernel_rfl
theorem n_meeting : evC .ne (strP "meeting") (strP "meeting") = some false := by kernel_rfl
theorem n_none : evC .ne (strP "") (strP "") = some false := by kernel_rfl
theorem w_ne {b : List (List (List Nat))} {l : Lumps} : evC .ne (strP (wordQ b l)) (strP (wordQ b l)) = some false := by
  unfold wordQ
  cases canB b l with
  | false => exact n_member
  | true =>
    cases (lateB b l).all small with
    | false => exact n_meeting
    | true => exact n_none
section
variable {k k0 n x y : Nat} {b : List (List (List Nat))} {l : Lumps} {c1 c2 c3 c4 c5 c6 c7 c8 c9 c10 c11 c12 c13 c14 c15 c16 c17 c18 c19 c20 c21 c22 : Option D}
theorem wordE_ok {s : St} {f : List (List (List Nat))} {w : Nat} {cf : Nat → List D → St → R D} (h : l ∈ partsOf n) (hw : decide (99 < w) = !(lateB b l).all small) :
    evE cf wordE (envW c1 c2 c3 c4 c5 c6 c7 c8 (some (.p (.lst ((goods n b).map rows)))) (some (.p (rows l))) c11 c12 c13 c14 (some (.p (N w))) c16 c17 c18 c19 c20 c21 c22) s = .ok (.p (strP (wordQ b l))) s := by
  have e1 : evT cf (.cmp .notin (.var 10) (.var 9)) (envW c1 c2 c3 c4 c5 c6 c7 c8 (some (.p (.lst ((goods n b).map rows)))) (some (.p (rows l))) c11 c12 c13 c14 (some (.p (N w))) c16 c17 c18 c19 c20 c21 c22) s = .ok (!canB b l) s :=
    ev_cmp (x := rows l) (y := .lst ((goods n b).map rows)) (ev_var rfl) (ev_var rfl) (by rw [c_nin_l, in_rows, in_goods h])
  have e2 := ev_gtI (cf := cf) (r := (envW c1 c2 c3 c4 c5 c6 c7 c8 (some (.p (.lst ((goods n b).map rows)))) (some (.p (rows l))) c11 c12 c13 c14 (some (.p (N w))) c16 c17 c18 c19 c20 c21 c22)) (s := s) (e1 := .var 15) (e2 := .lit (.int 99)) (i := w) (j := 99) (ev_var rfl) ev_lit
  rw [hw] at e2
  unfold wordQ
  cases hc : canB b l with
  | false =>
    rw [hc] at e1
    exact ev_ifT e1 ev_lit
  | true =>
    rw [hc] at e1
    refine ev_ifF e1 ?_
    cases hs : (lateB b l).all small with
    | false =>
      rw [hs] at e2
      exact ev_ifT e2 ev_lit
    | true =>
      rw [hs] at e2
      exact ev_ifF e2 ev_lit
theorem askE_ok {r : En} (g : GoodB n b) (h : l ∈ partsOf n) (h7 : r[7]? = some (some (.p (bookP b)))) (h10 : r[10]? = some (some (.p (rows l)))) :
    evE (callN tb (k + 6)) (.word 0 (.str (PySem.Str.ofString "")) wordTab (.call 30 (.cons (.var 7) (.cons (.var 10) .nil)))) r (cupSt x y) = .ok (.p (strP (wordQ b l))) (cupSt x y) := by
  unfold wordQ
  cases hc : canB b l with
  | false => exact ev_wordX (ev_callX (ev_cons (ev_var h7) (ev_cons (ev_var h10) ev_nil)) (lumped_book_member g h hc)) rfl
  | true =>
    cases hs : (lateB b l).all small with
    | false => exact ev_wordX (ev_callX (ev_cons (ev_var h7) (ev_cons (ev_var h10) ev_nil)) (lumped_book_meeting g h hc hs)) rfl
    | true => exact ev_word (ev_call (ev_cons (ev_var h7) (ev_cons (ev_var h10) ev_nil)) (lumped_book_ok g h hc hs))
theorem turnLp_ok (g : GoodB n b) (h : l ∈ partsOf n) : ∃ d13 d14 d15 d16 d18 d19 d20 d21 d22 x' y',
    forBody (callN tb (k + 6)) k0 (.name 10) turnLp (rows l) (envW c1 c2 c3 c4 c5 c6 (some (.p (bookP b))) c8 (some (.p (.lst ((goods n b).map rows)))) c10 c11 c12 c13 c14 c15 c16 c17 c18 c19 c20 c21 c22) (cupSt x y) =
    .ok (.next (envW c1 c2 c3 c4 c5 c6 (some (.p (bookP b))) c8 (some (.p (.lst ((goods n b).map rows)))) (some (.p (rows l))) c11 c12 d13 d14 d15 d16 c17 d18 d19 d20 d21 d22)) (cupSt x' y') := by
  have hp := parts_len h
  have L := lumps_ok h
  obtain ⟨d14, d18, d19, eB⟩ := loopB (cf := callN tb (k + 6)) (k0 := k0) (s := cupSt x y) (c1 := c1) (c2 := c2) (c3 := c3) (c4 := c4) (c5 := c5) (c6 := c6) (c7 := some (.p (bookP b))) (c8 := c8) (c9 := some (.p (.lst ((goods n b).map rows)))) (c11 := c11) (c12 := c12) (c14 := c14) (c15 := c15) (c16 := c16) (c17 := c17) (c18 := c18) (c19 := c19) (c20 := c20) (c21 := c21) (c22 := c22) g L
  have eW := wordE_ok (cf := callN tb (k + 6)) (s := cupSt x y) (w := grW (lateB b l)) (b := b) (c1 := c1) (c2 := c2) (c3 := c3) (c4 := c4) (c5 := c5) (c6 := c6) (c7 := some (.p (bookP b))) (c8 := c8) (c11 := c11) (c12 := c12) (c13 := some (.p (bookP (lateB b l)))) (c14 := d14) (c16 := c16) (c17 := c17) (c18 := d18) (c19 := d19) (c20 := c20) (c21 := c21) (c22 := c22) (f := []) h grW_iff
  have eG := grE_ok (cf := callN tb (k + 6)) (s := cupSt x y) (f := lateB b l) (c := l.length) (c1 := c1) (c2 := c2) (c3 := c3) (c4 := c4) (c5 := c5) (c6 := c6) (c7 := some (.p (bookP b))) (c8 := c8) (c9 := some (.p (.lst ((goods n b).map rows)))) (c10 := some (.p (rows l))) (c11 := c11) (c12 := c12) (c14 := d14) (c15 := c15) (c16 := c16) (c17 := c17) (c18 := d18) (c19 := d19) (c20 := c20) (c21 := c21) (c22 := c22) hp.1 (by omega) (by rw [lateB, List.length_map]; exact g.ne) (by rw [lateB, List.length_map]; exact g.few) (late_pre g h)
  have eC := can_lump_ok (k := k) (x := x) (y := y) g h
  have e1 : evE (callN tb (k + 6)) (.tv (.cmp .isin (.var 10) (.var 9))) (envW c1 c2 c3 c4 c5 c6 (some (.p (bookP b))) c8 (some (.p (.lst ((goods n b).map rows)))) (some (.p (rows l))) c11 c12 c13 c14 c15 c16 c17 c18 c19 c20 c21 c22) (cupSt x y) = .ok (.p (.bl (canB b l))) (cupSt x y) :=
    ev_tv (ev_cmp (x := rows l) (y := .lst ((goods n b).map rows)) (ev_var rfl) (ev_var rfl) (by rw [c_in_l, in_rows, in_goods h]))
  have bodyTo : ∀ res, evSs (callN tb (k + 6)) k0 (.cons t7S .nil) (envW c1 c2 c3 c4 c5 c6 (some (.p (bookP b))) c8 (some (.p (.lst ((goods n b).map rows)))) (some (.p (rows l))) c11 c12 (some (.p (bookP (lateB b l)))) d14 (some (.p (N (grW (lateB b l))))) (some (.p (strP (wordQ b l)))) c17 d18 d19 c20 c21 c22) (cupSt x y) = res →
      forBody (callN tb (k + 6)) k0 (.name 10) turnLp (rows l) (envW c1 c2 c3 c4 c5 c6 (some (.p (bookP b))) c8 (some (.p (.lst ((goods n b).map rows)))) c10 c11 c12 c13 c14 c15 c16 c17 c18 c19 c20 c21 c22) (cupSt x y) = res := fun res hr =>
    forBody_at (r2 := envW c1 c2 c3 c4 c5 c6 (some (.p (bookP b))) c8 (some (.p (.lst ((goods n b).map rows)))) (some (.p (rows l))) c11 c12 c13 c14 c15 c16 c17 c18 c19 c20 c21 c22) rfl
      (st_if0 (ev_not (b := true) (ev_tru (ev_call (ev_cons (ev_call (ev_cons (ev_var rfl) (ev_cons (ev_var rfl) ev_nil)) eC) (ev_cons e1 ev_nil)) (same_ok (n := 0) (k := k + 5) .bl))))
      (st_asg (ev_pars (xs := []) ev_nil rfl) (by show 13 < 25; decide)
      (st_for (ev_ex (ev_var rfl) rfl) eB
      (st_asg eG (by show 15 < 25; decide)
      (st_asg eW (by show 16 < 25; decide)
      (st_if0 (ev_cmp (askE_ok g h rfl rfl) (ev_var rfl) w_ne) hr))))))
  cases hc : canB b l with
  | false =>
    refine ⟨_, d14, _, _, d18, d19, c20, c21, c22, x, y, bodyTo _ (st_if0 (ev_cmp (x := strP "member") (y := strP "") (ev_var (by unfold wordQ; rw [hc]; rfl)) ev_lit w_member) st_nil)⟩
  | true =>
    cases hs : (lateB b l).all small with
    | false =>
      refine ⟨_, d14, _, _, d18, d19, c20, c21, c22, x, y, bodyTo _ (st_if0 (ev_cmp (x := strP "meeting") (y := strP "") (ev_var (by unfold wordQ; rw [hc, hs]; rfl)) ev_lit w_meeting) st_nil)⟩
    | true =>
      obtain ⟨d20, d21, d22, x', y', eK⟩ := blockL_ok (k := k) (k0 := k0) (x := x) (y := y) (c1 := c1) (c2 := c2) (c3 := c3) (c4 := c4) (c5 := c5) (c6 := c6) (c8 := c8) (c9 := some (.p (.lst ((goods n b).map rows)))) (c11 := c11) (c12 := c12) (c14 := d14) (c15 := some (.p (N (grW (lateB b l))))) (c16 := some (.p (strP (wordQ b l)))) (c17 := c17) (c18 := d18) (c19 := d19) (c20 := c20) (c21 := c21) (c22 := c22) g h hc hs
      refine ⟨_, d14, _, _, d18, d19, d20, d21, d22, x', y', bodyTo _ (st_ifY (ev_cmp (x := strP "") (y := strP "") (ev_var (by unfold wordQ; rw [hc, hs]; rfl)) ev_lit w_none) eK st_nil)⟩
/-- all ways -/
theorem waysL (g : GoodB n b) {c13 c14 c15 c16 c18 c19 c20 c21 c22 : Option D} : ∃ d10 d13 d14 d15 d16 d18 d19 d20 d21 d22 x' y',
    forGo (forBody (callN tb (k + 6)) k0 (.name 10) turnLp) ((partsOf n).map rows) (envW c1 c2 c3 c4 c5 c6 (some (.p (bookP b))) c8 (some (.p (.lst ((goods n b).map rows)))) c10 c11 c12 c13 c14 c15 c16 c17 c18 c19 c20 c21 c22) (cupSt x y) =
    .ok (.next (envW c1 c2 c3 c4 c5 c6 (some (.p (bookP b))) c8 (some (.p (.lst ((goods n b).map rows)))) d10 c11 c12 d13 d14 d15 d16 c17 d18 d19 d20 d21 d22)) (cupSt x' y') := by
  obtain ⟨r', s', e, d10, d13, d14, d15, d16, d18, d19, d20, d21, d22, x', y', h1, h2⟩ := forGo_inv (f := forBody (callN tb (k + 6)) k0 (.name 10) turnLp) (c := rows) (l := partsOf n) (i := 0) (s := cupSt x y)
    (Inv := fun _ r s1 => ∃ d10 d13 d14 d15 d16 d18 d19 d20 d21 d22 x' y', r = envW c1 c2 c3 c4 c5 c6 (some (.p (bookP b))) c8 (some (.p (.lst ((goods n b).map rows)))) d10 c11 c12 d13 d14 d15 d16 c17 d18 d19 d20 d21 d22 ∧ s1 = cupSt x' y')
    (r := envW c1 c2 c3 c4 c5 c6 (some (.p (bookP b))) c8 (some (.p (.lst ((goods n b).map rows)))) c10 c11 c12 c13 c14 c15 c16 c17 c18 c19 c20 c21 c22) ⟨c10, c13, c14, c15, c16, c18, c19, c20, c21, c22, x, y, rfl, rfl⟩ fun j l r s1 hj ⟨a10, a13, a14, a15, a16, a18, a19, a20, a21, a22, p, q, hr, hs⟩ => by
      subst hr hs
      obtain ⟨d13, d14, d15, d16, d18, d19, d20, d21, d22, x', y', e⟩ := turnLp_ok (k := k) (k0 := k0) (x := p) (y := q) (c1 := c1) (c2 := c2) (c3 := c3) (c4 := c4) (c5 := c5) (c6 := c6) (c8 := c8) (c10 := a10) (c11 := c11) (c12 := c12) (c13 := a13) (c14 := a14) (c15 := a15) (c16 := a16) (c17 := c17) (c18 := a18) (c19 := a19) (c20 := a20) (c21 := a21) (c22 := a22) g (List.mem_of_getElem? hj)
      exact ⟨_, _, e, _, d13, d14, d15, d16, d18, d19, d20, d21, d22, x', y', rfl, rfl⟩
  subst h1 h2
  exact ⟨d10, d13, d14, d15, d16, d18, d19, d20, d21, d22, x', y', e⟩
end
end Ev.Pl

set_option Elab.async false
set_option linter.all false
set_option maxRecDepth 100000
set_option maxHeartbeats 1000000
set_option exponentiation.threshold 5000
namespace Ev.Pl
open PySem

/-! ### the law's own pairs of members -/
abbrev cellI : E := (.frz (.comp [24] (.name 24) (.rng1 (.un .len (.var 14))) (.if1 (.cmp .ne (.bin .mul (.bin .idx (.bin .idx (.var 14) (.var 12)) (.var 24)) (.un .sum (.bin .idx (.var 14) (.var 17)))) (.bin .mul (.bin .idx (.bin .idx (.var 14) (.var 17)) (.var 24)) (.un .sum (.bin .idx (.var 14) (.var 12)))))) (.var 24)))
abbrev rowsE : E := (.frz (.comp [14] (.name 14) (.ex (.var 7)) (.if1 (.cmp .ne cellI (.frz (.disp .nil)))) (.lit (.int 1))))
abbrev addE : E := (.frz (.cat (.var 11) (.ife (.cmp .eq (.var 18) (.frz (.disp .nil))) (.frz (.disp (.cons (.tup (.cons (.var 12) (.cons (.var 17) .nil))) .nil))) (.frz (.disp .nil)))))
abbrev turnP : Ss := .cons (.asg 18 rowsE) (.cons (.asg 11 addE) .nil)
abbrev turnP2 : Ss := .cons (.fo (.name 17) (.rng2 (.bin .add (.var 12) (.lit (.int 1))) (.un .len (.bin .idx (.var 7) (.lit (.int 0))))) turnP) .nil
def diffB (n : Nat) (m : List (List Nat)) (q : Nat × Nat) (by_ : Nat) : Bool := !decide (pick (rowAt m q.1) by_ * (rowAt m q.2).sum = pick (rowAt m q.2) by_ * (rowAt m q.1).sum)
def prI (n i : Nat) : List (Nat × Nat) := (List.range (n - (i + 1))).map fun j => (i, i + 1 + j)
section
variable {cf : Nat → List D → St → R D} {r : En} {s s1 s2 : St} {e1 e2 : E}
theorem ev_nilL : evE cf (.frz (.disp .nil)) r s = .ok (.p (.lst [])) s := ev_frz (ev_disp (xs := []) ev_nil rfl)
theorem ev_rng2N {n m : Nat} (h1 : evE cf e1 r s = .ok (.p (N n)) s1) (h2 : evE cf e2 r s1 = .ok (.p (N (n + m))) s2) (hm : m ≤ 1000) (hn : n ≤ 1000) : evI cf (.rng2 e1 e2) r s = .ok (((List.range m).map fun i => n + i).map N) s2 := by
  have ok : rngOk (n : Int) ((n + m : Nat) : Int) = true := by
    have h1000 : m ≤ big := le_big hm
    unfold rngOk
    simp only [Bool.and_eq_true, decide_eq_true_eq]
    refine ⟨⟨⟨⟨?_, ?_⟩, ?_⟩, ?_⟩, ?_⟩ <;> omega
  have q : rngP (n : Int) ((n + m : Nat) : Int) = ((List.range m).map fun i => n + i).map N := by
    unfold rngP
    rw [show (((n + m : Nat) : Int) - (n : Int)).toNat = m by omega, List.map_map]
    refine List.map_congr_left fun i _ => ?_
    show P.int _ = P.int _
    congr 1
  rw [evI, h1, R.bind_ok', h2, R.bind_ok']
  dsimp only
  rw [if_pos ok, q]
end
section
variable {k k0 n x y : Nat} {b : List (List (List Nat))} {m : List (List Nat)} {s : St} {cf : Nat → List D → St → R D} {c1 c2 c3 c4 c5 c6 c7 c8 c9 c10 c11 c12 c13 c14 c15 c16 c17 c18 c19 c20 c21 c22 : Option D}
theorem cellI_ok (g : GoodM n m) (h6 : n ≤ 6) {q : Nat × Nat} (h1 : q.1 < n) (h2 : q.2 < n) : evE cf cellI (envW c1 c2 c3 c4 c5 c6 c7 c8 c9 c10 c11 (some (.p (N q.1))) c13 (some (.p (rows m))) c15 c16 (some (.p (N q.2))) c18 c19 c20 c21 c22) s = .ok (.p (.lst (((List.range n).filter (diffB n m q)).map N))) s := by
  obtain ⟨a1, m1⟩ := row_at g h1
  obtain ⟨a2, m2⟩ := row_at g h2
  have r1 := g.row _ m1
  have r2 := g.row _ m2
  have s1 := row_sum h6 g m1
  have s2 := row_sum h6 g m2
  refine ev_frz (ev_comp (l := List.range n) (c := N) (p := diffB n m q) (f := N) (ev_rng (ev_un (ev_var (d := .p (rows m)) rfl) (by rw [u_len_t, List.length_map, g.len])) (by omega)) (fun j hj => ⟨_, rfl, ev_if1 (ev_neI (ev_bin (ev_bin (ev_bin (ev_var rfl) (ev_var rfl) (at_map (c := nats) a1)) (ev_var rfl) (at_map (c := N) (pick_at (by rw [r1.1]; exact List.mem_range.mp hj)))) (ev_un (ev_bin (ev_var rfl) (ev_var rfl) (at_map (c := nats) a2)) u_sum_t) (b_mul (.inr (by omega)))) (ev_bin (ev_bin (ev_bin (ev_var rfl) (ev_var rfl) (at_map (c := nats) a2)) (ev_var rfl) (at_map (c := N) (pick_at (by rw [r2.1]; exact List.mem_range.mp hj)))) (ev_un (ev_bin (ev_var rfl) (ev_var rfl) (at_map (c := nats) a1)) u_sum_t) (b_mul (.inr (by omega))))), fun _ => ev_var rfl⟩) (by rw [List.length_range]; omega))
def anyDiff (n : Nat) (m : List (List Nat)) (q : Nat × Nat) : Bool := !((List.range n).filter (diffB n m q)).isEmpty
theorem rowsE_ok (g : GoodB n b) {q : Nat × Nat} (h1 : q.1 < n) (h2 : q.2 < n) : evE cf rowsE (envW c1 c2 c3 c4 c5 c6 (some (.p (bookP b))) c8 c9 c10 c11 (some (.p (N q.1))) c13 c14 c15 c16 (some (.p (N q.2))) c18 c19 c20 c21 c22) s = .ok (.p (.lst ((b.filter fun m => anyDiff n m q).map fun _ => N 1))) s := by
  have := g.few
  exact ev_frz (ev_comp (l := b) (c := rows) (p := fun m => anyDiff n m q) (f := fun _ => N 1) (ev_ex (ev_var rfl) rfl) (fun m hm => ⟨_, rfl, ev_if1 (ev_cmp (cellI_ok (g.all m hm) g.le h1 h2) ev_nilL (by rw [c_ne, peq_N_nil]; rfl)), fun _ => ev_lit⟩) (by omega))
theorem none_diff {q : Nat × Nat} : ((b.filter fun m => anyDiff n m q).map fun _ => N 1).isEmpty = lawAl n b q := by
  rw [Bool.eq_iff_iff, List.isEmpty_iff, List.map_eq_nil_iff, List.filter_eq_nil_iff, lawAl, List.all_eq_true]
  refine forall_congr' fun m => forall_congr' fun _ => ?_
  rw [Bool.not_eq_true, anyDiff, Bool.not_eq_false', List.isEmpty_iff, List.filter_eq_nil_iff, List.all_eq_true]
  refine forall_congr' fun j => forall_congr' fun _ => ?_
  rw [Bool.not_eq_true, diffB, Bool.not_eq_false']
theorem turnP_ok (g : GoodB n b) {q : Nat × Nat} (h1 : q.1 < n) (h2 : q.2 < n) {acc : List (Nat × Nat)} (ha : acc.length ≤ 100) :
    ∃ d18, forBody cf k0 (.name 17) turnP (N q.2) (envW c1 c2 c3 c4 c5 c6 (some (.p (bookP b))) c8 c9 c10 (some (.p (.lst (acc.map prP)))) (some (.p (N q.1))) c13 c14 c15 c16 c17 c18 c19 c20 c21 c22) s =
      .ok (.next (envW c1 c2 c3 c4 c5 c6 (some (.p (bookP b))) c8 c9 c10 (some (.p (.lst ((acc ++ [q].filter (lawAl n b)).map prP)))) (some (.p (N q.1))) c13 c14 c15 c16 (some (.p (N q.2))) d18 c19 c20 c21 c22)) s := by
  have e2 : ∀ r : En, r[18]? = some (some (.p (.lst ((b.filter fun m => anyDiff n m q).map fun _ => N 1)))) → evT cf (.cmp .eq (.var 18) (.frz (.disp .nil))) r s = .ok (lawAl n b q) s := fun r hr => ev_cmp (ev_var hr) ev_nilL (by
    rw [c_eq, peq_lst_nil (P.plains_iff.mpr fun z h => by
      obtain ⟨_, _, rfl⟩ := List.mem_map.mp h
      exact plain_N 59 1), none_diff])
  refine ⟨_, forBody_at (r2 := envW c1 c2 c3 c4 c5 c6 (some (.p (bookP b))) c8 c9 c10 (some (.p (.lst (acc.map prP)))) (some (.p (N q.1))) c13 c14 c15 c16 (some (.p (N q.2))) c18 c19 c20 c21 c22) rfl (st_asg (rowsE_ok g h1 h2) (by show 18 < 25; decide) (st_asg (d := .p (.lst ((acc ++ [q].filter (lawAl n b)).map prP))) (ev_frz ?_) (by show 11 < 25; decide) st_nil))⟩
  rw [List.map_append]
  refine ev_cat (ev_var rfl) ?_ (by rw [List.length_map, List.length_map]; have : ([q].filter (lawAl n b)).length ≤ 1 := List.length_filter_le _ [q]; omega)
  cases hq : lawAl n b q with
  | false =>
    have z := e2 (r := envW c1 c2 c3 c4 c5 c6 (some (.p (bookP b))) c8 c9 c10 (some (.p (.lst (acc.map prP)))) (some (.p (N q.1))) c13 c14 c15 c16 (some (.p (N q.2))) (some (.p (.lst ((b.filter fun m => anyDiff n m q).map fun _ => N 1)))) c19 c20 c21 c22) rfl
    rw [hq] at z
    rw [List.filter_cons, hq]
    exact ev_ifF z ev_nilL
  | true =>
    have z := e2 (r := envW c1 c2 c3 c4 c5 c6 (some (.p (bookP b))) c8 c9 c10 (some (.p (.lst (acc.map prP)))) (some (.p (N q.1))) c13 c14 c15 c16 (some (.p (N q.2))) (some (.p (.lst ((b.filter fun m => anyDiff n m q).map fun _ => N 1)))) c19 c20 c21 c22) rfl
    rw [hq] at z
    rw [List.filter_cons, hq]
    exact ev_ifT z (ev_frz (ev_disp (xs := [prP q]) (ev_cons (ev_pars (xs := [N q.1, N q.2]) (ev_cons (ev_var rfl) (ev_cons (ev_var rfl) ev_nil)) rfl) ev_nil) rfl))
theorem pairL (g : GoodB n b) (h4 : n ≤ 4) {i : Nat} (hi : i < n) {acc : List (Nat × Nat)} (ha : acc.length ≤ 90) :
    ∃ d17 d18, forBody cf k0 (.name 12) turnP2 (N i) (envW c1 c2 c3 c4 c5 c6 (some (.p (bookP b))) c8 c9 c10 (some (.p (.lst (acc.map prP)))) c12 c13 c14 c15 c16 c17 c18 c19 c20 c21 c22) s =
      .ok (.next (envW c1 c2 c3 c4 c5 c6 (some (.p (bookP b))) c8 c9 c10 (some (.p (.lst ((acc ++ (prI n i).filter (lawAl n b)).map prP)))) (some (.p (N i))) c13 c14 c15 c16 d17 d18 c19 c20 c21 c22)) s := by
  have hlen : (prI n i).length ≤ 4 := by unfold prI; rw [List.length_map, List.length_range]; omega
  have hq : ∀ q ∈ prI n i, q.1 = i ∧ q.2 < n := fun q h => by
    obtain ⟨j, hj, rfl⟩ := List.mem_map.mp h
    have := List.mem_range.mp hj
    exact ⟨rfl, by show i + 1 + j < n; omega⟩
  obtain ⟨r', s', e, d17, d18, h1, h2⟩ := forGo_inv (f := forBody cf k0 (.name 17) turnP) (c := fun q : Nat × Nat => N q.2) (l := prI n i) (i := 0) (s := s)
    (Inv := fun j r s1 => ∃ d17 d18, r = envW c1 c2 c3 c4 c5 c6 (some (.p (bookP b))) c8 c9 c10 (some (.p (.lst ((acc ++ ((prI n i).take j).filter (lawAl n b)).map prP)))) (some (.p (N i))) c13 c14 c15 c16 d17 d18 c19 c20 c21 c22 ∧ s1 = s)
    (r := envW c1 c2 c3 c4 c5 c6 (some (.p (bookP b))) c8 c9 c10 (some (.p (.lst (acc.map prP)))) (some (.p (N i))) c13 c14 c15 c16 c17 c18 c19 c20 c21 c22) ⟨c17, c18, by rw [List.take_zero, List.filter_nil, List.append_nil], rfl⟩ fun j q r s1 hj ⟨a17, a18, hr, hs⟩ => by
      subst hr hs
      obtain ⟨q1, q2⟩ := hq q (List.mem_of_getElem? hj)
      have hl : (acc ++ ((prI n i).take (0 + j)).filter (lawAl n b)).length ≤ 100 := by
        rw [List.length_append]
        have z1 := List.length_filter_le (lawAl n b) ((prI n i).take (0 + j))
        have z2 : ((prI n i).take (0 + j)).length ≤ (prI n i).length := by rw [List.length_take]; omega
        omega
      obtain ⟨d18, e⟩ := turnP_ok (cf := cf) (k0 := k0) (s := s1) (q := q) (c1 := c1) (c2 := c2) (c3 := c3) (c4 := c4) (c5 := c5) (c6 := c6) (c8 := c8) (c9 := c9) (c10 := c10) (c13 := c13) (c14 := c14) (c15 := c15) (c16 := c16) (c17 := a17) (c18 := a18) (c19 := c19) (c20 := c20) (c21 := c21) (c22 := c22) g (by rw [q1]; exact hi) q2 hl
      rw [q1] at e
      refine ⟨_, s1, e, some (.p (N q.2)), d18, ?_, rfl⟩
      rw [show (prI n i).take (0 + j + 1) = (prI n i).take (0 + j) ++ [q] by rw [List.take_add_one, Nat.zero_add, hj]; rfl, List.filter_append, List.append_assoc]
  subst h1 h2
  rw [Nat.zero_add, List.take_length] at e
  refine ⟨d17, d18, forBody_at (r2 := envW c1 c2 c3 c4 c5 c6 (some (.p (bookP b))) c8 c9 c10 (some (.p (.lst (acc.map prP)))) (some (.p (N i))) c13 c14 c15 c16 c17 c18 c19 c20 c21 c22) rfl (st_for (ev_rng2N (n := i + 1) (m := n - (i + 1)) (ev_bin (ev_var rfl) ev_lit b_add) (by rw [show i + 1 + (n - (i + 1)) = n by omega]; exact many_ok g rfl) (by omega) (by omega)) ?_ st_nil)⟩
  rw [show ((List.range (n - (i + 1))).map fun j => i + 1 + j).map N = (prI n i).map fun q => N q.2 by unfold prI; rw [List.map_map, List.map_map]; rfl]
  exact e
theorem pairs_all (g : GoodB n b) (h4 : n ≤ 4) : ∃ d12 d17 d18, forGo (forBody cf k0 (.name 12) turnP2) ((List.range n).map N) (envW c1 c2 c3 c4 c5 c6 (some (.p (bookP b))) c8 c9 c10 (some (.p (.lst []))) c12 c13 c14 c15 c16 c17 c18 c19 c20 c21 c22) s =
    .ok (.next (envW c1 c2 c3 c4 c5 c6 (some (.p (bookP b))) c8 c9 c10 (some (.p (.lst (((prs n).filter fun q => aliB b q).map prP)))) d12 c13 c14 c15 c16 d17 d18 c19 c20 c21 c22)) s := by
  obtain ⟨r', s', e, acc, d12, d17, d18, ha, hl, h1, h2⟩ := forGo_inv (f := forBody cf k0 (.name 12) turnP2) (c := N) (l := List.range n) (i := 0) (s := s)
    (Inv := fun j r s1 => ∃ acc d12 d17 d18, acc = ((List.range j).flatMap (prI n)).filter (lawAl n b) ∧ acc.length ≤ 4 * j ∧ r = envW c1 c2 c3 c4 c5 c6 (some (.p (bookP b))) c8 c9 c10 (some (.p (.lst (acc.map prP)))) d12 c13 c14 c15 c16 d17 d18 c19 c20 c21 c22 ∧ s1 = s)
    (r := envW c1 c2 c3 c4 c5 c6 (some (.p (bookP b))) c8 c9 c10 (some (.p (.lst []))) c12 c13 c14 c15 c16 c17 c18 c19 c20 c21 c22) ⟨[], c12, c17, c18, rfl, by simp, rfl, rfl⟩ fun j i r s1 hj ⟨acc, a12, a17, a18, ha, hl, hr, hs⟩ => by
      subst hr hs
      have hq := List.getElem?_eq_some_iff.mp hj
      obtain ⟨hq1, hq2⟩ := hq
      rw [List.length_range] at hq1
      rw [List.getElem_range] at hq2
      subst hq2
      rw [Nat.zero_add] at ha hl ⊢
      obtain ⟨d17, d18, e⟩ := pairL (cf := cf) (k0 := k0) (s := s1) (c1 := c1) (c2 := c2) (c3 := c3) (c4 := c4) (c5 := c5) (c6 := c6) (c8 := c8) (c9 := c9) (c10 := c10) (c12 := a12) (c13 := c13) (c14 := c14) (c15 := c15) (c16 := c16) (c17 := a17) (c18 := a18) (c19 := c19) (c20 := c20) (c21 := c21) (c22 := c22) g h4 hq1 (acc := acc) (by omega)
      refine ⟨_, s1, e, _, _, d17, d18, ?_, ?_, rfl, rfl⟩
      · rw [ha, List.range_succ, List.flatMap_append, List.filter_append, List.flatMap_singleton]
      · rw [List.length_append]
        have z1 := List.length_filter_le (lawAl n b) (prI n j)
        have z2 : (prI n j).length ≤ 4 := by unfold prI; rw [List.length_map, List.length_range]; omega
        omega
  subst h1 h2
  rw [Nat.zero_add, List.length_range] at ha
  have hp := prs_lt g.pos h4
  have eq : acc = (prs n).filter fun q => aliB b q := by
    rw [ha]
    rw [show (List.range n).flatMap (prI n) = prs n from (prs_law g.pos h4).symm]
    exact List.filter_congr fun q hq => lawAl_eq g (hp.1 q hq).1 (hp.1 q hq).2
  rw [eq] at e
  exact ⟨d12, d17, d18, e⟩
end
end Ev.Pl

set_option Elab.async false
set_option linter.all false
set_option maxRecDepth 100000
set_option maxHeartbeats 1000000
set_option exponentiation.threshold 5000
namespace Ev.Pl
open PySem

/-! ### one book, looked at by the law -/
abbrev o0 : S := .asg 8 (.call 36 (.cons (.un .len (.bin .idx (.var 7) (.lit (.int 0)))) .nil))
abbrev o1 : S := .asg 9 (.frz (.comp [10] (.name 10) (.ex (.var 8)) (.if1 (.tru (.call 37 (.cons (.var 7) (.cons (.var 10) .nil))))) (.var 10)))
abbrev o2 : S := .ife (.not (.tru (.call 25 (.cons (.call 34 (.cons (.var 7) .nil)) (.cons (.un .tuple (.var 9)) .nil))))) (.cons (.ret (.lit (.bl false))) .nil) .nil
abbrev o3 : S := .fo (.name 10) (.ex (.frz (.slc (.var 8) .none (.some (.lit (.int 20)))))) turnLp
abbrev o4 : S := .asg 11 (.frz (.disp .nil))
abbrev o5 : S := .fo (.name 12) (.rng1 (.un .len (.bin .idx (.var 7) (.lit (.int 0))))) turnP2
abbrev o6 : S := .ife (.not (.tru (.call 25 (.cons (.call 35 (.cons (.var 7) .nil)) (.cons (.un .tuple (.var 11)) .nil))))) (.cons (.ret (.lit (.bl false))) .nil) .nil
abbrev turnBk : Ss := .cons o0 (.cons o1 (.cons o2 (.cons o3 (.cons o4 (.cons o5 (.cons o6 .nil))))))
theorem ev_slc20 {cf : Nat → List D → St → R D} {r : En} {s s1 : St} {e : E} {l : List P} (h : evE cf e r s = .ok (.p (.lst l)) s1) (hl : l.length ≤ 20) : evL cf (.slc e .none (.some (.lit (.int 20)))) r s = .ok l s1 := by
  rw [evL, h, R.bind_ok', evO, R.bind_ok', evO, ev_lit, R.bind_ok']
  dsimp only
  rw [R.bind_ok', show view s1 (.p (.lst l)) = some (.lst l) from rfl]
  dsimp only
  have : cutP l none (some 20) = l := by
    have e : sIx l.length l.length (some 20) = l.length := by
      show (if (20 : Int) < 0 then ((20 : Int) + l.length).toNat else min (20 : Int).toNat l.length) = l.length
      rw [if_neg (by decide)]
      exact Nat.min_eq_right hl
    unfold cutP
    rw [e]
    show (l.drop 0).take (l.length - 0) = l
    rw [List.drop_zero, Nat.sub_zero, List.take_length]
  rw [this]
theorem sm_goods {n : Nat} {b : List (List (List Nat))} (h1 : 1 ≤ n) (h4 : n ≤ 4) : Sm 3 (.tup ((goods n b).map rows)) := .tup (fun x hx => by
  obtain ⟨l, hl, rfl⟩ := List.mem_map.mp hx
  have hl := (List.mem_filter.mp hl).1
  have hp := parts_len hl
  have L := lumps_ok hl
  refine .tup (fun y hy => ?_) (by rw [List.length_map]; omega)
  obtain ⟨lump, hu, rfl⟩ := List.mem_map.mp hy
  exact sm_nats (by have := L.small lump hu; omega)) (by
    rw [List.length_map]
    exact Nat.le_trans (List.length_filter_le _ _) (Nat.le_trans (parts_few h1 h4) (by omega)))
theorem sm_pairs {l : List (Nat × Nat)} (h : l.length ≤ 1000) : Sm 2 (.tup (l.map prP)) := .tup (fun x hx => by
  obtain ⟨q, _, rfl⟩ := List.mem_map.mp hx
  exact .tup (fun y hy => by
    rcases List.mem_cons.mp hy with rfl | hy
    · exact sm_N
    · rw [List.mem_singleton.mp hy]; exact sm_N) (by simp)) (by rw [List.length_map]; exact h)
section
variable {k k0 n x y : Nat} {b : List (List (List Nat))} {c1 c2 c3 c4 c5 c6 c7 c8 c9 c10 c11 c12 c13 c14 c15 c16 c17 c18 c19 c20 c21 c22 : Option D}
theorem turnBk_ok (g : GoodB n b) (h4 : n ≤ 4) : ∃ d8 d9 d10 d11 d12 d13 d14 d15 d16 d17 d18 d19 d20 d21 d22 x' y',
    forBody (callN tb (k + 6)) k0 (.name 7) turnBk (bookP b) (envW c1 c2 c3 c4 c5 c6 c7 c8 c9 c10 c11 c12 c13 c14 c15 c16 c17 c18 c19 c20 c21 c22) (cupSt x y) =
    .ok (.next (envW c1 c2 c3 c4 c5 c6 (some (.p (bookP b))) d8 d9 d10 d11 d12 d13 d14 d15 d16 d17 d18 d19 d20 d21 d22)) (cupSt x' y') := by
  have hf := parts_few g.pos h4
  have hg : (goods n b).length ≤ 15 := Nat.le_trans (List.length_filter_le _ _) hf
  have hp := prs_lt g.pos h4
  have hpl : ((prs n).filter fun q => aliB b q).length ≤ 6 := Nat.le_trans (List.length_filter_le _ _) hp.2
  have hc : ∀ l ∈ partsOf n, ∀ s, callN tb (k + 6) 37 [.p (bookP b), .p (rows l)] s = .ok (.p (.bl (canB b l))) s := fun l hl s => law_can_ok (k := k + 4) g (lumps_ok hl)
  have e0 := law_parts_ok (k := k + 5) (n := n) (x := x) (y := y) g.pos h4
  have e2 := lumps_of_ok (k := k) (x := x) (y := y) g h4
  obtain ⟨d10, d13, d14, d15, d16, d18, d19, d20, d21, d22, x', y', e3⟩ := waysL (k := k) (k0 := k0) (x := x) (y := y) (c1 := c1) (c2 := c2) (c3 := c3) (c4 := c4) (c5 := c5) (c6 := c6) (c8 := some (.p (.lst ((partsOf n).map rows)))) (c10 := c10) (c11 := c11) (c12 := c12) (c13 := c13) (c14 := c14) (c15 := c15) (c16 := c16) (c17 := c17) (c18 := c18) (c19 := c19) (c20 := c20) (c21 := c21) (c22 := c22) g
  obtain ⟨d12, d17, d18', e5⟩ := pairs_all (cf := callN tb (k + 6)) (k0 := k0) (s := cupSt x' y') (c1 := c1) (c2 := c2) (c3 := c3) (c4 := c4) (c5 := c5) (c6 := c6) (c8 := some (.p (.lst ((partsOf n).map rows)))) (c9 := some (.p (.lst ((goods n b).map rows)))) (c10 := d10) (c12 := c12) (c13 := d13) (c14 := d14) (c15 := d15) (c16 := d16) (c17 := c17) (c18 := d18) (c19 := d19) (c20 := d20) (c21 := d21) (c22 := d22) g h4
  have e6 := alike_ok (k := k + 1) (s := cupSt x' y') g h4
  refine ⟨_, _, d10, _, d12, d13, d14, d15, d16, d17, d18', d19, d20, d21, d22, x', y', forBody_at (r2 := envW c1 c2 c3 c4 c5 c6 (some (.p (bookP b))) c8 c9 c10 c11 c12 c13 c14 c15 c16 c17 c18 c19 c20 c21 c22) rfl
    (st_asg (ev_call (ev_cons (many_ok g rfl) ev_nil) e0) (by show 8 < 25; decide)
    (st_asg (d := .p (.lst ((goods n b).map rows))) (ev_frz (ev_comp (l := partsOf n) (c := rows) (p := fun l => canB b l) (f := rows) (ev_ex (ev_var rfl) rfl) (fun l hl => ⟨_, rfl, ev_if1 (ev_tru (ev_call (ev_cons (ev_var rfl) (ev_cons (ev_var rfl) ev_nil)) (hc l hl _))), fun _ => ev_var rfl⟩) (by omega))) (by show 9 < 25; decide)
    (st_if0 (ev_not (b := true) (ev_tru (ev_call (ev_cons (ev_call (ev_cons (ev_var rfl) ev_nil) e2) (ev_cons (ev_un (x := .lst ((goods n b).map rows)) (ev_var rfl) u_tuple_l) ev_nil)) (same_ok (n := 3) (k := k + 2) (sm_goods g.pos h4)))))
    (st_for (xs := (partsOf n).map rows) (ev_ex (x := .lst ((partsOf n).map rows)) (ev_frz (ev_slc20 (ev_var rfl) (by rw [List.length_map]; omega))) rfl) e3
    (st_asg ev_nilL (by show 11 < 25; decide)
    (st_for (ev_rng (many_ok g rfl) (by omega)) e5
    (st_if0 (ev_not (b := true) (ev_tru (ev_call (ev_cons (ev_call (ev_cons (ev_var rfl) ev_nil) e6) (ev_cons (ev_un (x := .lst (((prs n).filter fun q => aliB b q).map prP)) (ev_var rfl) u_tuple_l) ev_nil)) (same_ok (n := 2) (k := k + 3) (sm_pairs (by omega)))))) st_nil)))))))⟩
end
/-! ### the twin: one more member, as one of the others -/
def twinM (i : Nat) (m : List (List Nat)) : List (List Nat) := m.map (fun r => r ++ [0]) ++ [rowAt m i ++ [0]]
theorem twin_good {n i : Nat} {m : List (List Nat)} (g : GoodM n m) (hi : i < n) : GoodM (n + 1) (twinM i m) := by
  have one : ∀ r ∈ m, (r ++ [0]).length = n + 1 ∧ (∀ v ∈ r ++ [0], v ≤ 99) ∧ 0 < (r ++ [0]).sum := fun r hr => by
    obtain ⟨h1, h2, h3⟩ := g.row r hr
    refine ⟨by rw [List.length_append, h1]; rfl, fun v hv => ?_, by rw [List.sum_append]; exact Nat.lt_of_lt_of_le h3 (Nat.le_add_right _ _)⟩
    rcases List.mem_append.mp hv with hv | hv
    · exact h2 v hv
    · rw [List.mem_singleton.mp hv]; omega
  refine ⟨by rw [twinM, List.length_append, List.length_map, g.len]; rfl, fun r hr => ?_⟩
  rcases List.mem_append.mp hr with hr | hr
  · obtain ⟨z, hz, rfl⟩ := List.mem_map.mp hr
    exact one z hz
  · rw [List.mem_singleton.mp hr]
    exact one _ (row_at g hi).2
abbrev twinE : E := (.un .tuple (.frz (.comp [14] (.name 14) (.ex (.var 4)) .yes (.bin .add (.un .tuple (.frz (.comp [23] (.name 23) (.ex (.var 14)) .yes (.bin .add (.var 23) (.tup (.cons (.lit (.int 0)) .nil)))))) (.tup (.cons (.bin .add (.bin .idx (.var 14) (.var 5)) (.tup (.cons (.lit (.int 0)) .nil))) .nil))))))
section
variable {n x y : Nat} {b : List (List (List Nat))} {s : St} {cf : Nat → List D → St → R D} {c1 c2 c3 c4 c5 c6 c7 c8 c9 c10 c11 c12 c13 c14 c15 c16 c17 c18 c19 c20 c21 c22 : Option D}
theorem nats_snoc (r : List Nat) (a : Nat) : nats (r ++ [a]) = .tup (r.map N ++ [N a]) := by
  show P.tup (List.map N (r ++ [a])) = _; rw [List.map_append]; rfl
theorem zero_ok {r : En} {e : E} {row : List Nat} (hl : row.length ≤ 6) (h : evE cf e r s = .ok (.p (nats row)) s) : evE cf (.bin .add e (.tup (.cons (.lit (.int 0)) .nil))) r s = .ok (.p (nats (row ++ [0]))) s := by
  rw [nats_snoc]
  exact ev_bin h (ev_pars (xs := [N 0]) (ev_cons ev_lit ev_nil) rfl) (b_add_t (le_big (by rw [List.length_map]; show row.length + 1 ≤ 1000; omega)))
theorem twinE_ok (g : GoodB n b) {i : Nat} (hi : i < n) : evE cf twinE (envW c1 c2 c3 (some (.p (bookP b))) (some (.p (N i))) c6 c7 c8 c9 c10 c11 c12 c13 c14 c15 c16 c17 c18 c19 c20 c21 c22) s = .ok (.p (bookP (b.map (twinM i)))) s := by
  have hb := g.few
  have hn := g.le
  refine ev_un (x := .lst ((b.map (twinM i)).map rows)) (ev_frz ?_) u_tuple_l
  rw [List.map_map]
  refine ev_compA (l := b) (c := rows) (f := rows ∘ twinM i) (ev_ex (ev_var rfl) rfl) (fun m hm => ⟨_, rfl, ?_⟩) (by omega)
  have gm := g.all m hm
  have hl := gm.len
  show evE _ _ _ _ = R.ok (D.p (rows (twinM i m))) _
  rw [twinM, rows_snoc]
  refine ev_bin (x := .tup ((m.map fun r => r ++ [0]).map nats)) (y := .tup [nats (rowAt m i ++ [0])]) (ev_un (x := .lst ((m.map fun r => r ++ [0]).map nats)) (ev_frz ?_) u_tuple_l) (ev_pars (xs := [nats (rowAt m i ++ [0])]) (ev_cons (zero_ok (by rw [(gm.row _ (row_at gm hi).2).1]; exact hn) (ev_bin (ev_var rfl) (ev_var rfl) (at_map (c := nats) (row_at gm hi).1))) ev_nil) rfl) (b_add_t (le_big (by rw [List.length_map, List.length_map]; show m.length + 1 ≤ 1000; omega)))
  rw [List.map_map]
  exact ev_compA (l := m) (c := nats) (f := nats ∘ fun r => r ++ [0]) (ev_ex (ev_var rfl) rfl) (fun r hr => ⟨_, rfl, zero_ok (by rw [(gm.row r hr).1]; exact hn) (ev_var rfl)⟩) (by omega)
end
theorem law_right_ok {k n q w x y : Nat} (h1 : 1 ≤ n) (h4 : n ≤ 4) (hq : 0 < q) (hq2 : q ≤ 5) (hw : 0 < w) (hw2 : w ≤ 98) : ∃ x' y', callN tb (k + 7) 38 [.obj 0, .p (N n), .p (N q), .p (N w)] (cupSt x y) = .ok (.p (.bl true)) (cupSt x' y') := by
  obtain ⟨B, a1, b1, gb, e1⟩ := book_ok (k := k + 2) (a := x) (b := y) h1 (by omega : n ≤ 6) hq hq2 hw hw2
  obtain ⟨i, a2, b2, hi, e2⟩ := roll_ok (k := k + 5) (m := n) (a := a1) (b := b1) h1 (by omega)
  obtain ⟨T, gT, e3⟩ : ∃ T, (∃ m, m ≤ 4 ∧ GoodB m T) ∧ evE (callN tb (k + 6)) (.ife (.cmp .lt (.var 1) (.lit (.int 4))) twinE (.var 4)) (envW (some (.p (N n))) (some (.p (N q))) (some (.p (N w))) (some (.p (bookP B))) (some (.p (N i))) none none none none none none none none none none none none none none none none none) (cupSt a2 b2) = .ok (.p (bookP T)) (cupSt a2 b2) := by
    have z := ev_ltI (cf := callN tb (k + 6)) (r := envW (some (.p (N n))) (some (.p (N q))) (some (.p (N w))) (some (.p (bookP B))) (some (.p (N i))) none none none none none none none none none none none none none none none none none) (s := cupSt a2 b2) (e1 := .var 1) (e2 := .lit (.int 4)) (i := n) (j := 4) (ev_var rfl) ev_lit
    by_cases h : n < 4
    · rw [decide_eq_true h] at z
      refine ⟨B.map (twinM i), ⟨n + 1, by omega, by omega, by omega, by rw [List.length_map]; exact gb.ne, by rw [List.length_map]; exact gb.few, fun m hm => ?_⟩, ev_ifT z (twinE_ok gb hi)⟩
      obtain ⟨m0, h0, rfl⟩ := List.mem_map.mp hm
      exact twin_good (gb.all m0 h0) hi
    · rw [decide_eq_false h] at z
      exact ⟨B, ⟨n, h4, gb⟩, ev_ifF z (ev_var rfl)⟩
  have both : ∀ b ∈ [B, T], ∃ m, m ≤ 4 ∧ GoodB m b := fun b hb => by
    rcases List.mem_cons.mp hb with rfl | hb
    · exact ⟨n, h4, gb⟩
    · rw [List.mem_singleton.mp hb]; exact gT
  obtain ⟨r', s', e, d7, d8, d9, d10, d11, d12, d13, d14, d15, d16, d17, d18, d19, d20, d21, d22, x', y', z1, z2⟩ := forGo_inv (f := forBody (callN tb (k + 6)) (cupSt x y).length (.name 7) turnBk) (c := bookP) (l := [B, T]) (i := 0) (s := cupSt a2 b2)
    (Inv := fun _ r s1 => ∃ d7 d8 d9 d10 d11 d12 d13 d14 d15 d16 d17 d18 d19 d20 d21 d22 x' y', r = envW (some (.p (N n))) (some (.p (N q))) (some (.p (N w))) (some (.p (bookP B))) (some (.p (N i))) (some (.p (bookP T))) d7 d8 d9 d10 d11 d12 d13 d14 d15 d16 d17 d18 d19 d20 d21 d22 ∧ s1 = cupSt x' y')
    (r := envW (some (.p (N n))) (some (.p (N q))) (some (.p (N w))) (some (.p (bookP B))) (some (.p (N i))) (some (.p (bookP T))) none none none none none none none none none none none none none none none none) ⟨none, none, none, none, none, none, none, none, none, none, none, none, none, none, none, none, a2, b2, rfl, rfl⟩ fun j b r s1 hj ⟨a7, a8, a9, a10, a11, a12, a13, a14, a15, a16, a17, a18, a19, a20, a21, a22, p, o, hr, hs⟩ => by
      subst hr hs
      obtain ⟨m, hm, gm⟩ := both b (List.mem_of_getElem? hj)
      obtain ⟨d8, d9, d10, d11, d12, d13, d14, d15, d16, d17, d18, d19, d20, d21, d22, x', y', e⟩ := turnBk_ok (k := k) (k0 := (cupSt x y).length) (x := p) (y := o) (c1 := some (.p (N n))) (c2 := some (.p (N q))) (c3 := some (.p (N w))) (c4 := some (.p (bookP B))) (c5 := some (.p (N i))) (c6 := some (.p (bookP T))) (c7 := a7) (c8 := a8) (c9 := a9) (c10 := a10) (c11 := a11) (c12 := a12) (c13 := a13) (c14 := a14) (c15 := a15) (c16 := a16) (c17 := a17) (c18 := a18) (c19 := a19) (c20 := a20) (c21 := a21) (c22 := a22) gm hm
      exact ⟨_, _, e, _, d8, d9, d10, d11, d12, d13, d14, d15, d16, d17, d18, d19, d20, d21, d22, x', y', rfl, rfl⟩
  subst z1 z2
  refine ⟨x', y', ?_⟩
  have z : evSs (callN tb (k + 6)) (cupSt x y).length t_law_right.body (enter t_law_right [.obj 0, .p (N n), .p (N q), .p (N w)]) (cupSt x y) = .ok (.ret (.p (.bl true))) (cupSt x' y') :=
    st_asg (ev_call (ev_cons (ev_var rfl) (ev_cons (ev_var rfl) (ev_cons (ev_var rfl) (ev_cons (ev_var rfl) ev_nil)))) e1) (by show 4 < 25; decide)
    (st_asg (ev_call (ev_cons (ev_var rfl) (ev_cons (ev_var rfl) ev_nil)) e2) (by show 5 < 25; decide)
    (st_asg e3 (by show 6 < 25; decide)
    (st_for (xs := [bookP B, bookP T]) (ev_ex (ev_pars (xs := [bookP B, bookP T]) (ev_cons (ev_var rfl) (ev_cons (ev_var rfl) ev_nil)) rfl) rfl) e (st_ret ev_lit))))
  rw [callN_at (f := t_law_right) rfl rfl, z]; rfl
end Ev.Pl

set_option Elab.async false
set_option linter.all false
set_option maxRecDepth 100000
set_option maxHeartbeats 1000000
set_option exponentiation.threshold 5000
namespace Ev.Pl
open PySem

def lawS0 : S := (.asg 1 (.call 22 (.cons (.var 0) .nil)))
def lawS1 : S := (.par [3, 4] (.cons (.tup (.cons (.tup (.cons (.tup (.cons (.lit (.int 1)) (.cons (.lit (.int 1)) (.cons (.lit (.int 2)) .nil)))) (.cons (.tup (.cons (.lit (.int 2)) (.cons (.lit (.int 0)) (.cons (.lit (.int 2)) .nil)))) (.cons (.tup (.cons (.lit (.int 0)) (.cons (.lit (.int 0)) (.cons (.lit (.int 1)) .nil)))) .nil)))) .nil)) (.cons (.tup (.cons (.tup (.cons (.lit (.int 0)) (.cons (.lit (.int 1)) .nil))) (.cons (.tup (.cons (.lit (.int 2)) .nil)) .nil))) .nil)))
def lawS2 : S := (.asg 2 (.tup (.cons (.call 34 (.cons (.var 3) .nil)) (.cons (.call 30 (.cons (.var 3) (.cons (.var 4) .nil))) (.cons (.call 29 (.cons (.var 3) (.cons (.tup (.cons (.tup (.cons (.lit (.int 0)) .nil)) (.cons (.tup (.cons (.lit (.int 1)) (.cons (.lit (.int 2)) .nil))) .nil))) .nil))) (.cons (.call 35 (.cons (.tup (.cons (.tup (.cons (.tup (.cons (.lit (.int 1)) (.cons (.lit (.int 1)) .nil))) (.cons (.tup (.cons (.lit (.int 2)) (.cons (.lit (.int 2)) .nil))) .nil))) .nil)) .nil)) (.cons (.call 35 (.cons (.var 3) .nil)) .nil)))))))
def lawS3 : S := (.ife (.not (.tru (.call 25 (.cons (.var 2) (.cons (.tup (.cons (.tup (.cons (.tup (.cons (.tup (.cons (.lit (.int 0)) .nil)) (.cons (.tup (.cons (.lit (.int 1)) .nil)) (.cons (.tup (.cons (.lit (.int 2)) .nil)) .nil)))) (.cons (.tup (.cons (.tup (.cons (.lit (.int 0)) (.cons (.lit (.int 1)) .nil))) (.cons (.tup (.cons (.lit (.int 2)) .nil)) .nil))) (.cons (.tup (.cons (.tup (.cons (.lit (.int 0)) (.cons (.lit (.int 1)) (.cons (.lit (.int 2)) .nil)))) .nil)) .nil)))) (.cons (.tup (.cons (.tup (.cons (.tup (.cons (.lit (.int 2)) (.cons (.lit (.int 2)) .nil))) (.cons (.tup (.cons (.lit (.int 0)) (.cons (.lit (.int 1)) .nil))) .nil))) .nil)) (.cons (.lit (.bl false)) (.cons (.tup (.cons (.tup (.cons (.lit (.int 0)) (.cons (.lit (.int 1)) .nil))) .nil)) (.cons (.tup .nil) .nil)))))) .nil))))) (.cons (.ret (.lit (.bl false))) .nil) .nil)
def lawS4 : S := (.asg 2 (.tup (.cons (.call 31 (.cons (.tup (.cons (.tup (.cons (.lit (.int 1)) (.cons (.lit (.int 2)) .nil))) (.cons (.tup (.cons (.lit (.int 1)) (.cons (.lit (.int 2)) .nil))) (.cons (.tup (.cons (.lit (.int 3)) (.cons (.lit (.int 1)) .nil))) .nil)))) (.cons (.var 4) .nil))) (.cons (.call 32 (.cons (.tup (.cons (.tup (.cons (.lit (.int 1)) (.cons (.lit (.int 2)) .nil))) (.cons (.tup (.cons (.lit (.int 3)) (.cons (.lit (.int 1)) .nil))) .nil))) (.cons (.tup (.cons (.tup (.cons (.lit (.int 0)) (.cons (.lit (.int 2)) .nil))) (.cons (.tup (.cons (.lit (.int 1)) .nil)) .nil))) .nil))) (.cons (.call 30 (.cons (.var 3) (.cons (.tup (.cons (.tup (.cons (.lit (.int 0)) (.cons (.lit (.int 1)) (.cons (.lit (.int 2)) .nil)))) .nil)) .nil))) .nil)))))
def lawS5 : S := (.ife (.not (.tru (.call 25 (.cons (.var 2) (.cons (.tup (.cons (.tup (.cons (.tup (.cons (.lit (.int 1)) (.cons (.lit (.int 2)) .nil))) (.cons (.tup (.cons (.lit (.int 3)) (.cons (.lit (.int 1)) .nil))) .nil))) (.cons (.tup (.cons (.tup (.cons (.lit (.int 1)) (.cons (.lit (.int 2)) .nil))) (.cons (.tup (.cons (.lit (.int 3)) (.cons (.lit (.int 1)) .nil))) (.cons (.tup (.cons (.lit (.int 1)) (.cons (.lit (.int 2)) .nil))) .nil)))) (.cons (.tup (.cons (.tup (.cons (.tup (.cons (.lit (.int 4)) .nil)) .nil)) .nil)) .nil)))) .nil))))) (.cons (.ret (.lit (.bl false))) .nil) .nil)
def lawS6 : S := (.ife (.cmp .ne (.word 0 (.str (PySem.Str.ofString "")) [(41, .txt (.str (PySem.Str.ofString "member"))), (40, .txt (.str (PySem.Str.ofString "meeting")))] (.call 30 (.cons (.tup (.cons (.tup (.cons (.tup (.cons (.lit (.int 60)) (.cons (.lit (.int 60)) .nil))) (.cons (.tup (.cons (.lit (.int 1)) (.cons (.lit (.int 1)) .nil))) .nil))) .nil)) (.cons (.tup (.cons (.tup (.cons (.lit (.int 0)) (.cons (.lit (.int 1)) .nil))) .nil)) .nil)))) (.lit (.str (PySem.Str.ofString "meeting")))) (.cons (.ret (.lit (.bl false))) .nil) .nil)
def lawS7 : S := (.fo (.tup (.cons (.name 5) (.cons (.name 6) (.cons (.name 7) .nil)))) (.ex (.tup (.cons (.tup (.cons (.lit (.int 1)) (.cons (.lit (.int 2)) (.cons (.lit (.int 9)) .nil)))) (.cons (.tup (.cons (.lit (.int 2)) (.cons (.lit (.int 3)) (.cons (.lit (.int 3)) .nil)))) (.cons (.tup (.cons (.lit (.int 3)) (.cons (.lit (.int 2)) (.cons (.lit (.int 1)) .nil)))) (.cons (.tup (.cons (.lit (.int 3)) (.cons (.lit (.int 3)) (.cons (.lit (.int 60)) .nil)))) (.cons (.tup (.cons (.lit (.int 4)) (.cons (.lit (.int 1)) (.cons (.lit (.int 1)) .nil)))) .nil))))))) (.cons (.ife (.not (.tru (.call 38 (.cons (.var 1) (.cons (.var 5) (.cons (.var 6) (.cons (.var 7) .nil))))))) (.cons (.ret (.lit (.bl false))) .nil) .nil) .nil))
def lawS8 : S := (.ret (.lit (.bl true)))
/-! ### the law -/
abbrev envL (ns : List Int) (d2 d3 d4 d5 d6 d7 : Option D) : En := [some (.p (.lst (ns.map P.int))), some (.obj 0), d2, d3, d4, d5, d6, d7]
def bkQ : Option D := some (.p (bookP [[[1, 1, 2], [2, 0, 2], [0, 0, 1]]]))
def lmQ : Option D := some (.p (rows [[0, 1], [2]]))
def tellP : P := .tup [bookP [[[0], [1], [2]], [[0, 1], [2]], [[0, 1, 2]]], bookP [[[2, 2], [0, 1]]], .bl false, rows [[0, 1]], .tup []]
def tellQ : P := .tup [rows [[1, 2], [3, 1]], rows [[1, 2], [3, 1], [1, 2]], bookP [[[4]]]]
section
variable {ns : List Int} {a b : Nat}
theorem law1 : evS (callN tb 40) 0 lawS1 (envL ns none none none none none none) (cupSt a b) = .ok (.next (envL ns none bkQ lmQ none none none)) (cupSt a b) := by kernel_rfl
theorem law2 : evS (callN tb 40) 0 lawS2 (envL ns none bkQ lmQ none none none) (cupSt a b) = .ok (.next (envL ns (some (.p tellP)) bkQ lmQ none none none)) (cupSt a b) := by kernel_rfl
theorem law3 : evS (callN tb 40) 0 lawS3 (envL ns (some (.p tellP)) bkQ lmQ none none none) (cupSt a b) = .ok (.next (envL ns (some (.p tellP)) bkQ lmQ none none none)) (cupSt a b) := by kernel_rfl
theorem law4 : evS (callN tb 40) 0 lawS4 (envL ns (some (.p tellP)) bkQ lmQ none none none) (cupSt a b) = .ok (.next (envL ns (some (.p tellQ)) bkQ lmQ none none none)) (cupSt a b) := by kernel_rfl
theorem law5 : evS (callN tb 40) 0 lawS5 (envL ns (some (.p tellQ)) bkQ lmQ none none none) (cupSt a b) = .ok (.next (envL ns (some (.p tellQ)) bkQ lmQ none none none)) (cupSt a b) := by kernel_rfl
theorem law6 : evS (callN tb 40) 0 lawS6 (envL ns (some (.p tellQ)) bkQ lmQ none none none) (cupSt a b) = .ok (.next (envL ns (some (.p tellQ)) bkQ lmQ none none none)) (cupSt a b) := by kernel_rfl
end
abbrev encQ (q : Nat × Nat × Nat) : P := .tup [N q.1, N q.2.1, N q.2.2]
def sizes : List (Nat × Nat × Nat) := [(1, 2, 9), (2, 3, 3), (3, 2, 1), (3, 3, 60), (4, 1, 1)]
abbrev tgL : G := .tup (.cons (.name 5) (.cons (.name 6) (.cons (.name 7) .nil)))
abbrev turnL : Ss := (.cons (.ife (.not (.tru (.call 38 (.cons (.var 1) (.cons (.var 5) (.cons (.var 6) (.cons (.var 7) .nil))))))) (.cons (.ret (.lit (.bl false))) .nil) .nil) .nil)
abbrev envZ (ns : List Int) (d5 d6 d7 : Option D) : En := envL ns (some (.p tellQ)) bkQ lmQ d5 d6 d7
def InvL (ns : List Int) : Nat → En → St → Prop := fun _ r s => ∃ (d5 d6 d7 : Option D) (a b : Nat), r = envZ ns d5 d6 d7 ∧ s = cupSt a b
theorem turnL_ok {k k0 j : Nat} {ns : List Int} {q : Nat × Nat × Nat} {r : En} {s : St} (hq : q ∈ sizes) (h : InvL ns j r s) : ∃ r' s', forBody (callN tb (k + 7)) k0 tgL turnL (encQ q) r s = .ok (.next r') s' ∧ InvL ns (j + 1) r' s' := by
  obtain ⟨d5, d6, d7, a, b, rfl, rfl⟩ := h
  have hb : (1 ≤ q.1 ∧ q.1 ≤ 4) ∧ (0 < q.2.1 ∧ q.2.1 ≤ 5) ∧ (0 < q.2.2 ∧ q.2.2 ≤ 98) := by
    unfold sizes at hq
    simp only [List.mem_cons, List.not_mem_nil, or_false] at hq
    rcases hq with rfl | rfl | rfl | rfl | rfl <;> decide
  obtain ⟨⟨h1, h2⟩, ⟨h3, h4⟩, ⟨h5, h6⟩⟩ := hb
  obtain ⟨x', y', e⟩ := law_right_ok (k := k) (x := a) (y := b) h1 h2 h3 h4 h5 h6
  exact ⟨_, _, forBody_at (r2 := envZ ns (some (.p (N q.1))) (some (.p (N q.2.1))) (some (.p (N q.2.2)))) rfl (st_if0 (ev_not (b := true) (ev_tru (ev_call (ev_cons (ev_var rfl) (ev_cons (ev_var rfl) (ev_cons (ev_var rfl) (ev_cons (ev_var rfl) ev_nil)))) e))) st_nil), _, _, _, _, _, rfl, rfl⟩
theorem law_ok {ns : List Int} (hn : ns.length ≤ 63) : ∃ st, callN tb 41 39 [.p (.lst (ns.map P.int))] [] = .ok (.p (.bl true)) st := by
  obtain ⟨a, b, e1⟩ := cup_ok (k := 39) hn
  obtain ⟨r', s', e, d5, d6, d7, a2, b2, rfl, rfl⟩ := forGo_inv (f := forBody (callN tb 40) 0 tgL turnL) (c := encQ) (Inv := InvL ns) (l := sizes) (i := 0) (r := envZ ns none none none) (s := cupSt a b) ⟨none, none, none, a, b, rfl, rfl⟩ fun j q r s hj hi => turnL_ok (k := 33) (List.mem_of_getElem? hj) hi
  refine ⟨[], ?_⟩
  rw [callN_at (f := t_law) rfl rfl]
  have z : evSs (callN tb 40) ([] : St).length t_law.body (enter t_law [.p (.lst (ns.map P.int))]) [] = .ok (.ret (.p (.bl true))) (cupSt a2 b2) :=
    st_asg (ev_call (ev_cons (ev_var rfl) ev_nil) e1) (by show 1 < 8; decide) (st_step law1 (st_step law2 (st_step law3 (st_step law4 (st_step law5 (st_step law6 (st_for (r1 := envZ ns d5 d6 d7) (s1 := cupSt a b) (s2 := cupSt a2 b2) (xs := sizes.map encQ) (ev_ex (ev_pars rfl rfl) rfl) e (st_ret ev_lit))))))))
  rw [z]; rfl
end Ev.Pl

set_option Elab.async false
set_option linter.all false
set_option maxRecDepth 100000
set_option maxHeartbeats 0
namespace Ev
open PySem PySem.Spec PyProof.Rows
def tabs : Tab := {
  dn := [(PySem.Str.ofString "is_whole"), (PySem.Str.ofString "is_tuple_of"), (PySem.Str.ofString "is_rising"), (PySem.Str.ofString "fits_meeting"), (PySem.Str.ofString "fits_book"), (PySem.Str.ofString "need_book"), (PySem.Str.ofString "fits_lot"), (PySem.Str.ofString "divisor_of"), (PySem.Str.ofString "lowest"), (PySem.Str.ofString "fits_fraction"), (PySem.Str.ofString "table_in"), (PySem.Str.ofString "_law_low"), (PySem.Str.ofString "_law_set"), (PySem.Str.ofString "_law_numbers"), (PySem.Str.ofString "fits_numbers"), (PySem.Str.ofString "need_numbers"), (PySem.Str.ofString "need_row"), (PySem.Str.ofString "fits_lumps"), (PySem.Str.ofString "need_lumps"), (PySem.Str.ofString "part_for"), (PySem.Str.ofString "is_lumped"), (PySem.Str.ofString "lumped"), (PySem.Str.ofString "_law_cup"), (PySem.Str.ofString "_law_roll"), (PySem.Str.ofString "_law_some"), (PySem.Str.ofString "_law_same"), (PySem.Str.ofString "_law_meeting"), (PySem.Str.ofString "_law_book"), (PySem.Str.ofString "partitions_of"), (PySem.Str.ofString "can_lump"), (PySem.Str.ofString "lumped_book"), (PySem.Str.ofString "lumped_numbers"), (PySem.Str.ofString "spread_numbers"), (PySem.Str.ofString "are_lots"), (PySem.Str.ofString "lumps_of"), (PySem.Str.ofString "alike_members"), (PySem.Str.ofString "_law_partitions"), (PySem.Str.ofString "_law_can"), (PySem.Str.ofString "_law_right"), (PySem.Str.ofString "law")]
  xn := [(PySem.Str.ofString "InvalidMeeting"), (PySem.Str.ofString "InvalidMember"), (PySem.Str.ofString "InvalidNumbers")]
  gcs := [((PySem.Str.ofString "MEMBERS"), .int 6), ((PySem.Str.ofString "WEIGHT"), .int 99), ((PySem.Str.ofString "MEETINGS"), .int 6), ((PySem.Str.ofString "BOUND"), .int 1000000), ((PySem.Str.ofString "LUMPS"), .int 100)]
  tb := tb
  ns := [[(PySem.Str.ofString "value"), (PySem.Str.ofString "low"), (PySem.Str.ofString "high")],
    [(PySem.Str.ofString "value"), (PySem.Str.ofString "low"), (PySem.Str.ofString "high")],
    [(PySem.Str.ofString "values"), (PySem.Str.ofString "one"), (PySem.Str.ofString "other")],
    [(PySem.Str.ofString "value"), (PySem.Str.ofString "many"), (PySem.Str.ofString "row"), (PySem.Str.ofString "own")],
    [(PySem.Str.ofString "value"), (PySem.Str.ofString "own")],
    [(PySem.Str.ofString "book")],
    [(PySem.Str.ofString "many"), (PySem.Str.ofString "value"), (PySem.Str.ofString "own")],
    [(PySem.Str.ofString "one"), (PySem.Str.ofString "other")],
    [(PySem.Str.ofString "over"), (PySem.Str.ofString "under"), (PySem.Str.ofString "by")],
    [(PySem.Str.ofString "value")],
    [(PySem.Str.ofString "meeting"), (PySem.Str.ofString "row"), (PySem.Str.ofString "own")],
    [(PySem.Str.ofString "over"), (PySem.Str.ofString "under"), (PySem.Str.ofString "one"), (PySem.Str.ofString "other")],
    [(PySem.Str.ofString "meeting"), (PySem.Str.ofString "numbers"), (PySem.Str.ofString "found"), (PySem.Str.ofString "row"), (PySem.Str.ofString "under"), (PySem.Str.ofString "over"), (PySem.Str.ofString "own"), (PySem.Str.ofString "weight")],
    [(PySem.Str.ofString "cup"), (PySem.Str.ofString "many"), (PySem.Str.ofString "member")],
    [(PySem.Str.ofString "many"), (PySem.Str.ofString "value"), (PySem.Str.ofString "own")],
    [(PySem.Str.ofString "many"), (PySem.Str.ofString "numbers")],
    [(PySem.Str.ofString "numbers"), (PySem.Str.ofString "own")],
    [(PySem.Str.ofString "many"), (PySem.Str.ofString "value"), (PySem.Str.ofString "own"), (PySem.Str.ofString "at")],
    [(PySem.Str.ofString "book"), (PySem.Str.ofString "lumps")],
    [(PySem.Str.ofString "row"), (PySem.Str.ofString "lump"), (PySem.Str.ofString "at")],
    [(PySem.Str.ofString "meeting"), (PySem.Str.ofString "lumps"), (PySem.Str.ofString "lump"), (PySem.Str.ofString "other"), (PySem.Str.ofString "parts"), (PySem.Str.ofString "own")],
    [(PySem.Str.ofString "meeting"), (PySem.Str.ofString "lumps"), (PySem.Str.ofString "lump"), (PySem.Str.ofString "other"), (PySem.Str.ofString "at")],
    [(PySem.Str.ofString "script"), (PySem.Str.ofString "cell")],
    [(PySem.Str.ofString "cup"), (PySem.Str.ofString "many"), (PySem.Str.ofString "deep"), (PySem.Str.ofString "found")],
    [(PySem.Str.ofString "cup"), (PySem.Str.ofString "things")],
    [(PySem.Str.ofString "told"), (PySem.Str.ofString "due"), (PySem.Str.ofString "at")],
    [(PySem.Str.ofString "cup"), (PySem.Str.ofString "many"), (PySem.Str.ofString "wide"), (PySem.Str.ofString "rows"), (PySem.Str.ofString "member"), (PySem.Str.ofString "row"), (PySem.Str.ofString "own")],
    [(PySem.Str.ofString "cup"), (PySem.Str.ofString "many"), (PySem.Str.ofString "most"), (PySem.Str.ofString "wide"), (PySem.Str.ofString "found"), (PySem.Str.ofString "turn")],
    [(PySem.Str.ofString "many"), (PySem.Str.ofString "rows"), (PySem.Str.ofString "own"), (PySem.Str.ofString "later"), (PySem.Str.ofString "row"), (PySem.Str.ofString "at"), (PySem.Str.ofString "lump")],
    [(PySem.Str.ofString "book"), (PySem.Str.ofString "lumps"), (PySem.Str.ofString "meeting")],
    [(PySem.Str.ofString "book"), (PySem.Str.ofString "lumps"), (PySem.Str.ofString "found"), (PySem.Str.ofString "meeting")],
    [(PySem.Str.ofString "numbers"), (PySem.Str.ofString "lumps"), (PySem.Str.ofString "lump"), (PySem.Str.ofString "at")],
    [(PySem.Str.ofString "numbers"), (PySem.Str.ofString "lumps"), (PySem.Str.ofString "many"), (PySem.Str.ofString "own"), (PySem.Str.ofString "at"), (PySem.Str.ofString "lump")],
    [(PySem.Str.ofString "value"), (PySem.Str.ofString "own")],
    [(PySem.Str.ofString "book"), (PySem.Str.ofString "rows"), (PySem.Str.ofString "found"), (PySem.Str.ofString "lumps"), (PySem.Str.ofString "meeting")],
    [(PySem.Str.ofString "book"), (PySem.Str.ofString "tables"), (PySem.Str.ofString "rows"), (PySem.Str.ofString "pairs"), (PySem.Str.ofString "meeting"), (PySem.Str.ofString "one"), (PySem.Str.ofString "other"), (PySem.Str.ofString "pair"), (PySem.Str.ofString "table")],
    [(PySem.Str.ofString "many"), (PySem.Str.ofString "rows"), (PySem.Str.ofString "own"), (PySem.Str.ofString "longer"), (PySem.Str.ofString "row"), (PySem.Str.ofString "at")],
    [(PySem.Str.ofString "book"), (PySem.Str.ofString "lumps"), (PySem.Str.ofString "meeting"), (PySem.Str.ofString "lump"), (PySem.Str.ofString "other"), (PySem.Str.ofString "parts"), (PySem.Str.ofString "own"), (PySem.Str.ofString "at")],
    [(PySem.Str.ofString "cup"), (PySem.Str.ofString "many"), (PySem.Str.ofString "most"), (PySem.Str.ofString "wide"), (PySem.Str.ofString "book"), (PySem.Str.ofString "at"), (PySem.Str.ofString "twin"), (PySem.Str.ofString "own"), (PySem.Str.ofString "every"), (PySem.Str.ofString "good"), (PySem.Str.ofString "lumps"), (PySem.Str.ofString "pairs"), (PySem.Str.ofString "one"), (PySem.Str.ofString "late"), (PySem.Str.ofString "meeting"), (PySem.Str.ofString "weights"), (PySem.Str.ofString "word"), (PySem.Str.ofString "other"), (PySem.Str.ofString "rows"), (PySem.Str.ofString "lump"), (PySem.Str.ofString "numbers"), (PySem.Str.ofString "whole"), (PySem.Str.ofString "behind"), (PySem.Str.ofString "row"), (PySem.Str.ofString "by")],
    [(PySem.Str.ofString "script"), (PySem.Str.ofString "cup"), (PySem.Str.ofString "told"), (PySem.Str.ofString "book"), (PySem.Str.ofString "lumps"), (PySem.Str.ofString "many"), (PySem.Str.ofString "most"), (PySem.Str.ofString "wide")]]
  lams := [(PySem.Str.ofString "_law_right"), (PySem.Str.ofString "law")]
  cts := [((PySem.Str.ofString "_law_word"), .str (PySem.Str.ofString ""), [(41, .txt (.str (PySem.Str.ofString "member"))), (40, .txt (.str (PySem.Str.ofString "meeting")))])] }
abbrev TheRow : PySem.W.OpenRow := PySem.W.OpenLaw.row PySem.Challenge.rw_setbyothers_k91_whole_members_taken_as_o
def loose : List PySem.Str := [(PySem.Str.ofString "SetError"), (PySem.Str.ofString "InvalidMeeting"), (PySem.Str.ofString "InvalidMember"), (PySem.Str.ofString "InvalidNumbers"), (PySem.Str.ofString "TooMany"), (PySem.Str.ofString "MEMBERS"), (PySem.Str.ofString "WEIGHT"), (PySem.Str.ofString "MEETINGS"), (PySem.Str.ofString "is_whole"), (PySem.Str.ofString "is_tuple_of"), (PySem.Str.ofString "is_rising"), (PySem.Str.ofString "fits_meeting"), (PySem.Str.ofString "fits_book"), (PySem.Str.ofString "need_book"), (PySem.Str.ofString "fits_lot"), (PySem.Str.ofString "BOUND"), (PySem.Str.ofString "divisor_of"), (PySem.Str.ofString "lowest"), (PySem.Str.ofString "fits_fraction"), (PySem.Str.ofString "table_in"), (PySem.Str.ofString "fits_numbers"), (PySem.Str.ofString "need_numbers"), (PySem.Str.ofString "need_row"), (PySem.Str.ofString "LUMPS"), (PySem.Str.ofString "fits_lumps"), (PySem.Str.ofString "need_lumps"), (PySem.Str.ofString "part_for"), (PySem.Str.ofString "is_lumped"), (PySem.Str.ofString "lumped"), (PySem.Str.ofString "partitions_of"), (PySem.Str.ofString "can_lump"), (PySem.Str.ofString "lumped_book"), (PySem.Str.ofString "lumped_numbers"), (PySem.Str.ofString "spread_numbers"), (PySem.Str.ofString "are_lots"), (PySem.Str.ofString "lumps_of"), (PySem.Str.ofString "alike_members"), (PySem.Str.ofString "_law_cup"), (PySem.Str.ofString "_law_roll"), (PySem.Str.ofString "_law_some"), (PySem.Str.ofString "_law_same"), (PySem.Str.ofString "_law_meeting"), (PySem.Str.ofString "_law_book"), (PySem.Str.ofString "_law_low"), (PySem.Str.ofString "_law_set"), (PySem.Str.ofString "_law_partitions"), (PySem.Str.ofString "_law_can"), (PySem.Str.ofString "_law_numbers"), (PySem.Str.ofString "_law_word")]
theorem run (w : World) : HandSHeadRun.RunEq TheRow (PySem.W.view TheRow.prog [55, 56]) (look tabs) (fun s => lookB tabs (HandSHeadRun.getT s)) 6000 loose w := by
  intro os
  kernel_rfl
end Ev

set_option Elab.async false
set_option linter.all false
open PySem PySem.W PySem.Calls PyProof.Rows
set_option maxRecDepth 100000 in
set_option maxHeartbeats 0 in
theorem PySem.Challenge.cw_setbyothers_k91_whole_members_taken_as_o_holds : PySem.Challenge.rw_setbyothers_k91_whole_members_taken_as_o.Holds := by
  w_on; o_law
  refine HandSHeadRun.head_any (r := Ev.TheRow) (q := view Ev.TheRow.prog [55, 56]) (H := Ev.look Ev.tabs) (ob := fun s => Ev.lookB Ev.tabs (HandSHeadRun.getT s)) (M := 6000) (loose := Ev.loose) (d := HandSHeadRun.topDef Ev.TheRow.prog 56) (kwd := []) Ev.look_eq
    (by kernel_rfl) (fun s => by kernel_rfl) Ev.run (by kernel_rfl) (by kernel_rfl) (by kernel_rfl) (by rfl) (by first | assumption | decide +kernel) (by decide +kernel) ⟨rfl, rfl, rfl, rfl, rfl, by decide +kernel⟩ ?hw ?hc
  case hw => w_witness2
  case hc =>
    exact Ev.walk_by (l := PySem.Challenge.rw_setbyothers_k91_whole_members_taken_as_o) Ev.tabs 40 39 rfl (by kernel_rfl) (by kernel_rfl) (by kernel_rfl) ⟨Ev.t_law, rfl, rfl⟩ ⟨rfl, by decide, by decide⟩ (by kernel_rfl) fun ns hn => Ev.Pl.law_ok hn
