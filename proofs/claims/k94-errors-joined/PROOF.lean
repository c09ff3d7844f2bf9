import PyProof.Rows.All
import Wide.All
import OpenK.AllK
import Wide.FinOn
import HandS.ForMost
import HandS.TupAny
import HandS.TupMul
import HandS.Wide
import HandS.IsInst
import HandS.Conv
import HandS.DictComp
import HandS.Deep
import HandS.Walk
import HandS.Zip
import HandS.SortOrd
import HandS.Style
import HandS.Flow
import HandS.ForExc
import HandS.Lambda
import HandS.CallLocal
import KE.KDictKeyed
import KE.KDictDisplayH
import KE.KDictCopyH
import KE.GoesDict
import KE.KDictWalk
import KE.LtSeq
import KE.KEqNest
import KE.SortData
import KE.DataMinMax
import KE.DataCmp
import KE.KTupSum
import HandS.ExcCtx
import HandS.Hot
import HandS.HotCalls
import HandS.ExcInit
import KE.KSuper
import KE.KExcSuper
import HandS.Iter
import KE.GoesNew
import KE.GoesEnum
import KE.GoesMore
import HandS.TupSets
import HandS.Sort
import HandS.Rev
import KE.KItemsList
import HandS.TryMany
import HandS.HeadHook1
import HandS.EndTab
import HandS.Head0
import HandS.Head1
import HandS.Head2
import HandS.HeadEnd
import HandS.HeadHook2
import HandS.Base
import HandS.Comp
import PyProof.Rows.TupIter
import HandS.ExcIs
import HandS.ExcField
import PySem.Challenge.RW_setbyothers_k94_whole_errors_of_joined_b
set_option Elab.async false
set_option linter.all false
set_option maxRecDepth 100000
/-! Ev: deep values, a small language of its own, its evaluator. -/
namespace Ev
open PySem

/-- immutable values, deep -/
inductive P where
  | non | bl (b : Bool) | int (i : Int) | str (x : Str)
  | tup (l : List P) | lst (l : List P) | dct (ks vs : List P)
  | rng (lo hi : Int) | glo (g : Nat)
deriving Inhabited

mutual
def P.beq : P → P → Bool
  | .non, .non => true
  | .bl a, .bl b => a == b
  | .int a, .int b => decide (a = b)
  | .str a, .str b => decide (a = b)
  | .tup a, .tup b => P.beqs a b
  | .lst a, .lst b => P.beqs a b
  | .dct a b, .dct c d => P.beqs a c && P.beqs b d
  | .rng a b, .rng c d => decide (a = c) && decide (b = d)
  | .glo a, .glo b => decide (a = b)
  | _, _ => false
def P.beqs : List P → List P → Bool
  | [], [] => true
  | a :: as, b :: bs => P.beq a b && P.beqs as bs
  | _, _ => false
end
mutual
theorem P.beq_self : ∀ a : P, P.beq a a = true
  | .non => by simp [P.beq]
  | .bl _ => by simp [P.beq]
  | .int _ => by simp [P.beq]
  | .str _ => by simp [P.beq]
  | .tup l => by rw [P.beq]; exact P.beqs_self l
  | .lst l => by rw [P.beq]; exact P.beqs_self l
  | .dct a b => by rw [P.beq, P.beqs_self a, P.beqs_self b]; rfl
  | .rng _ _ => by simp [P.beq]
  | .glo _ => by simp [P.beq]
theorem P.beqs_self : ∀ a : List P, P.beqs a a = true
  | [] => by simp [P.beqs]
  | a :: l => by rw [P.beqs, P.beq_self a, P.beqs_self l]; rfl
end
mutual
theorem P.eq_of_beq : ∀ a b : P, P.beq a b = true → a = b := by
  intro a b h
  cases a <;> cases b <;> first
    | rfl
    | (simp [P.beq] at h; done)
    | (simp [P.beq] at h; simp [h]; done)
    | (rw [P.beq] at h; rw [P.eq_of_beqs _ _ h])
    | (rw [P.beq, Bool.and_eq_true] at h; rw [P.eq_of_beqs _ _ h.1, P.eq_of_beqs _ _ h.2])
theorem P.eq_of_beqs : ∀ a b : List P, P.beqs a b = true → a = b
  | [], [], _ => rfl
  | a :: as, b :: bs, h => by
    rw [P.beqs, Bool.and_eq_true] at h
    rw [P.eq_of_beq a b h.1, P.eq_of_beqs as bs h.2]
  | [], _ :: _, h => by simp [P.beqs] at h
  | _ :: _, [], h => by simp [P.beqs] at h
end
instance : DecidableEq P := fun a b => if h : P.beq a b = true then .isTrue (P.eq_of_beq a b h) else .isFalse fun e => h (e ▸ P.beq_self a)
end Ev

set_option Elab.async false
set_option linter.all false
set_option maxRecDepth 100000
namespace Ev
open PySem

mutual
/-- as the library's plain data -/
def P.py : P → Option PyData
  | .non => some .none
  | .bl b => some (.bool b)
  | .int i => some (.int i)
  | .str x => some (.str x)
  | .tup l => match P.pys l with | some ds => some (.tuple ds) | none => none
  | .lst l => match P.pys l with | some ds => some (.list ds) | none => none
  | _ => none
def P.pys : List P → Option (List PyData)
  | [] => some []
  | a :: l => match P.py a with
    | some d => match P.pys l with | some ds => some (d :: ds) | none => none
    | none => none
end
/-- Python's == -/
def peq (a b : P) : Option Bool := match a.py, b.py with
  | some x, some y => if SeqAt.shaped x && SeqAt.shaped y then some (PyData.eqv x y) else none
  | _, _ => none
/-- how values of a sorted list look -/
inductive Ty where
  | int | str | seq (t : Ty) | nil | cons (t : Ty) (r : Ty)
mutual
def P.has : Ty → P → Bool
  | .int, .int _ => true
  | .str, .str _ => true
  | .seq t, .tup l => P.hasAll t l
  | .nil, .tup l => P.hasEach .nil l
  | .cons t r, .tup l => P.hasEach (.cons t r) l
  | _, _ => false
def P.hasAll (t : Ty) : List P → Bool
  | [] => true
  | a :: l => P.has t a && P.hasAll t l
def P.hasEach : Ty → List P → Bool
  | .nil, [] => true
  | .cons t r, a :: l => P.has t a && P.hasEach r l
  | _, _ => false
end
/-- how deep -/
def Ty.deep : Ty → Nat
  | .int => 0
  | .str => 0
  | .seq t => t.deep + 1
  | .nil => 1
  | .cons t r => max (t.deep + 1) r.deep
def srtOk (t : Ty) : Bool := decide (t.deep ≤ 50)
mutual
/-- Python's < on values that look alike -/
def P.ltb : P → P → Bool
  | .int a, .int b => decide (a < b)
  | .str a, .str b => decide (a.cps.toList < b.cps.toList)
  | .bl a, .bl b => !a && b
  | .tup a, .tup b => P.ltbs a b
  | .lst a, .lst b => P.ltbs a b
  | _, _ => false
def P.ltbs : List P → List P → Bool
  | [], [] => false
  | [], _ :: _ => true
  | _ :: _, [] => false
  | a :: as, b :: bs => if P.beq a b then P.ltbs as bs else P.ltb a b
end
/-- sorted -/
def insB (x : P) : List P → List P
  | [] => [x]
  | y :: l => if P.ltb y x then y :: insB x l else x :: y :: l
/-- each once -/
def dedupP : List P → List P
  | [] => []
  | x :: l => if l.any (P.beq x) then dedupP l else x :: dedupP l
/-- lists, one behind another -/
def catL : List P → Option (List P)
  | [] => some []
  | .lst a :: l => match catL l with | some b => some (a ++ b) | none => none
  | _ => none
def sortP : List P → List P
  | [] => []
  | x :: l => insB x (sortP l)

/-- a value: immutable, or a place in the store -/
inductive D where
  | p (x : P) | obj (n : Nat)
deriving Inhabited
/-- what stands in the store -/
inductive Ob where
  | lst (l : List P) | dct (ks vs : List P) | ins (c : Nat) (fs : List (Str × P)) | gone
abbrev St := List Ob
abbrev En := List (Option D)
inductive R (α : Type) where
  | ok (a : α) (s : St) | exc (c : Nat) (fs : List P) (s : St) | bad
@[inline] def R.bind {α β : Type} (r : R α) (f : α → St → R β) : R β := match r with
  | .ok a s => f a s
  | .exc c fs s => .exc c fs s
  | .bad => .bad
def R.noexc {α : Type} : R α → R α
  | .exc _ _ _ => .bad
  | r => r

/-- a look at a value -/
def view (s : St) : D → Option P
  | .p x => some x
  | .obj n => match s[n]? with
    | some (.lst l) => some (.lst l)
    | some (.dct ks vs) => some (.dct ks vs)
    | _ => none

/-! ### dicts -/
def sameKind : List P → P → Bool
  | [], .int _ => true
  | [], .str _ => true
  | [], .tup _ => true
  | .int _ :: _, .int _ => true
  | .str _ :: _, .str _ => true
  | .int _ :: _, .str _ => true
  | .str _ :: _, .int _ => true
  | .tup _ :: _, .tup _ => true
  | _, _ => false
mutual
/-- a key: ints, texts, None, tuples of such, not too deep -/
def P.isKey : Nat → P → Bool
  | _, .non => true
  | _, .int _ => true
  | _, .str _ => true
  | n + 1, .tup l => P.areKeys n l
  | _, _ => false
def P.areKeys (n : Nat) : List P → Bool
  | [] => true
  | a :: l => P.isKey n a && P.areKeys n l
end
def keyOk (ks : List P) (k : P) : Bool := sameKind ks k && P.isKey 8 k
def dget : List P → List P → P → Option P
  | k' :: ks, v :: vs, k => if P.beq k' k then some v else dget ks vs k
  | _, _, _ => none
def dputV : List P → List P → P → P → List P
  | k' :: ks, v' :: vs, k, v => if P.beq k' k then v :: vs else v' :: dputV ks vs k v
  | _, _, _, v => [v]
def dputK : List P → P → List P
  | k' :: ks, k => if P.beq k' k then k' :: ks else k' :: dputK ks k
  | [], k => [k]

/-! ### numbers, sequences -/
def sumI : List P → Option Int
  | [] => some 0
  | .int i :: l => match sumI l with | some j => some (i + j) | none => none
  | _ => none
def allB : List P → Option Bool
  | [] => some true
  | .bl b :: l => match allB l with | some c => some (b && c) | none => none
  | _ => none
def anyB : List P → Option Bool
  | [] => some false
  | .bl b :: l => match anyB l with | some c => some (b || c) | none => none
  | _ => none
def ixN (n : Nat) (i : Int) : Option Nat := if 0 ≤ i then (if i < n then some i.toNat else none) else if -(n : Int) ≤ i then some (i + n).toNat else none
def atP (l : List P) (i : Int) : Option P := match ixN l.length i with | some j => l[j]? | none => none
def sIx (n d : Nat) : Option Int → Nat
  | none => d
  | some v => if v < 0 then (v + n).toNat else min v.toNat n
def cutP (l : List P) (lo hi : Option Int) : List P := (l.drop (sIx l.length 0 lo)).take (sIx l.length l.length hi - sIx l.length 0 lo)
def big : Nat := 16777216
def flatP : P → Bool
  | .int _ => true | .str _ => true | .non => true | .bl _ => true | _ => false

inductive U where
  | len | abs | int | sum | all | any | tuple | neg | isInt | isBool | isTup | isStr | str | nset
deriving DecidableEq
inductive B where
  | add | sub | mul | fdiv | mod | pow | idx | min2 | max2
deriving DecidableEq
inductive C where
  | eq | ne | lt | le | gt | ge | isin | notin | isNone | notNone | isTrue | isFalse | notTrue | notFalse
deriving DecidableEq

def evU : U → P → Option P
  | .len, .tup l => some (.int l.length)
  | .len, .lst l => some (.int l.length)
  | .len, .dct ks _ => some (.int ks.length)
  | .abs, .int i => some (.int (if i < 0 then -i else i))
  | .int, .int i => some (.int i)
  | .neg, .int i => some (.int (-i))
  | .sum, .lst l => match sumI l with | some i => some (.int i) | none => none
  | .sum, .tup l => match sumI l with | some i => some (.int i) | none => none
  | .all, .lst l => match allB l with | some b => some (.bl b) | none => none
  | .any, .lst l => match anyB l with | some b => some (.bl b) | none => none
  | .tuple, .lst l => some (.tup l)
  | .tuple, .tup l => some (.tup l)
  | .isInt, x => match x with | .int _ => some (.bl true) | .bl _ => some (.bl true) | .glo _ => none | .rng _ _ => none | .dct _ _ => none | _ => some (.bl false)
  | .isBool, x => match x with | .bl _ => some (.bl true) | .glo _ => none | .rng _ _ => none | .dct _ _ => none | _ => some (.bl false)
  | .isTup, x => match x with | .tup _ => some (.bl true) | .glo _ => none | .rng _ _ => none | .dct _ _ => none | _ => some (.bl false)
  | .isStr, x => match x with | .str _ => some (.bl true) | .glo _ => none | .rng _ _ => none | .dct _ _ => none | _ => some (.bl false)
  | .nset, .lst l => if P.hasAll (.seq .int) l && decide (l.length < 64) then some (.int (dedupP l).length) else none
  | .str, .str x => some (.str x)
  | .str, .int i => if decide (i.natAbs < 2 ^ 1000) then some (.str (toString i)) else none
  | _, _ => none

def mulOk (i j : Int) : Bool := (decide (i.natAbs < 2 ^ 64) || decide (j.natAbs < 2 ^ 64)) || (decide (i.natAbs < 2 ^ 4000) && decide (j.natAbs < 2 ^ 4000))
def divOk (j : Int) : Bool := decide (0 < j) && decide (j.natAbs < 2 ^ 4000)
def evB : B → P → P → Option P
  | .add, .int i, .int j => some (.int (i + j))
  | .add, .tup l, .tup m => if decide (l.length + m.length ≤ big) then some (.tup (l ++ m)) else none
  | .sub, .int i, .int j => some (.int (i - j))
  | .mul, .int i, .int j => if mulOk i j then some (.int (i * j)) else none
  | .mul, .tup l, .int k => if decide (k = 1) then some (.tup l) else if !l.isEmpty && decide (2 ≤ k) && decide (k ≤ 1000) && decide (l.length ≤ 1000) then some (.tup (List.replicate k.toNat l).flatten) else none
  | .fdiv, .int i, .int j => if divOk j then some (.int (i / j)) else none
  | .mod, .int i, .int j => if decide (0 < j) then some (.int (i % j)) else none
  | .pow, .int i, .int j => if decide (0 ≤ j) && decide (j ≤ 1000) && decide (i.natAbs < 1000) then some (.int (i ^ j.toNat)) else none
  | .idx, .tup l, .int i => atP l i
  | .idx, .lst l, .int i => atP l i
  | .idx, .dct ks vs, k => if keyOk ks k then dget ks vs k else none
  | .min2, .int i, .int j => some (.int (if j < i then j else i))
  | .max2, .int i, .int j => some (.int (if j > i then j else i))
  | _, _, _ => none
/-- the items of what 'in' looks through -/
def inSeq (x : P) (l : List P) : Option Bool := match x.py, P.pys l with
  | some d, some ds => if SeqAt.shaped d && SeqAt.shaped (.list ds) then some (ds.any fun z => PyData.eqv z d) else none
  | _, _ => none
/-- how many are like x -/
def cntP (x : P) (l : List P) : Option Nat := match x.py, P.pys l with
  | some d, some ds => if SeqAt.shaped d && SeqAt.shaped (.list ds) then some (ds.countP fun z => PyData.eqv z d) else none
  | _, _ => none
/-- what sets hold here -/
def setTy : Ty → Bool
  | .int => true
  | .seq .int => true
  | _ => false
def evC : C → P → P → Option Bool
  | .eq, a, b => peq a b
  | .ne, a, b => match peq a b with | some c => some (!c) | none => none
  | .lt, .int i, .int j => some (decide (i < j))
  | .lt, .tup a, .tup b => match P.pys a, P.pys b with
    | some x, some y => if PySem.W.alike (.tuple x) (.tuple y) && SeqAt.shaped (.tuple x) then some (P.ltbs a b) else none
    | _, _ => none
  | .le, .int i, .int j => some (decide (i ≤ j))
  | .gt, .int i, .int j => some (decide (j < i))
  | .ge, .int i, .int j => some (decide (j ≤ i))
  | .isin, x, .tup l => inSeq x l
  | .isin, x, .lst l => inSeq x l
  | .isin, x, .dct ks vs => if keyOk ks x then some (dget ks vs x).isSome else none
  | .notin, x, .tup l => match inSeq x l with | some c => some (!c) | none => none
  | .notin, x, .lst l => match inSeq x l with | some c => some (!c) | none => none
  | .notin, x, .dct ks vs => if keyOk ks x then some (!(dget ks vs x).isSome) else none
  | .isNone, a, .non => some (match a with | .non => true | _ => false)
  | .notNone, a, .non => some (match a with | .non => false | _ => true)
  | .isTrue, a, .bl true => some (match a with | .bl true => true | _ => false)
  | .isFalse, a, .bl false => some (match a with | .bl false => true | _ => false)
  | .notTrue, a, .bl true => some (match a with | .bl true => false | _ => true)
  | .notFalse, a, .bl false => some (match a with | .bl false => false | _ => true)
  | _, _, _ => none
end Ev

set_option Elab.async false
set_option linter.all false
set_option maxRecDepth 100000
/-! Ev: values that look alike are in a strict order; sorted by insertion. -/
namespace Ev
open PySem

/-- a strict order on what A tells -/
structure Ord3 {α : Type} (A : α → Bool) (lt : α → α → Bool) : Prop where
  asy : ∀ a b, A a = true → A b = true → lt a b = true → lt b a = true → False
  tri : ∀ a b, A a = true → A b = true → lt a b = false → lt b a = false → a = b
  trn : ∀ a b c, A a = true → A b = true → A c = true → lt a b = true → lt b c = true → lt a c = true
theorem Ord3.irr {α : Type} {A : α → Bool} {lt : α → α → Bool} (o : Ord3 A lt) {a : α} (h : A a = true) : lt a a = false := by
  cases e : lt a a with
  | false => rfl
  | true => exact (o.asy a a h h e e).elim
/-- head and tail -/
theorem ltbs_cons {a b : P} {l m : List P} : P.ltbs (a :: l) (b :: m) = if a = b then P.ltbs l m else P.ltb a b := by
  rw [P.ltbs]
  by_cases h : a = b
  · subst h
    rw [if_pos (P.beq_self a), if_pos rfl]
  · rw [if_neg fun z => h (P.eq_of_beq _ _ z), if_neg h]
theorem ord_step {A : P → Bool} {B C : List P → Bool} (hA : Ord3 A P.ltb) (hB : Ord3 B P.ltbs) (hn : C [] = true → ∀ l, C l = true → l = []) (hc : ∀ a l, C (a :: l) = true → A a = true ∧ B l = true) : Ord3 C P.ltbs where
  asy := fun l m hl hm h1 h2 => by
    cases l with
    | nil => cases m with
      | nil => rw [P.ltbs] at h1; cases h1
      | cons b m => rw [P.ltbs] at h2; cases h2
    | cons a l => cases m with
      | nil => rw [P.ltbs] at h1; cases h1
      | cons b m =>
        obtain ⟨a1, l1⟩ := hc _ _ hl
        obtain ⟨b1, m1⟩ := hc _ _ hm
        rw [ltbs_cons] at h1 h2
        by_cases e : a = b
        · rw [if_pos e] at h1
          rw [if_pos e.symm] at h2
          exact hB.asy l m l1 m1 h1 h2
        · rw [if_neg e] at h1
          rw [if_neg fun z => e z.symm] at h2
          exact hA.asy a b a1 b1 h1 h2
  tri := fun l m hl hm h1 h2 => by
    cases l with
    | nil => cases m with
      | nil => rfl
      | cons b m => rw [P.ltbs] at h1; cases h1
    | cons a l => cases m with
      | nil => rw [P.ltbs] at h2; cases h2
      | cons b m =>
        obtain ⟨a1, l1⟩ := hc _ _ hl
        obtain ⟨b1, m1⟩ := hc _ _ hm
        rw [ltbs_cons] at h1 h2
        by_cases e : a = b
        · rw [if_pos e] at h1
          rw [if_pos e.symm] at h2
          rw [e, hB.tri l m l1 m1 h1 h2]
        · rw [if_neg e] at h1
          rw [if_neg fun z => e z.symm] at h2
          exact absurd (hA.tri a b a1 b1 h1 h2) e
  trn := fun l m n hl hm hn h1 h2 => by
    cases m with
    | nil => cases l with
      | nil => rw [P.ltbs] at h1; cases h1
      | cons a l => rw [P.ltbs] at h1; cases h1
    | cons b m => cases n with
      | nil => rw [P.ltbs] at h2; cases h2
      | cons c n => cases l with
        | nil => rw [P.ltbs]
        | cons a l =>
          obtain ⟨a1, l1⟩ := hc _ _ hl
          obtain ⟨b1, m1⟩ := hc _ _ hm
          obtain ⟨c1, n1⟩ := hc _ _ hn
          rw [ltbs_cons] at h1 h2 ⊢
          by_cases e1 : a = b
          · subst e1
            rw [if_pos rfl] at h1
            by_cases e2 : a = c
            · rw [if_pos e2] at h2 ⊢
              exact hB.trn l m n l1 m1 n1 h1 h2
            · rw [if_neg e2] at h2 ⊢
              exact h2
          · rw [if_neg e1] at h1
            by_cases e2 : b = c
            · subst e2
              rw [if_neg e1]; exact h1
            · rw [if_neg e2] at h2
              have q := hA.trn a b c a1 b1 c1 h1 h2
              by_cases e3 : a = c
              · subst e3
                exact (hA.asy a b a1 b1 h1 h2).elim
              · rw [if_neg e3]; exact q
theorem ord_false {lt : List P → List P → Bool} {A : List P → Bool} (h : ∀ l, A l = false) : Ord3 A lt where
  asy := fun a b ha => by rw [h a] at ha; cases ha
  tri := fun a b ha => by rw [h a] at ha; cases ha
  trn := fun a b c ha => by rw [h a] at ha; cases ha
theorem ord_all {t : Ty} (hA : Ord3 (P.has t) P.ltb) : Ord3 (P.hasAll t) P.ltbs := by
  have key : ∀ n : Nat, Ord3 (fun l => P.hasAll t l && decide (l.length ≤ n)) P.ltbs := by
    intro n
    induction n with
    | zero =>
      refine ord_step (B := fun _ => false) hA (ord_false fun _ => rfl) (fun _ l h => ?_) (fun a l h => ?_)
      · rw [Bool.and_eq_true, decide_eq_true_eq] at h
        exact List.eq_nil_of_length_eq_zero (by omega)
      · rw [Bool.and_eq_true, decide_eq_true_eq] at h
        simp at h
    | succ n ih =>
      have hc : ∀ a l, (P.hasAll t (a :: l) && decide ((a :: l).length ≤ n + 1)) = true → P.has t a = true ∧ (P.hasAll t l && decide (l.length ≤ n)) = true := fun a l h => by
        rw [P.hasAll, Bool.and_eq_true, Bool.and_eq_true, decide_eq_true_eq, List.length_cons] at h
        exact ⟨h.1.1, by rw [h.1.2, decide_eq_true (by omega)]; rfl⟩
      refine ⟨fun l m hl hm h1 h2 => ?_, fun l m hl hm h1 h2 => ?_, fun l m k hl hm hk h1 h2 => ?_⟩
      · exact (ord_step (C := fun l => match l with | [] => false | a :: l => P.has t a && (P.hasAll t l && decide (l.length ≤ n))) hA ih (fun z => by cases z) (fun a l h => by
          rw [Bool.and_eq_true] at h; exact h)).asy l m (by
          cases l with
          | nil => cases m with
            | nil => rw [P.ltbs] at h1; cases h1
            | cons b m => rw [P.ltbs] at h2; cases h2
          | cons a l =>
            obtain ⟨q1, q2⟩ := hc _ _ hl
            show (P.has t a && (P.hasAll t l && decide (l.length ≤ n))) = true
            rw [q1, q2]; rfl) (by
          cases m with
          | nil => cases l with
            | nil => rw [P.ltbs] at h1; cases h1
            | cons b m => rw [P.ltbs] at h1; cases h1
          | cons a l =>
            obtain ⟨q1, q2⟩ := hc _ _ hm
            show (P.has t a && (P.hasAll t l && decide (l.length ≤ n))) = true
            rw [q1, q2]; rfl) h1 h2
      · cases l with
        | nil => cases m with
          | nil => rfl
          | cons b m => rw [P.ltbs] at h1; cases h1
        | cons a l => cases m with
          | nil => rw [P.ltbs] at h2; cases h2
          | cons b m =>
            obtain ⟨a1, l1⟩ := hc _ _ hl
            obtain ⟨b1, m1⟩ := hc _ _ hm
            rw [ltbs_cons] at h1 h2
            by_cases e : a = b
            · rw [if_pos e] at h1
              rw [if_pos e.symm] at h2
              rw [e, ih.tri l m l1 m1 h1 h2]
            · rw [if_neg e] at h1
              rw [if_neg fun z => e z.symm] at h2
              exact absurd (hA.tri a b a1 b1 h1 h2) e
      · cases m with
        | nil => cases l with
          | nil => rw [P.ltbs] at h1; cases h1
          | cons a l => rw [P.ltbs] at h1; cases h1
        | cons b m => cases k with
          | nil => rw [P.ltbs] at h2; cases h2
          | cons c k => cases l with
            | nil => rw [P.ltbs]
            | cons a l =>
              obtain ⟨a1, l1⟩ := hc _ _ hl
              obtain ⟨b1, m1⟩ := hc _ _ hm
              obtain ⟨c1, n1⟩ := hc _ _ hk
              rw [ltbs_cons] at h1 h2 ⊢
              by_cases e1 : a = b
              · subst e1
                rw [if_pos rfl] at h1
                by_cases e2 : a = c
                · rw [if_pos e2] at h2 ⊢
                  exact ih.trn l m k l1 m1 n1 h1 h2
                · rw [if_neg e2] at h2 ⊢
                  exact h2
              · rw [if_neg e1] at h1
                by_cases e2 : b = c
                · subst e2
                  rw [if_neg e1]; exact h1
                · rw [if_neg e2] at h2
                  have q := hA.trn a b c a1 b1 c1 h1 h2
                  by_cases e3 : a = c
                  · subst e3
                    exact (hA.asy a b a1 b1 h1 h2).elim
                  · rw [if_neg e3]; exact q
  have up : ∀ {l : List P} {n : Nat}, P.hasAll t l = true → l.length ≤ n → (P.hasAll t l && decide (l.length ≤ n)) = true := fun h k => by rw [h, decide_eq_true k]; rfl
  refine ⟨fun l m hl hm => ?_, fun l m hl hm => ?_, fun l m k hl hm hk => ?_⟩
  · exact (key (l.length + m.length)).asy l m (up hl (by omega)) (up hm (by omega))
  · exact (key (l.length + m.length)).tri l m (up hl (by omega)) (up hm (by omega))
  · exact (key (l.length + m.length + k.length)).trn l m k (up hl (by omega)) (up hm (by omega)) (up hk (by omega))
theorem lex_trans : ∀ {a b c : List Nat}, a < b → b < c → a < c := fun h1 h2 => List.lt_trans h1 h2
theorem str_ext {x y : Str} (h : x.cps.toList = y.cps.toList) : x = y := by
  cases x; cases y
  exact congrArg Str.mk (Array.toList_inj.mp h)
theorem ord_has : ∀ t : Ty, Ord3 (P.has t) P.ltb ∧ Ord3 (P.hasEach t) P.ltbs
  | .int => by
    refine ⟨⟨fun a b ha hb h1 h2 => ?_, fun a b ha hb h1 h2 => ?_, fun a b c ha hb hc h1 h2 => ?_⟩, ord_false fun l => by cases l <;> rfl⟩
    all_goals cases a <;> first | (cases ha; done) | skip
    all_goals cases b <;> first | (cases hb; done) | skip
    · rw [P.ltb, decide_eq_true_eq] at h1 h2; omega
    · rw [P.ltb, decide_eq_false_iff_not] at h1 h2; rename_i x y; rw [show x = y by omega]
    · cases c <;> first | (cases hc; done) | skip
      rw [P.ltb, decide_eq_true_eq] at h1 h2 ⊢; omega
  | .str => by
    refine ⟨⟨fun a b ha hb h1 h2 => ?_, fun a b ha hb h1 h2 => ?_, fun a b c ha hb hc h1 h2 => ?_⟩, ord_false fun l => by cases l <;> rfl⟩
    all_goals cases a <;> first | (cases ha; done) | skip
    all_goals cases b <;> first | (cases hb; done) | skip
    · rw [P.ltb, decide_eq_true_eq] at h1 h2; exact List.lt_irrefl _ (List.lt_trans h1 h2)
    · rw [P.ltb, decide_eq_false_iff_not] at h1 h2
      rw [str_ext (List.le_antisymm (List.not_lt.mp h2) (List.not_lt.mp h1))]
    · cases c <;> first | (cases hc; done) | skip
      rw [P.ltb, decide_eq_true_eq] at h1 h2 ⊢; exact List.lt_trans h1 h2
  | .seq t => by
    have o := ord_all (ord_has t).1
    refine ⟨⟨fun a b ha hb h1 h2 => ?_, fun a b ha hb h1 h2 => ?_, fun a b c ha hb hc h1 h2 => ?_⟩, ord_false fun l => by cases l <;> rfl⟩
    all_goals cases a <;> first | (cases ha; done) | skip
    all_goals cases b <;> first | (cases hb; done) | skip
    · rw [P.ltb] at h1 h2; exact o.asy _ _ ha hb h1 h2
    · rw [P.ltb] at h1 h2; rw [o.tri _ _ ha hb h1 h2]
    · cases c <;> first | (cases hc; done) | skip
      rw [P.ltb] at h1 h2 ⊢; exact o.trn _ _ _ ha hb hc h1 h2
  | .nil => by
    have o : Ord3 (P.hasEach .nil) P.ltbs := by
      refine ⟨fun a b ha hb h1 h2 => ?_, fun a b ha hb h1 h2 => ?_, fun a b c ha hb hc h1 h2 => ?_⟩
      all_goals cases a <;> first | (cases ha; done) | skip
      all_goals cases b <;> first | (cases hb; done) | skip
      · rw [P.ltbs] at h1; cases h1
      · rfl
      · rw [P.ltbs] at h1; cases h1
    refine ⟨⟨fun a b ha hb h1 h2 => ?_, fun a b ha hb h1 h2 => ?_, fun a b c ha hb hc h1 h2 => ?_⟩, o⟩
    all_goals cases a <;> first | (cases ha; done) | skip
    all_goals cases b <;> first | (cases hb; done) | skip
    · rw [P.ltb] at h1 h2; exact o.asy _ _ ha hb h1 h2
    · rw [P.ltb] at h1 h2; rw [o.tri _ _ ha hb h1 h2]
    · cases c <;> first | (cases hc; done) | skip
      rw [P.ltb] at h1 h2 ⊢; exact o.trn _ _ _ ha hb hc h1 h2
  | .cons t r => by
    have o : Ord3 (P.hasEach (.cons t r)) P.ltbs := ord_step (ord_has t).1 (ord_has r).2 (fun z => by cases z) (fun a l h => by
      rw [P.hasEach, Bool.and_eq_true] at h; exact h)
    refine ⟨⟨fun a b ha hb h1 h2 => ?_, fun a b ha hb h1 h2 => ?_, fun a b c ha hb hc h1 h2 => ?_⟩, o⟩
    all_goals cases a <;> first | (cases ha; done) | skip
    all_goals cases b <;> first | (cases hb; done) | skip
    · rw [P.ltb] at h1 h2; exact o.asy _ _ ha hb h1 h2
    · rw [P.ltb] at h1 h2; rw [o.tri _ _ ha hb h1 h2]
    · cases c <;> first | (cases hc; done) | skip
      rw [P.ltb] at h1 h2 ⊢; exact o.trn _ _ _ ha hb hc h1 h2
/-! by insertion -/
theorem all_in {t : Ty} : ∀ {l : List P}, P.hasAll t l = true → ∀ x ∈ l, P.has t x = true
  | [], _, x, h => by cases h
  | a :: l, h, x, hx => by
    rw [P.hasAll, Bool.and_eq_true] at h
    rcases List.mem_cons.mp hx with rfl | hx
    · exact h.1
    · exact all_in h.2 x hx
theorem insB_perm {x : P} : ∀ {l : List P}, (insB x l).Perm (x :: l)
  | [] => .refl _
  | y :: l => by
    rw [insB]
    split
    · exact (insB_perm.cons y).trans (.swap x y l)
    · exact .refl _
theorem sortP_perm : ∀ {l : List P}, (sortP l).Perm l
  | [] => .refl _
  | x :: l => by
    rw [sortP]
    exact insB_perm.trans (sortP_perm.cons x)
theorem insB_sorted {t : Ty} {x : P} (hx : P.has t x = true) : ∀ {l : List P}, (∀ y ∈ l, P.has t y = true) → l.Pairwise (fun a b => P.ltb b a = false) → (insB x l).Pairwise (fun a b => P.ltb b a = false)
  | [], _, _ => List.pairwise_singleton _ _
  | y :: l, hl, h => by
    have o := (ord_has t).1
    rw [List.pairwise_cons] at h
    have hy := hl y List.mem_cons_self
    rw [insB]
    split
    · rename_i e
      rw [List.pairwise_cons]
      refine ⟨fun z hz => ?_, insB_sorted hx (fun z hz => hl z (List.mem_cons_of_mem _ hz)) h.2⟩
      rcases List.mem_cons.mp (insB_perm.mem_iff.mp hz) with rfl | hz
      · cases q : P.ltb z y with
        | false => rfl
        | true => exact (o.asy _ _ hx hy q e).elim
      · exact h.1 z hz
    · rename_i e
      rw [Bool.not_eq_true] at e
      refine List.pairwise_cons.mpr ⟨fun z hz => ?_, List.pairwise_cons.mpr h⟩
      rcases List.mem_cons.mp hz with rfl | hz
      · exact e
      · have hz' := hl z (List.mem_cons_of_mem _ hz)
        have yz := h.1 z hz
        cases q : P.ltb z x with
        | false => rfl
        | true =>
          cases q2 : P.ltb x y with
          | true => rw [o.trn _ _ _ hz' hx hy q q2] at yz; cases yz
          | false => rw [o.tri _ _ hx hy q2 e] at q; rw [q] at yz; cases yz
theorem sortP_sorted {t : Ty} : ∀ {l : List P}, (∀ y ∈ l, P.has t y = true) → (sortP l).Pairwise (fun a b => P.ltb b a = false)
  | [], _ => .nil
  | x :: l, h => by
    rw [sortP]
    exact insB_sorted (h x List.mem_cons_self) (fun y hy => h y (List.mem_cons_of_mem _ (sortP_perm.mem_iff.mp hy))) (sortP_sorted fun y hy => h y (List.mem_cons_of_mem _ hy))
theorem sortP_merge {t : Ty} {l : List P} (h : P.hasAll t l = true) : sortP l = l.mergeSort fun a b => !P.ltb b a := by
  have o := (ord_has t).1
  have hl := all_in h
  have hm : ∀ y ∈ l.mergeSort fun a b => !P.ltb b a, P.has t y = true := fun y hy => hl y ((List.mergeSort_perm l _).mem_iff.mp hy)
  have e : l.mergeSort (fun a b => !P.ltb b a) = (l.attach.mergeSort fun a b => !P.ltb b.1 a.1).map (·.1) := by
    rw [List.map_mergeSort (f := Subtype.val) (r := fun a b : {x // x ∈ l} => !P.ltb b.1 a.1) (s := fun a b => !P.ltb b a) fun a _ b _ => rfl, List.attach_map_subtype_val]
  have pw : (l.mergeSort fun a b => !P.ltb b a).Pairwise (fun a b => P.ltb b a = false) := by
    rw [e, List.pairwise_map]
    refine (List.pairwise_mergeSort (fun a b c h1 h2 => ?_) (fun a b => ?_) l.attach).imp fun {a b} h => by simpa using h
    · simp only [Bool.not_eq_true'] at *
      have a1 := hl a.1 a.2
      have b1 := hl b.1 b.2
      have c1 := hl c.1 c.2
      cases q : P.ltb c.1 a.1 with
      | false => rfl
      | true =>
        cases q2 : P.ltb a.1 b.1 with
        | true => rw [o.trn _ _ _ c1 a1 b1 q q2] at h2; cases h2
        | false => rw [o.tri _ _ a1 b1 q2 h1, h2] at q; cases q
    · cases q : P.ltb b.1 a.1 with
      | false => rfl
      | true =>
        cases q2 : P.ltb a.1 b.1 with
        | false => simp
        | true => exact (o.asy _ _ (hl a.1 a.2) (hl b.1 b.2) q2 q).elim
  refine List.Perm.eq_of_pairwise (le := fun a b => P.ltb b a = false) (fun a b ha hb h1 h2 => ?_) (sortP_sorted hl) pw (sortP_perm.trans (List.mergeSort_perm l _).symm)
  exact o.tri a b (hl a (sortP_perm.mem_iff.mp ha)) (hm b hb) h2 h1
end Ev

set_option Elab.async false
set_option linter.all false
set_option maxRecDepth 100000
namespace Ev
open PySem

/-- what is told of an error: a word, or words ahead of its number -/
inductive Tell where
  | txt (x : P) | pre (x : Str)
deriving DecidableEq
def wordOf (tab : List (Nat × Tell)) (c : Nat) (fs : List P) : Option P := match tab.lookup c, fs with
  | some (.txt x), [] => some x
  | some (.pre x), [.int i] => if decide (i.natAbs.log2 < 1920) && decide (x.length + (Str.ofString (toString i)).length ≤ 1000) then some (.str (x ++ Str.ofString (toString i))) else none
  | _, _ => none
mutual
inductive E where
  | var (i : Nat) | lit (x : P) | gc (x : P) (nm : Str) | glo (g : Nat)
  | tup (es : Es) | un (o : U) (e : E) | bin (o : B) (a b : E)
  | get1 (d k : E) | get2 (d k x : E) | slc (e : E) (lo hi : Oe)
  | ife (t : T) (a b : E) | tv (t : T)
  | frz (l : L) | new (l : L) | frzM (m : M) | newM (m : M)
  | call (g : Nat) (es : Es) | callv (i : Nat) (es : Es)
  | pop (i : Nat) | mx (mn : Bool) (t : Ty) (e : E) | idxOf (e x : E) | cnt (e x : E)
  | fld (i : Nat) (f : Str) | rngv (e : E) | fz (i : Nat) | rev (e : E) | word (g : Nat) (okv : P) (tab : List (Nat × Tell)) (e : E)
inductive Es where
  | nil | cons (e : E) (es : Es)
inductive Oe where
  | none | some (e : E)
inductive T where
  | cmp (c : C) (a b : E) | chain (c c' : C) (a b d : E) | not (t : T) | and (a b : T) | or (a b : T) | tru (e : E) | emp (b : Bool) (e : E)
inductive To where
  | yes | if1 (t : T)
inductive L where
  | disp (es : Es)
  | comp (vs : List Nat) (tg : G) (it : I) (ifs : To) (elt : E)
  | comp2 (vs : List Nat) (tg : G) (it : I) (ifs : To) (vs1 : List Nat) (tg1 : G) (it1 : I) (ifs1 : To) (elt : E)
  | ofE (e : E) | ofR (i : I) | sorted (t : Ty) (e : E) | cat (a b : E) | rep (a k : E) | slc (e : E) (lo hi : Oe) | vals (e : E)
  | sortset (t : Ty) (e : E) | sortI (t : Ty) (e : E) | sortV (t : Ty) (e : E) | sumL (e : E) | rev (e : E)
inductive M where
  | disp (ks vs : Es)
  | comp (vs : List Nat) (tg : G) (it : I) (ifs : To) (k v : E)
  | comp2 (vs : List Nat) (tg : G) (it : I) (ifs : To) (vs1 : List Nat) (tg1 : G) (it1 : I) (ifs1 : To) (k v : E)
inductive I where
  | ex (e : E) | rng1 (e : E) | rng2 (a b : E) | enum (e : E) | zip (a b : E) | items (e : E)
inductive G where
  | name (i : Nat) | tup (gs : Gs)
inductive Gs where
  | nil | cons (g : G) (gs : Gs)
end
/-- how many turns a while may take -/
inductive Mz where
  | const (n : Nat) | slot (i : Nat)
mutual
inductive S where
  | asg (i : Nat) (e : E) | mv (i j : Nat) | unp (gs : Gs) (e : E) | par (is : List Nat) (es : Es)
  | put (i : Nat) (k v : E) | app (i : Nat) (e : E) | upd (i : Nat) (m : M) | fld (i : Nat) (f : Str) (e : E)
  | ex (e : E) | ret (e : E) | retv (i : Nat) | retN
  | ife (t : T) (a b : Ss) | fo (g : G) (it : I) (b : Ss) | whl (m : Mz) (t : T) (b : Ss)
  | raise (c : Nat) (es : Es) | skip | never
inductive Ss where
  | nil | cons (s : S) (ss : Ss)
end

inductive Fl where
  | next (r : En) | ret (d : D)

def wipeE (r : En) : List Nat → En
  | [] => r
  | v :: vs => (wipeE r vs).set v none
mutual
def asgG : G → P → En → Option En
  | .name i, x, r => if i < r.length then some (r.set i (some (.p x))) else none
  | .tup gs, .tup l, r => asgGs gs l r
  | .tup _, _, _ => none
def asgGs : Gs → List P → En → Option En
  | .nil, [], r => some r
  | .cons g gs, x :: l, r => match asgG g x r with | some r' => asgGs gs l r' | none => none
  | _, _, _ => none
end
def compGo (f : P → St → R (List P)) : List P → St → R (List P)
  | [], s => .ok [] s
  | x :: xs, s => (f x s).bind fun o s1 => (compGo f xs s1).bind fun l s2 => .ok (o ++ l) s2
def dictGo (f : P → List P → List P → St → R (List P × List P)) : List P → List P → List P → St → R (List P × List P)
  | [], ks, vs, s => .ok (ks, vs) s
  | x :: xs, ks, vs, s => (f x ks vs s).bind fun kv s1 => dictGo f xs kv.1 kv.2 s1
def forGo (f : P → En → St → R Fl) : List P → En → St → R Fl
  | [], r, s => .ok (.next r) s
  | x :: xs, r, s => (f x r s).bind fun fl s1 => match fl with
    | .next r1 => forGo f xs r1 s1
    | .ret d => .ok (.ret d) s1
def whlGo (c : En → St → R Bool) (b : En → St → R Fl) : Nat → En → St → R Fl
  | 0, _, _ => .bad
  | n + 1, r, s => (c r s).bind fun t s1 => if t then (b r s1).bind fun fl s2 => match fl with
      | .next r1 => whlGo c b n r1 s2
      | .ret d => .ok (.ret d) s2
    else .ok (.next r) s1
def mzOf (r : En) : Mz → Nat
  | .const n => n
  | .slot i => match r[i]? with | some (some (.p (.int k))) => k.toNat + 1 | _ => 0
def firstMin (mn : Bool) : P → List P → P
  | m, [] => m
  | m, x :: l => if (if mn then P.ltb x m else P.ltb m x) then firstMin mn x l else firstMin mn m l
def idxP (x : P) : Nat → List P → Option Int
  | _, [] => none
  | i, y :: l => if P.beq y x then some i else idxP x (i + 1) l
def pairsP : List P → List P → List P
  | a :: l, b :: m => .tup [a, b] :: pairsP l m
  | _, _ => []
def enumP : Nat → List P → List P
  | _, [] => []
  | i, a :: l => .tup [.int i, a] :: enumP (i + 1) l
def rngP (lo hi : Int) : List P := (List.range (hi - lo).toNat).map fun (i : Nat) => P.int (lo + (i : Int))
def rngOk (lo hi : Int) : Bool := decide (-(2 ^ 62) ≤ lo) && decide (lo < 2 ^ 62) && decide (-(2 ^ 62) ≤ hi) && decide (hi < 2 ^ 62) && decide ((hi - lo).toNat ≤ big)
/-- what is walked -/
def itemsOf : P → Option (List P)
  | .tup l => some l
  | .lst l => some l
  | .rng lo hi => if rngOk lo hi then some (rngP lo hi) else none
  | _ => none
/-- all immutable -/
def perss : List D → Option (List P)
  | [] => some []
  | .p x :: ds => match perss ds with | some xs => some (x :: xs) | none => none
  | _ => none
def noObj (n : Nat) (r : En) : Bool := r.all fun o => match o with | some (.obj m) => !(m == n) | _ => true

section
variable (cf : Nat → List D → St → R D) (k0 : Nat)
mutual
def evE : E → En → St → R D
  | .var i, r, s => match r[i]? with | some (some d) => .ok d s | _ => .bad
  | .lit x, _, s => .ok (.p x) s
  | .gc x _, _, s => .ok (.p x) s
  | .glo g, _, s => .ok (.p (.glo g)) s
  | .tup es, r, s => (evEs es r s).bind fun ds s1 => match perss ds with | some xs => .ok (.p (.tup xs)) s1 | none => .bad
  | .un o e, r, s => (evE e r s).bind fun d s1 => match view s1 d with
    | some x => (match evU o x with | some y => .ok (.p y) s1 | none => .bad)
    | none => .bad
  | .bin o a b, r, s => (evE a r s).bind fun d s1 => (evE b r s1).bind fun d' s2 => match view s2 d, view s2 d' with
    | some x, some y => (match evB o x y with | some z => .ok (.p z) s2 | none => .bad)
    | _, _ => .bad
  | .get1 a b, r, s => (evE a r s).bind fun d s1 => match view s1 d with
    | some (.dct _ _) => (evE b r s1).bind fun d' s2 => (match view s2 d, d' with
      | some (.dct ks vs), .p k => if keyOk ks k then .ok (.p ((dget ks vs k).getD .non)) s2 else .bad
      | _, _ => .bad)
    | _ => .bad
  | .get2 a b c, r, s => (evE a r s).bind fun d s1 => match view s1 d with
    | some (.dct _ _) => (evE b r s1).bind fun d' s2 => (evE c r s2).bind fun d'' s3 => (match view s3 d, d', d'' with
      | some (.dct ks vs), .p k, .p x => if keyOk ks k then .ok (.p ((dget ks vs k).getD x)) s3 else .bad
      | _, _, _ => .bad)
    | _ => .bad
  | .slc e lo hi, r, s => (evE e r s).bind fun d s1 => (evO lo r s1).bind fun l s2 => (evO hi r s2).bind fun h s3 => match view s3 d with
    | some (.tup xs) => .ok (.p (.tup (cutP xs l h))) s3
    | _ => .bad
  | .ife t a b, r, s => (evT t r s).bind fun c s1 => if c then evE a r s1 else evE b r s1
  | .tv t, r, s => (evT t r s).bind fun c s1 => .ok (.p (.bl c)) s1
  | .frz l, r, s => (evL l r s).bind fun xs s1 => .ok (.p (.lst xs)) s1
  | .new l, r, s => (evL l r s).bind fun xs s1 => .ok (.obj s1.length) (s1 ++ [.lst xs])
  | .frzM m, r, s => (evM m r s).bind fun kv s1 => .ok (.p (.dct kv.1 kv.2)) s1
  | .newM m, r, s => (evM m r s).bind fun kv s1 => .ok (.obj s1.length) (s1 ++ [.dct kv.1 kv.2])
  | .call g es, r, s => (evEs es r s).bind fun ds s1 => cf g ds s1
  | .callv i es, r, s => match r[i]? with
    | some (some (.p (.glo g))) => (R.noexc (evEs es r s)).bind fun ds s1 => cf g ds s1
    | _ => .bad
  | .pop i, r, s => match r[i]? with
    | some (some (.obj n)) => (match s[n]? with
      | some (.lst l) => (match l[l.length - 1]? with | some x => .ok (.p x) (s.set n (.lst l.dropLast)) | none => .bad)
      | _ => .bad)
    | _ => .bad
  | .mx mn t e, r, s => (evE e r s).bind fun d s1 => match view s1 d with
    | some (.lst (x :: l)) => if P.hasAll t (x :: l) && srtOk t then .ok (.p (firstMin mn x l)) s1 else .bad
    | some (.tup (x :: l)) => if P.hasAll t (x :: l) && srtOk t then .ok (.p (firstMin mn x l)) s1 else .bad
    | _ => .bad
  | .idxOf a b, r, s => (evE a r s).bind fun d s1 => match view s1 d with
    | some (.lst _) => (evE b r s1).bind fun d' s2 => (match view s2 d, d' with
      | some (.lst l), .p (.int z) => if P.hasAll .int l then (match idxP (.int z) 0 l with | some i => .ok (.p (.int i)) s2 | none => .bad) else .bad
      | _, _ => .bad)
    | _ => .bad
  | .cnt a b, r, s => (evE a r s).bind fun d s1 => match view s1 d with
    | some (.lst _) => (evE b r s1).bind fun d' s2 => (match view s2 d, view s2 d' with
      | some (.lst l), some x => (match cntP x l with | some n => .ok (.p (.int (n : Nat))) s2 | none => .bad)
      | _, _ => .bad)
    | _ => .bad
  | .fld i f, r, s => match r[i]? with
    | some (some (.obj n)) => (match s[n]? with
      | some (.ins c fs) => (match fs.lookup f with | some x => .ok (.p x) s | none => .bad)
      | _ => .bad)
    | _ => .bad
  | .rngv e, r, s => (evE e r s).bind fun d s1 => match d with
    | .p (.int n) => if rngOk 0 n then .ok (.p (.rng 0 n)) s1 else .bad
    | _ => .bad
  | .fz i, r, s => match r[i]? with
    | some (some (.obj n)) => (match view s (.obj n) with | some x => .ok (.p x) (s.set n .gone) | none => .bad)
    | _ => .bad
  | .rev e, r, s => (evE e r s).bind fun d s1 => match view s1 d with
    | some (.tup l) => .ok (.p (.tup l.reverse)) s1
    | _ => .bad
  | .word _ okv tab e, r, s => match evE e r s with
    | .ok _ s1 => .ok (.p okv) (s1.take s.length)
    | .exc c fs s1 => (match wordOf tab c fs with | some x => .ok (.p x) (s1.take s.length) | none => .bad)
    | .bad => .bad
def evEs : Es → En → St → R (List D)
  | .nil, _, s => .ok [] s
  | .cons e es, r, s => (evE e r s).bind fun d s1 => (evEs es r s1).bind fun ds s2 => .ok (d :: ds) s2
def evO : Oe → En → St → R (Option Int)
  | .none, _, s => .ok none s
  | .some e, r, s => (evE e r s).bind fun d s1 => match d with | .p (.int i) => .ok (some i) s1 | _ => .bad
def evT : T → En → St → R Bool
  | .cmp c a b, r, s => (evE a r s).bind fun d s1 => (evE b r s1).bind fun d' s2 => match view s2 d, view s2 d' with
    | some x, some y => (match evC c x y with | some z => .ok z s2 | none => .bad)
    | _, _ => .bad
  | .chain c c' a b e, r, s => (evE a r s).bind fun d s1 => (evE b r s1).bind fun d' s2 => match d, d' with
    | .p x, .p y => (match evC c x y with
      | some true => (evE e r s2).bind fun d'' s3 => (match d'' with
        | .p z => (match evC c' y z with | some q => .ok q s3 | none => .bad)
        | _ => .bad)
      | some false => .ok false s2
      | none => .bad)
    | _, _ => .bad
  | .not t, r, s => (evT t r s).bind fun c s1 => .ok (!c) s1
  | .and a b, r, s => (evT a r s).bind fun c s1 => if c then evT b r s1 else .ok false s1
  | .or a b, r, s => (evT a r s).bind fun c s1 => if c then .ok true s1 else evT b r s1
  | .tru e, r, s => (evE e r s).bind fun d s1 => match d with | .p (.bl b) => .ok b s1 | _ => .bad
  | .emp b e, r, s => (evE e r s).bind fun d s1 => match view s1 d with
    | some (.dct ks _) => .ok (ks.isEmpty == b) s1
    | _ => .bad
def evTo : To → En → St → R Bool
  | .yes, _, s => .ok true s
  | .if1 t, r, s => evT t r s
def evL : L → En → St → R (List P)
  | .disp es, r, s => (evEs es r s).bind fun ds s1 => match perss ds with | some xs => .ok xs s1 | none => .bad
  | .comp vs tg it ifs elt, r, s => ((evI it r s).bind fun xs s1 => compGo (fun x s2 => match asgG tg x (wipeE r vs) with
      | some r1 => (R.noexc (evTo ifs r1 s2)).bind fun c s3 => if c then (R.noexc (evE elt r1 s3)).bind fun d s4 => (match d with | .p y => .ok [y] s4 | _ => .bad) else .ok [] s3
      | none => .bad) xs s1).bind fun l s2 => if decide (l.length ≤ big) then .ok l s2 else .bad
  | .comp2 vs tg it ifs vs1 tg1 it1 ifs1 elt, r, s => ((evI it r s).bind fun xs s1 => compGo (fun x s2 => match asgG tg x (wipeE r vs) with
      | some r1 => (R.noexc (evTo ifs r1 s2)).bind fun c s3 => if c then (R.noexc (evI it1 r1 s3)).bind fun ys s4 => compGo (fun y s5 => match asgG tg1 y (wipeE r1 vs1) with
          | some r2 => (R.noexc (evTo ifs1 r2 s5)).bind fun c s6 => if c then (R.noexc (evE elt r2 s6)).bind fun d s7 => (match d with | .p z => .ok [z] s7 | _ => .bad) else .ok [] s6
          | none => .bad) ys s4 else .ok [] s3
      | none => .bad) xs s1).bind fun l s2 => if decide (l.length ≤ big) then .ok l s2 else .bad
  | .ofE e, r, s => (evE e r s).bind fun d s1 => match view s1 d with
    | some (.lst l) => .ok l s1
    | some (.tup l) => .ok l s1
    | some (.dct ks _) => .ok ks s1
    | _ => .bad
  | .ofR i, r, s => evI i r s
  | .sorted t e, r, s => (evE e r s).bind fun d s1 => match view s1 d with
    | some (.lst l) => if P.hasAll t l && srtOk t then .ok (sortP l) s1 else .bad
    | some (.dct ks _) => if P.hasAll t ks && srtOk t then .ok (sortP ks) s1 else .bad
        | _ => .bad
  | .cat a b, r, s => (evE a r s).bind fun d s1 => (evE b r s1).bind fun d' s2 => match view s2 d, view s2 d' with
    | some (.lst l), some (.lst m) => if decide (l.length + m.length ≤ big) then .ok (l ++ m) s2 else .bad
    | _, _ => .bad
  | .rep a b, r, s => (evE a r s).bind fun d s1 => (evE b r s1).bind fun d' s2 => match view s2 d, d' with
    | some (.lst l), .p (.int k) => if decide (0 ≤ k) && decide (k ≤ 1000) && decide (l.length ≤ 1000) then .ok (List.replicate k.toNat l).flatten s2 else .bad
    | _, _ => .bad
  | .slc e lo hi, r, s => (evE e r s).bind fun d s1 => (evO lo r s1).bind fun l s2 => (evO hi r s2).bind fun h s3 => match view s3 d with
    | some (.lst xs) => .ok (cutP xs l h) s3
    | _ => .bad
  | .vals e, r, s => (evE e r s).bind fun d s1 => match view s1 d with
    | some (.dct _ vs) => .ok vs s1
    | _ => .bad
  | .sortset t e, r, s => (evE e r s).bind fun d s1 => match view s1 d with
    | some (.lst l) => if setTy t && P.hasAll t l && decide (l.length ≤ 60) then .ok (sortP (dedupP l)) s1 else .bad
    | _ => .bad
  | .sortI t e, r, s => (evE e r s).bind fun d s1 => match view s1 d with
    | some (.dct ks vs) => if P.hasAll t (pairsP ks vs) && srtOk t then .ok (sortP (pairsP ks vs)) s1 else .bad
    | _ => .bad
  | .sortV t e, r, s => (evE e r s).bind fun d s1 => match view s1 d with
    | some (.dct _ vs) => if P.hasAll t vs && srtOk t then .ok (sortP vs) s1 else .bad
    | _ => .bad
  | .sumL e, r, s => (evE e r s).bind fun d s1 => match view s1 d with
    | some (.lst l) => (match catL l with | some xs => if decide (xs.length ≤ big) then .ok xs s1 else .bad | none => .bad)
    | _ => .bad
  | .rev e, r, s => (evE e r s).bind fun d s1 => match view s1 d with
    | some (.lst l) => .ok l.reverse s1
    | _ => .bad
def evM : M → En → St → R (List P × List P)
  | .disp .nil .nil, r, s => .ok ([], []) s
  | .disp (.cons k .nil) (.cons v .nil), r, s => (R.noexc (evE k r s)).bind fun d s1 => (R.noexc (evE v r s1)).bind fun d' s2 => match d, d' with
    | .p y, .p z => if keyOk [] y then .ok ([y], [z]) s2 else .bad
    | _, _ => .bad
  | .disp _ _, r, s => .bad
  | .comp vs tg it ifs k v, r, s => (evI it r s).bind fun xs s1 => dictGo (fun x ks ws s2 => match asgG tg x (wipeE r vs) with
      | some r1 => (R.noexc (evTo ifs r1 s2)).bind fun c s3 => if c then (R.noexc (evE k r1 s3)).bind fun d s4 => (R.noexc (evE v r1 s4)).bind fun d' s5 => (match d, d' with
          | .p y, .p z => if keyOk ks y && decide (ks.length < big) then .ok (dputK ks y, dputV ks ws y z) s5 else .bad
          | _, _ => .bad) else .ok (ks, ws) s3
      | none => .bad) xs [] [] s1
  | .comp2 vs tg it ifs vs1 tg1 it1 ifs1 k v, r, s => (evI it r s).bind fun xs s1 => dictGo (fun x ks ws s2 => match asgG tg x (wipeE r vs) with
      | some r1 => (R.noexc (evTo ifs r1 s2)).bind fun c s3 => if c then (R.noexc (evI it1 r1 s3)).bind fun ys s4 => dictGo (fun x1 ks ws s5 => match asgG tg1 x1 (wipeE r1 vs1) with
          | some r2 => (R.noexc (evTo ifs1 r2 s5)).bind fun c s6 => if c then (R.noexc (evE k r2 s6)).bind fun d s7 => (R.noexc (evE v r2 s7)).bind fun d' s8 => (match d, d' with
              | .p y, .p z => if keyOk ks y && decide (ks.length < big) then .ok (dputK ks y, dputV ks ws y z) s8 else .bad
              | _, _ => .bad) else .ok (ks, ws) s6
          | none => .bad) ys ks ws s4 else .ok (ks, ws) s3
      | none => .bad) xs [] [] s1
def evI : I → En → St → R (List P)
  | .ex e, r, s => (evE e r s).bind fun d s1 => match d with
    | .p x => (match itemsOf x with | some l => .ok l s1 | none => .bad)
    | _ => .bad
  | .rng1 e, r, s => (evE e r s).bind fun d s1 => match d with
    | .p (.int n) => if rngOk 0 n then .ok (rngP 0 n) s1 else .bad
    | _ => .bad
  | .rng2 a b, r, s => (evE a r s).bind fun d s1 => (evE b r s1).bind fun d' s2 => match d, d' with
    | .p (.int i), .p (.int j) => if rngOk i j then .ok (rngP i j) s2 else .bad
    | _, _ => .bad
  | .enum e, r, s => (evE e r s).bind fun d s1 => match d with
    | .p (.lst l) => .ok (enumP 0 l) s1
    | .p (.tup l) => .ok (enumP 0 l) s1
    | _ => .bad
  | .zip a b, r, s => (evE a r s).bind fun d s1 => (evE b r s1).bind fun d' s2 => match d, d' with
    | .p (.lst l), .p (.lst m) => .ok (pairsP l m) s2
    | .p (.tup l), .p (.tup m) => .ok (pairsP l m) s2
    | .p (.tup l), .p (.lst m) => .ok (pairsP l m) s2
    | _, _ => .bad
  | .items e, r, s => (evE e r s).bind fun d s1 => match d with
    | .p (.dct ks vs) => .ok (pairsP ks vs) s1
    | _ => .bad
end
end
end Ev

set_option Elab.async false
set_option linter.all false
set_option maxRecDepth 100000
namespace Ev
open PySem

def setAll : List Nat → List D → En → Option En
  | [], [], r => some r
  | i :: is, d :: ds, r => if i < r.length then setAll is ds (r.set i (some d)) else none
  | _, _, _ => none
def putF (f : Str) (x : P) : List (Str × P) → List (Str × P)
  | [] => [(f, x)]
  | (g, y) :: l => if g = f then (g, x) :: l else (g, y) :: putF f x l
section
variable (cf : Nat → List D → St → R D) (k0 : Nat)
mutual
def evS : S → En → St → R Fl
  | .asg i e, r, s => (evE cf e r s).bind fun d s1 => if i < r.length then .ok (.next (r.set i (some d))) s1 else .bad
  | .mv i j, r, s => match r[j]? with
    | some (some (.obj n)) => if n + 1 = s.length ∧ k0 ≤ n ∧ i < r.length ∧ i ≠ j ∧ noObj n (r.set j none) = true then
        (match view s (.obj n) with
          | some x => .ok (.next ((r.set j none).set i (some (.p x)))) s.dropLast
          | none => .bad)
      else .bad
    | _ => .bad
  | .unp gs e, r, s => (evE cf e r s).bind fun d s1 => match d with
    | .p (.tup l) => (match asgGs gs l r with | some r1 => .ok (.next r1) s1 | none => .bad)
    | _ => .bad
  | .par is es, r, s => (evEs cf es r s).bind fun ds s1 => match setAll is ds r with
    | some r1 => .ok (.next r1) s1
    | none => .bad
  | .put i k v, r, s => (evE cf v r s).bind fun d s1 => match r[i]?, d with
    | some (some (.obj n)), .p x => (evE cf k r s1).bind fun d' s2 => (match s2[n]?, d' with
      | some (.lst l), .p (.int z) => (match ixN l.length z with | some j => .ok (.next r) (s2.set n (.lst (l.set j x))) | none => .bad)
      | some (.dct ks vs), .p y => if keyOk ks y && decide (ks.length < big) then .ok (.next r) (s2.set n (.dct (dputK ks y) (dputV ks vs y x))) else .bad
      | _, _ => .bad)
    | _, _ => .bad
  | .app i e, r, s => match r[i]? with
    | some (some (.obj n)) => (match s[n]? with
      | some (.lst _) => (evE cf e r s).bind fun d s1 => (match s1[n]?, d with
        | some (.lst l), .p x => if decide (l.length < big) then .ok (.next r) (s1.set n (.lst (l ++ [x]))) else .bad
        | _, _ => .bad)
      | _ => .bad)
    | _ => .bad
  | .upd i m, r, s => .bad
  | .fld i f e, r, s => (evE cf e r s).bind fun d s1 => match r[i]?, d with
    | some (some (.obj n)), .p x => (match s1[n]? with
      | some (.ins c fs) => if decide (fs.length < 1000) then .ok (.next r) (s1.set n (.ins c (putF f x fs))) else .bad
      | _ => .bad)
    | _, _ => .bad
  | .ex e, r, s => (evE cf e r s).bind fun _ s1 => .ok (.next r) s1
  | .ret e, r, s => (evE cf e r s).bind fun d s1 => .ok (.ret d) s1
  | .retv i, r, s => match r[i]? with
    | some (some (.obj n)) => if k0 ≤ n then (match view s (.obj n) with
        | some x => .ok (.ret (.p x)) (s.set n .gone)
        | none => .bad) else .bad
    | _ => .bad
  | .retN, _, s => .ok (.ret (.p .non)) s
  | .ife t a b, r, s => (evT cf t r s).bind fun c s1 => if c then evSs a r s1 else evSs b r s1
  | .fo g it b, r, s => (evI cf it r s).bind fun xs s1 => forGo (fun x r1 s2 => match asgG g x r1 with
      | some r2 => evSs b r2 s2
      | none => .bad) xs r s1
  | .whl m t b, r, s => whlGo (fun r1 s1 => evT cf t r1 s1) (fun r1 s1 => evSs b r1 s1) (mzOf r m) r s
  | .raise c es, r, s => (evEs cf es r s).bind fun ds s1 => match perss ds with | some xs => .exc c xs s1 | none => .bad
  | .skip, r, s => .ok (.next r) s
  | .never, _, _ => .bad
def evSs : Ss → En → St → R Fl
  | .nil, r, s => .ok (.next r) s
  | .cons a b, r, s => (evS a r s).bind fun fl s1 => match fl with
    | .next r1 => evSs b r1 s1
    | .ret d => .ok (.ret d) s1
end
end

structure Fn where
  np : Nat
  ns : Nat
  body : Ss
/-- a def's end: what it made is forgotten, but for what it hands back -/
def leave (k0 : Nat) : R Fl → R D
  | .ok (.ret (.p x)) s => .ok (.p x) (s.take k0)
  | .ok (.ret (.obj n)) s => if n < k0 then .ok (.obj n) (s.take k0) else (match s[n]? with
    | some o => .ok (.obj k0) (s.take k0 ++ [o])
    | none => .bad)
  | .ok (.next _) s => .ok (.p .non) (s.take k0)
  | .exc c fs s => .exc c fs (s.take k0)
  | .bad => .bad
def enter (f : Fn) (as : List D) : En := as.map some ++ List.replicate (f.ns - as.length) none
def callN (Tb : List Fn) : Nat → Nat → List D → St → R D
  | 0, _, _, _ => .bad
  | n + 1, g, as, s => match Tb[g]? with
    | some f => if as.length = f.np then leave s.length (evSs (callN Tb n) s.length f.body (enter f as) s) else .bad
    | none => .bad
end Ev

set_option Elab.async false
set_option linter.all false
set_option maxRecDepth 100000
/-! Ev: what a deep value is in the layer's abstract heap. -/
namespace Ev
open PySem PySem.Spec PyProof.Rows L2

/-- what stays as it is -/
def Im : HO → Prop
  | .tup _ => True | .frz _ _ => True | .rng _ _ => True | _ => False
def Keep (H H' : Hp) : Prop := ∀ b o, H b = some o → Im o → H' b = some o
theorem Keep.refl (H : Hp) : Keep H H := fun _ _ h _ => h
theorem Keep.trans {H H1 H2 : Hp} (a : Keep H H1) (b : Keep H1 H2) : Keep H H2 := fun c o h i => b c o (a c o h i) i
theorem Keep.new {H : Hp} {p : Addr} (o : HO) (h : H p = none) : Keep H (upd H p o) := fun b u e _ => by rw [upd_ne (ne_of_none e h)]; exact e
theorem Keep.mut {H : Hp} {p : Addr} {u : HO} (o : HO) (h : H p = some u) (n : ¬ Im u) : Keep H (upd H p o) := fun b w e i => by
  have : b ≠ p := fun z => by subst z; rw [h] at e; cases e; exact n i
  rw [upd_ne this]; exact e
/-- a list that stays: frozen -/
def ImL (H : Hp) (a : Addr) (xs : List V) : Prop := ∃ o, H a = some (.frz o (.lst xs))
theorem ImL.sq {H : Hp} {a : Addr} {xs : List V} (h : ImL H a xs) : Rd H a (.lst xs) := .inr h
theorem ImL.keep {H H' : Hp} {a : Addr} {xs : List V} (h : ImL H a xs) (k : Keep H H') : ImL H' a xs := let ⟨o, e⟩ := h; ⟨o, k _ _ e trivial⟩
theorem ImL.of {H : Hp} {a : Addr} {ob : Obj} {xs : List V} (h : H a = some (.frz ob (.lst xs))) : ImL H a xs := ⟨ob, h⟩

/-- a key of the layer's flat dicts -/
def RK : P → Key → Prop
  | .int i, .inl j => i = j
  | .str x, .inr y => x = y
  | _, _ => False
/-- the static facts: the written part, the defs' addresses -/
structure Gc where
  P : Program
  w : World
  K : PySem.W.Frag
  ga : List Addr
  tbs : List (Addr × Str) := []
mutual
/-- a key as the library has it -/
def nk : P → Option NestedKey
  | .non => some .none
  | .int i => some (.num i)
  | .str x => some (.text x)
  | .tup l => match nks l with | some ks => some (.tup ks) | none => none
  | _ => none
def nks : List P → Option (List NestedKey)
  | [] => some []
  | a :: l => match nk a with
    | some k => match nks l with | some ks => some (k :: ks) | none => none
    | none => none
end
/-- the object of a dict whose keys are tuples, as it stands -/
def DX (C : Gc) (a : Addr) (xs : List (NestedKey × Addr × Value)) : HO := .ext fun h =>
  ∃ o es ep, h.get? a = some o ∧ o.ExactDict ∧ o.data = .dict es ep ∧ es.toList = xs.map (entryOfKey (nestedKind C.P C.w))
section
variable (C : Gc) (H : Hp)
mutual
def RP : P → V → Prop
  | .non, v => v = .non
  | .bl b, v => v = .bl b
  | .int i, v => v = .int i
  | .str x, v => v = .str x
  | .tup l, v => ∃ a xs, v = .ref a ∧ H a = some (.tup xs) ∧ RPs l xs
  | .lst l, v => ∃ a xs, v = .ref a ∧ ImL H a xs ∧ RPs l xs
  | .dct ks vs, v => ∃ a o u, v = .ref a ∧ H a = some (.frz o u) ∧ ((∃ kvs : List (Key × V), u = .dK kvs ∧ Paired RK ks (kvs.map (·.1)) ∧ RPs vs (kvs.map (·.2))) ∨
      ∃ (xs : List (NestedKey × Addr × Value)) (ws : List V), ks ≠ [] ∧ u = DX C a xs ∧ xs.length ≤ sizeLine ∧ (a == sysModules) = false ∧ (xs.map (·.1)).Nodup ∧ Vals ws (xs.map (·.2.2)) ∧ nks ks = some (xs.map (·.1)) ∧ P.areKeys 8 ks = true ∧ RPs ks (xs.map fun x => .ref x.2.1) ∧ RPs vs ws)
  | .rng lo hi, v => ∃ a, v = .ref a ∧ H a = some (.rng lo hi)
  | .glo g, v => ∃ a, C.ga[g]? = some a ∧ v = .ref a
def RPs : List P → List V → Prop
  | [], vs => vs = []
  | x :: l, vs => ∃ v r, vs = v :: r ∧ RP x v ∧ RPs l r
end
/-- a dict's content at a -/
def RDc (a : Addr) (ks vs : List P) (u : HO) : Prop := (∃ kvs : List (Key × V), u = .dK kvs ∧ Paired RK ks (kvs.map (·.1)) ∧ RPs C H vs (kvs.map (·.2))) ∨
      ∃ (xs : List (NestedKey × Addr × Value)) (ws : List V), ks ≠ [] ∧ u = DX C a xs ∧ xs.length ≤ sizeLine ∧ (a == sysModules) = false ∧ (xs.map (·.1)).Nodup ∧ Vals ws (xs.map (·.2.2)) ∧ nks ks = some (xs.map (·.1)) ∧ P.areKeys 8 ks = true ∧ RPs C H ks (xs.map fun x => .ref x.2.1) ∧ RPs C H vs ws
def RD (μ : List Addr) : D → V → Prop
  | .p x, v => RP C H x v
  | .obj n, v => ∃ a, μ[n]? = some a ∧ v = .ref a
def RDs (μ : List Addr) : List D → List V → Prop := Paired (RD C H μ)
/-- what stands at a place of the store -/
def ObR (a : Addr) : Ob → Prop
  | .lst l => ∃ xs, H a = some (.lst xs) ∧ RPs C H l xs
  | .dct ks vs => ∃ u, H a = some u ∧ RDc C H a ks vs u
  | .ins c fs => ∃ dx A vs, C.ga[c]? = some A ∧ H a = some (.ins A dx vs) ∧ fs.map (·.1) = vs.map (·.1) ∧ RPs C H (fs.map (·.2)) (vs.map (·.2))
  | .gone => ∃ od u, H a = some (.frz od u)
/-- the tables of code objects: whose names they tell; none of it is of the store -/
def TabO (μ : List Addr) : Prop := ∀ p ∈ C.tbs, ∃ ps : Array Value, H p.1 = some (.tbl ps) ∧ TriplesOk ps.toList ∧ p.1 ∉ μ ∧ ∀ (pos : Pos) (cv : Value), codeAmong pos ps.toList = some cv → ∃ c, cv = .ref c ∧ H c = some (LamX.CodeO c p.2) ∧ c ∉ μ
structure Wd (μ : List Addr) (st : St) : Prop where
  len : μ.length = st.length
  nd : μ.Nodup
  tab : TabO C H μ
  at_ : ∀ (n : Nat) (a : Addr) (o : Ob), μ[n]? = some a → st[n]? = some o → ObR C H a o
structure REn (μ : List Addr) (r : En) (σ : L2.St) : Prop where
  len : r.length = σ.length
  at_ : ∀ (i : Nat) (d : D), r[i]? = some (some d) → ∃ v, σ[i]? = some (some v) ∧ RD C H μ d v
end
section
variable {C : Gc} {H H' : Hp}
mutual
theorem RP.keep (k : Keep H H') : ∀ (x : P) (v : V), RP C H x v → RP C H' x v
  | .non, _, h => by simpa [RP] using h
  | .bl _, _, h => by simpa [RP] using h
  | .int _, _, h => by simpa [RP] using h
  | .str _, _, h => by simpa [RP] using h
  | .tup l, v, h => by
    rw [RP] at h ⊢
    obtain ⟨a, xs, e, e2, r⟩ := h
    exact ⟨a, xs, e, k _ _ e2 trivial, RPs.keep k l xs r⟩
  | .lst l, v, h => by
    rw [RP] at h ⊢
    obtain ⟨a, xs, e, e2, r⟩ := h
    exact ⟨a, xs, e, e2.keep k, RPs.keep k l xs r⟩
  | .dct ks vs, v, h => by
    rw [RP] at h ⊢
    obtain ⟨a, o, u, e, e2, r⟩ := h
    refine ⟨a, o, u, e, k _ _ e2 trivial, ?_⟩
    rcases r with ⟨kvs, e1, e3, r⟩ | ⟨xs, ws, e0, e1, e3, e4, e5, e6, e7, e8, r, q⟩
    · exact .inl ⟨kvs, e1, e3, RPs.keep k vs _ r⟩
    · exact .inr ⟨xs, ws, e0, e1, e3, e4, e5, e6, e7, e8, RPs.keep k ks _ r, RPs.keep k vs _ q⟩
  | .rng _ _, v, h => by
    rw [RP] at h ⊢
    obtain ⟨a, e, e2⟩ := h
    exact ⟨a, e, k _ _ e2 trivial⟩
  | .glo _, _, h => by simpa [RP] using h
theorem RPs.keep (k : Keep H H') : ∀ (l : List P) (vs : List V), RPs C H l vs → RPs C H' l vs
  | [], _, h => by rw [RPs] at h ⊢; exact h
  | x :: l, _, h => by
    rw [RPs] at h ⊢
    obtain ⟨v, r, e, h1, h2⟩ := h
    exact ⟨v, r, e, RP.keep k x v h1, RPs.keep k l r h2⟩
end
theorem RPs.nil : RPs C H [] [] := by rw [RPs]
theorem RPs.cons {x : P} {l : List P} {v : V} {r : List V} (h : RP C H x v) (h2 : RPs C H l r) : RPs C H (x :: l) (v :: r) := by rw [RPs]; exact ⟨v, r, rfl, h, h2⟩
theorem RPs.of_nil {vs : List V} (h : RPs C H [] vs) : vs = [] := by rw [RPs] at h; exact h
theorem RPs.of_cons {x : P} {l : List P} {vs : List V} (h : RPs C H (x :: l) vs) : ∃ v r, vs = v :: r ∧ RP C H x v ∧ RPs C H l r := by rw [RPs] at h; exact h
theorem RPs.iff : ∀ {l : List P} {vs : List V}, RPs C H l vs ↔ Paired (RP C H) l vs
  | [], vs => ⟨fun h => by rw [h.of_nil]; exact .nil, fun h => by cases h; exact .nil⟩
  | x :: l, vs => ⟨fun h => by
      obtain ⟨v, r, e, h1, h2⟩ := h.of_cons
      subst e
      exact .cons h1 (RPs.iff.mp h2), fun h => by
      cases h with
      | cons h1 h2 => exact .cons h1 (RPs.iff.mpr h2)⟩
theorem RPs.length : ∀ {l : List P} {vs : List V}, RPs C H l vs → l.length = vs.length
  | [], vs, h => by rw [h.of_nil] <;> rfl
  | x :: l, vs, h => by
    obtain ⟨v, r, e, h1, h2⟩ := h.of_cons
    subst e
    rw [List.length_cons, List.length_cons, RPs.length h2]
theorem RPs.append : ∀ {l m : List P} {vs ws : List V}, RPs C H l vs → RPs C H m ws → RPs C H (l ++ m) (vs ++ ws)
  | [], m, vs, ws, h, g => by rw [h.of_nil]; exact g
  | x :: l, m, vs, ws, h, g => by
    obtain ⟨v, r, e, h1, h2⟩ := h.of_cons
    subst e
    exact .cons h1 (RPs.append h2 g)
theorem RPs.get : ∀ {l : List P} {vs : List V} {i : Nat} {x : P}, RPs C H l vs → l[i]? = some x → ∃ v, vs[i]? = some v ∧ RP C H x v
  | [], _, _, _, _, e => by simp at e
  | y :: l, vs, i, x, h, e => by
    obtain ⟨v, r, e2, h1, h2⟩ := h.of_cons
    subst e2
    cases i with
    | zero => simp at e; subst e; exact ⟨v, rfl, h1⟩
    | succ i =>
      obtain ⟨w, e3, h3⟩ := RPs.get (i := i) h2 (by simpa using e)
      exact ⟨w, by simpa using e3, h3⟩
theorem RPs.take : ∀ {l : List P} {vs : List V} (n : Nat), RPs C H l vs → RPs C H (l.take n) (vs.take n)
  | l, vs, 0, h => by simp only [List.take_zero]; exact .nil
  | [], vs, n + 1, h => by rw [h.of_nil]; exact .nil
  | x :: l, vs, n + 1, h => by
    obtain ⟨v, r, e, h1, h2⟩ := h.of_cons
    subst e
    exact .cons h1 (RPs.take n h2)
theorem RPs.drop : ∀ {l : List P} {vs : List V} (n : Nat), RPs C H l vs → RPs C H (l.drop n) (vs.drop n)
  | l, vs, 0, h => h
  | [], vs, n + 1, h => by rw [h.of_nil]; exact .nil
  | x :: l, vs, n + 1, h => by
    obtain ⟨v, r, e, h1, h2⟩ := h.of_cons
    subst e
    exact RPs.drop n h2
theorem RPs.set {x : P} {v : V} (hx : RP C H x v) : ∀ {l : List P} {vs : List V} (n : Nat), RPs C H l vs → RPs C H (l.set n x) (vs.set n v)
  | [], vs, n, h => by rw [h.of_nil]; exact .nil
  | y :: l, vs, n, h => by
    obtain ⟨w, r, e, h1, h2⟩ := h.of_cons
    subst e
    cases n with
    | zero => exact .cons hx h2
    | succ n => exact .cons h1 (RPs.set hx n h2)
theorem RPs.dropLast {l : List P} {vs : List V} (h : RPs C H l vs) : RPs C H l.dropLast vs.dropLast := by
  rw [List.dropLast_eq_take, List.dropLast_eq_take, h.length]
  exact h.take _
theorem RDc.keep {a : Addr} {ks vs : List P} {u : HO} (k : Keep H H') (h : RDc C H a ks vs u) : RDc C H' a ks vs u := by
  rcases h with ⟨kvs, e1, e3, r⟩ | ⟨xs, ws, e0, e1, e3, e4, e5, e6, e7, e8, r, q⟩
  · exact .inl ⟨kvs, e1, e3, RPs.keep k vs _ r⟩
  · exact .inr ⟨xs, ws, e0, e1, e3, e4, e5, e6, e7, e8, RPs.keep k ks _ r, RPs.keep k vs _ q⟩
theorem RP.dct_iff {ks vs : List P} {v : V} : RP C H (.dct ks vs) v ↔ ∃ a o u, v = .ref a ∧ H a = some (.frz o u) ∧ RDc C H a ks vs u := by rw [RP]; rfl
theorem RP.tup_iff {l : List P} {v : V} : RP C H (.tup l) v ↔ ∃ a xs, v = .ref a ∧ H a = some (.tup xs) ∧ RPs C H l xs := by rw [RP]
theorem RP.lst_iff {l : List P} {v : V} : RP C H (.lst l) v ↔ ∃ a xs, v = .ref a ∧ ImL H a xs ∧ RPs C H l xs := by rw [RP]
theorem RP.int_iff {i : Int} {v : V} : RP C H (.int i) v ↔ v = .int i := by rw [RP]
theorem RP.bl_iff {i : Bool} {v : V} : RP C H (.bl i) v ↔ v = .bl i := by rw [RP]
theorem RP.str_iff {i : Str} {v : V} : RP C H (.str i) v ↔ v = .str i := by rw [RP]
theorem RP.non_iff {v : V} : RP C H .non v ↔ v = .non := by rw [RP]
theorem RP.rng_iff {lo hi : Int} {v : V} : RP C H (.rng lo hi) v ↔ ∃ a, v = .ref a ∧ H a = some (.rng lo hi) := by rw [RP]
theorem RP.glo_iff {g : Nat} {v : V} : RP C H (.glo g) v ↔ ∃ a, C.ga[g]? = some a ∧ v = .ref a := by rw [RP]

/-- no table of code objects -/
def NT (o : HO) : Prop := ∀ ps, o ≠ .tbl ps
/-- later: more places, what stays stays, what is not of the store stands as it was (tables grow) -/
structure Nx (μ : List Addr) (H : Hp) (μ' : List Addr) (H' : Hp) : Prop where
  pre : μ <+: μ'
  keep : Keep H H'
  rest : ∀ b o, H b = some o → b ∉ μ → NT o → H' b = some o
  new : ∀ b ∈ μ', b ∉ μ → H b = none ∨ ∃ ps, H b = some (.tbl ps)
theorem Nx.refl (μ : List Addr) (H : Hp) : Nx μ H μ H := ⟨List.prefix_rfl, Keep.refl H, fun _ _ h _ _ => h, fun b m n => absurd m n⟩
theorem rest_trans {μ μ1 : List Addr} {H H1 H2 : Hp} (a : ∀ b o, H b = some o → b ∉ μ → NT o → H1 b = some o) (n : ∀ b ∈ μ1, b ∉ μ → H b = none ∨ ∃ ps, H b = some (.tbl ps)) (c : ∀ b o, H1 b = some o → b ∉ μ1 → NT o → H2 b = some o) : ∀ b o, H b = some o → b ∉ μ → NT o → H2 b = some o :=
  fun b o h m nt => c b o (a b o h m nt) (fun z => (n b z m).elim (fun e => by rw [h] at e; cases e) fun ⟨ps, e⟩ => by rw [h] at e; cases e; exact nt ps rfl) nt
theorem new_trans {μ μ1 μ2 : List Addr} {H H1 : Hp} (a : ∀ b o, H b = some o → b ∉ μ → NT o → H1 b = some o) (n : ∀ b ∈ μ1, b ∉ μ → H b = none ∨ ∃ ps, H b = some (.tbl ps)) (c : ∀ b ∈ μ2, b ∉ μ1 → H1 b = none ∨ ∃ ps, H1 b = some (.tbl ps)) : ∀ b ∈ μ2, b ∉ μ → H b = none ∨ ∃ ps, H b = some (.tbl ps) :=
  fun b h m => by
    by_cases z : b ∈ μ1
    · exact n b z m
    · cases q : H b with
      | none => exact .inl rfl
      | some o =>
        by_cases ht : ∃ ps, o = .tbl ps
        · obtain ⟨ps, rfl⟩ := ht
          exact .inr ⟨ps, rfl⟩
        · have e := a b o q m fun ps w => ht ⟨ps, w⟩
          rcases c b h z with w | ⟨ps, w⟩
          · rw [e] at w; cases w
          · rw [e] at w; cases w; exact absurd ⟨ps, rfl⟩ ht
theorem Nx.trans {μ μ1 μ2 : List Addr} {H H1 H2 : Hp} (a : Nx μ H μ1 H1) (b : Nx μ1 H1 μ2 H2) : Nx μ H μ2 H2 := ⟨a.pre.trans b.pre, a.keep.trans b.keep, rest_trans a.rest a.new b.rest, new_trans a.rest a.new b.new⟩
/-- .. of which the first j places stay -/
structure Ns (j : Nat) (μ : List Addr) (H : Hp) (μ' : List Addr) (H' : Hp) : Prop where
  pre : μ.take j <+: μ'
  keep : Keep H H'
  rest : ∀ b o, H b = some o → b ∉ μ → NT o → H' b = some o
  new : ∀ b ∈ μ', b ∉ μ → H b = none ∨ ∃ ps, H b = some (.tbl ps)
theorem Ns.refl (j : Nat) (μ : List Addr) (H : Hp) : Ns j μ H μ H := ⟨List.take_prefix j μ, Keep.refl H, fun _ _ h _ _ => h, fun b m n => absurd m n⟩
theorem Nx.ns {j : Nat} {μ μ' : List Addr} {H H' : Hp} (a : Nx μ H μ' H') : Ns j μ H μ' H' := ⟨(List.take_prefix j μ).trans a.pre, a.keep, a.rest, a.new⟩
theorem Ns.trans {j : Nat} {μ μ1 μ2 : List Addr} {H H1 H2 : Hp} (hj : j ≤ μ.length) (a : Ns j μ H μ1 H1) (b : Ns j μ1 H1 μ2 H2) : Ns j μ H μ2 H2 := by
  refine ⟨?_, a.keep.trans b.keep, rest_trans a.rest a.new b.rest, new_trans a.rest a.new b.new⟩
  have e : μ1.take j = μ.take j := by
    obtain ⟨t, e⟩ := a.pre
    have l : (μ.take j).length = j := by rw [List.length_take]; omega
    rw [← e, List.take_append_of_le_length (by omega), List.take_of_length_le (by omega)]
  rw [← e]
  exact b.pre
theorem Ns.len {j : Nat} {μ μ1 : List Addr} {H H1 : Hp} (hj : j ≤ μ.length) (a : Ns j μ H μ1 H1) : j ≤ μ1.length := by
  have := a.pre.length_le
  rw [List.length_take] at this
  omega
theorem prefix_get {α : Type} {l m : List α} (h : l <+: m) {i : Nat} {x : α} (e : l[i]? = some x) : m[i]? = some x := by
  obtain ⟨t, rfl⟩ := h
  rw [List.getElem?_append_left (List.getElem?_eq_some_iff.mp e).1]
  exact e
theorem RD.nx {μ μ' : List Addr} {d : D} {v : V} (n : Nx μ H μ' H') (h : RD C H μ d v) : RD C H' μ' d v := by
  cases d with
  | p x => exact RP.keep n.keep x v h
  | obj m =>
    obtain ⟨a, e, q⟩ := h
    exact ⟨a, prefix_get n.pre e, q⟩
theorem REn.nx {μ μ' : List Addr} {r : En} {σ : L2.St} (n : Nx μ H μ' H') (h : REn C H μ r σ) : REn C H' μ' r σ :=
  ⟨h.len, fun i d e => let ⟨v, q, x⟩ := h.at_ i d e; ⟨v, q, x.nx n⟩⟩
theorem RDs.nx {μ μ' : List Addr} {ds : List D} {vs : List V} (n : Nx μ H μ' H') (h : RDs C H μ ds vs) : RDs C H' μ' ds vs := Paired.mapP h fun _ _ x => x.nx n
theorem ObR.keep {a : Addr} {o : Ob} (k : Keep H H') (e : H' a = H a) (h : ObR C H a o) : ObR C H' a o := by
  cases o with
  | lst l => obtain ⟨xs, q, r⟩ := h; exact ⟨xs, e.trans q, r.keep k _ _⟩
  | dct ks vs => obtain ⟨u, q, r⟩ := h; exact ⟨u, e.trans q, r.keep k⟩
  | ins c fs => obtain ⟨dx, A, vs, q0, q, q2, r⟩ := h; exact ⟨dx, A, vs, q0, e.trans q, q2, r.keep k _ _⟩
  | gone => obtain ⟨od, u, q⟩ := h; exact ⟨od, u, e.trans q⟩
theorem ObR.some {a : Addr} {o : Ob} (h : ObR C H a o) : H a ≠ none := by
  cases o with
  | lst l => obtain ⟨xs, q, r⟩ := h; rw [q]; exact fun z => by cases z
  | dct ks vs => obtain ⟨u, q, r⟩ := h; rw [q]; exact fun z => by cases z
  | ins c fs => obtain ⟨dx, A, vs, q0, q, q2, r⟩ := h; rw [q]; exact fun z => by cases z
  | gone => obtain ⟨od, u, q⟩ := h; rw [q]; exact fun z => by cases z
theorem Wd.has {μ : List Addr} {st : St} (W : Wd C H μ st) {a : Addr} (h : a ∈ μ) : H a ≠ none := by
  obtain ⟨n, hn, e⟩ := List.mem_iff_getElem.mp h
  have h2 : n < st.length := by rw [← W.len]; exact hn
  exact (W.at_ n a st[n] (by simp [hn, e]) (by simp [h2])).some
theorem TabO.keep {μ : List Addr} (T : TabO C H μ) (r : ∀ b o, H b = some o → b ∉ μ → H' b = some o) : TabO C H' μ := fun p hp => by
  obtain ⟨ps, h1, h2, h3, h4⟩ := T p hp
  refine ⟨ps, r _ _ h1 h3, h2, h3, fun pos cv hc => ?_⟩
  obtain ⟨c, e1, e2, e3⟩ := h4 pos cv hc
  exact ⟨c, e1, r _ _ e2 e3, e3⟩
theorem TabO.sub {μ ν : List Addr} (T : TabO C H μ) (r : ∀ b o, H b = some o → b ∉ μ → b ∉ ν) : TabO C H ν := fun p hp => by
  obtain ⟨ps, h1, h2, h3, h4⟩ := T p hp
  refine ⟨ps, h1, h2, r _ _ h1 h3, fun pos cv hc => ?_⟩
  obtain ⟨c, e1, e2, e3⟩ := h4 pos cv hc
  exact ⟨c, e1, e2, r _ _ e2 e3⟩
/-- nothing of the store has changed -/
theorem Wd.keep {μ : List Addr} {st : St} (W : Wd C H μ st) (k : Keep H H') (e : ∀ a ∈ μ, H' a = H a) (r : TabO C H' μ) : Wd C H' μ st :=
  ⟨W.len, W.nd, r, fun n a o h1 h2 => (W.at_ n a o h1 h2).keep k (e a (List.mem_of_getElem? h1))⟩
/-- a new object that is not of the store -/
theorem Wd.fresh {μ : List Addr} {st : St} {p : Addr} {o : HO} (W : Wd C H μ st) (h : H p = none) : Wd C (upd H p o) μ st :=
  W.keep (Keep.new o h) (fun a m => upd_ne fun z => W.has m (by rw [z]; exact h)) (W.tab.keep fun b u e _ => by rw [upd_ne (ne_of_none e h)]; exact e)
theorem Nx.fresh {μ : List Addr} {p : Addr} {o : HO} (h : H p = none) : Nx μ H μ (upd H p o) := ⟨List.prefix_rfl, Keep.new o h, fun b u e _ _ => by rw [upd_ne (ne_of_none e h)]; exact e, fun b m n => absurd m n⟩
theorem Nx.push {μ : List Addr} {p : Addr} {o : HO} (h : H p = none) : Nx μ H (μ ++ [p]) (upd H p o) := ⟨List.prefix_append _ _, Keep.new o h, fun b u e _ _ => by rw [upd_ne (ne_of_none e h)]; exact e, fun b m n => by
  rcases List.mem_append.mp m with z | z
  · exact absurd z n
  · have : b = p := by simpa using z
    rw [this]; exact .inl h⟩
/-- a new place -/
theorem Wd.push {μ : List Addr} {st : St} {p : Addr} {o : HO} {ob : Ob} (W : Wd C H μ st) (h : H p = none) (q : ObR C (upd H p o) p ob) : Wd C (upd H p o) (μ ++ [p]) (st ++ [ob]) := by
  have W1 := W.fresh (o := o) h
  refine ⟨by rw [List.length_append, List.length_append, W.len]; rfl, ?_, (W.tab.sub (ν := μ ++ [p]) fun b u e n m => (List.mem_append.mp m).elim n fun z => by rw [List.mem_singleton.mp z, h] at e; cases e).keep (fun b u e _ => by rw [upd_ne (ne_of_none e h)]; exact e), fun n a o' h1 h2 => ?_⟩
  · rw [List.nodup_append]
    refine ⟨W.nd, by simp, fun a m b mb e => ?_⟩
    have : b = p := by simpa using mb
    subst this
    subst e
    exact W.has m h
  · by_cases hn : n < μ.length
    · rw [List.getElem?_append_left hn] at h1
      rw [List.getElem?_append_left (by rw [← W.len]; exact hn)] at h2
      exact W1.at_ n a o' h1 h2
    · rw [List.getElem?_append_right (by omega)] at h1
      rw [List.getElem?_append_right (by rw [← W.len]; omega)] at h2
      have e1 : n - μ.length = 0 := by
        have := (List.getElem?_eq_some_iff.mp h1).1
        simp at this; omega
      have e2 : n - st.length = 0 := by rw [← W.len]; exact e1
      rw [e1] at h1
      rw [e2] at h2
      simp at h1 h2
      subst h1 h2
      exact q
/-- a place is written -/
theorem Wd.set {μ : List Addr} {st : St} {n : Nat} {a : Addr} {u o : HO} {ob : Ob} (W : Wd C H μ st) (hn : μ[n]? = some a) (hu : H a = some u) (ni : ¬ Im u) (q : ObR C (upd H a o) a ob) : Wd C (upd H a o) μ (st.set n ob) := by
  have ha : a ∈ μ := List.mem_of_getElem? hn
  refine ⟨by rw [List.length_set]; exact W.len, W.nd, W.tab.keep (fun b u e m => by rw [upd_ne fun z : b = a => m (by rw [z]; exact ha)]; exact e), fun m b o' h1 h2 => ?_⟩
  by_cases e : n = m
  · subst e
    rw [hn] at h1
    cases h1
    have hl : n < st.length := by rw [← W.len]; exact (List.getElem?_eq_some_iff.mp hn).1
    rw [List.getElem?_set_self hl] at h2
    cases h2
    exact q
  · rw [List.getElem?_set_ne e] at h2
    have nb : b ≠ a := fun z => by
      subst z
      obtain ⟨l1, e1⟩ := List.getElem?_eq_some_iff.mp hn
      obtain ⟨l2, e2⟩ := List.getElem?_eq_some_iff.mp h1
      exact e ((List.getElem_inj W.nd).mp (e1.trans e2.symm))
    exact (W.at_ m b o' h1 h2).keep (Keep.mut o hu ni) (upd_ne nb)
theorem Nx.mut {μ : List Addr} {a : Addr} {u o : HO} (ha : a ∈ μ) (hu : H a = some u) (ni : ¬ Im u) : Nx μ H μ (upd H a o) := ⟨List.prefix_rfl, Keep.mut o hu ni, fun b w e n _ => by rw [upd_ne (fun z : b = a => n (by rw [z]; exact ha))]; exact e, fun b m n => absurd m n⟩
theorem Wd.take {μ : List Addr} {st : St} (W : Wd C H μ st) (k : Nat) : Wd C H (μ.take k) (st.take k) := by
  refine ⟨by rw [List.length_take, List.length_take, W.len], W.nd.sublist (List.take_sublist k μ), W.tab.sub (fun b u e n m => n (List.mem_of_mem_take m)), fun n a o h1 h2 => ?_⟩
  rw [List.getElem?_take] at h1 h2
  by_cases hn : n < k
  · rw [if_pos hn] at h1 h2; exact W.at_ n a o h1 h2
  · rw [if_neg hn] at h1; cases h1
theorem REn.set {μ : List Addr} {r : En} {σ : L2.St} {i : Nat} {d : D} {v : V} (h : REn C H μ r σ) (x : RD C H μ d v) : REn C H μ (r.set i (some d)) (σ.set i (some v)) := by
  refine ⟨by rw [List.length_set, List.length_set, h.len], fun j d' e => ?_⟩
  by_cases hj : i = j
  · subst hj
    by_cases hl : i < r.length
    · rw [List.getElem?_set_self hl] at e
      cases e
      exact ⟨v, List.getElem?_set_self (by rw [← h.len]; exact hl), x⟩
    · rw [List.getElem?_eq_none (by rw [List.length_set]; omega)] at e
      cases e
  · rw [List.getElem?_set_ne hj] at e
    rw [List.getElem?_set_ne hj]
    exact h.at_ j d' e
theorem REn.clear {μ : List Addr} {r : En} {σ : L2.St} {i : Nat} (h : REn C H μ r σ) : REn C H μ (r.set i none) σ := by
  refine ⟨by rw [List.length_set]; exact h.len, fun j d' e => ?_⟩
  by_cases hj : i = j
  · subst hj
    by_cases hl : i < r.length
    · rw [List.getElem?_set_self hl] at e
      cases e
    · rw [List.getElem?_eq_none (by rw [List.length_set]; omega)] at e
      cases e
  · rw [List.getElem?_set_ne hj] at e
    exact h.at_ j d' e
theorem REn.wipe {μ : List Addr} {r : En} {σ : L2.St} (h : REn C H μ r σ) : ∀ vs : List Nat, REn C H μ (wipeE r vs) (wipe σ vs)
  | [] => h
  | v :: vs => by
    have ih := REn.wipe h vs
    show REn C H μ ((wipeE r vs).set v none) ((L2.wipe σ vs).set v none)
    refine ⟨by rw [List.length_set, List.length_set, ih.len], fun j d' e => ?_⟩
    by_cases hj : v = j
    · subst hj
      by_cases hl : v < (wipeE r vs).length
      · rw [List.getElem?_set_self hl] at e
        cases e
      · rw [List.getElem?_eq_none (by rw [List.length_set]; omega)] at e
        cases e
    · rw [List.getElem?_set_ne hj] at e
      rw [List.getElem?_set_ne hj]
      exact ih.at_ j d' e
end
end Ev

set_option Elab.async false
set_option linter.all false
set_option maxRecDepth 100000
set_option maxHeartbeats 1000000
namespace Ev
open PySem PySem.Spec PyProof.Rows L2

theorem bind_ok {α β : Type} {r : R α} {f : α → St → R β} {b : β} {s : St} (h : r.bind f = .ok b s) : ∃ a s1, r = .ok a s1 ∧ f a s1 = .ok b s := by
  cases r with
  | ok a s1 => exact ⟨a, s1, rfl, h⟩
  | exc c fs s1 => cases h
  | bad => cases h
theorem noexc_ok {α : Type} {r : R α} {a : α} {s : St} (h : R.noexc r = .ok a s) : r = .ok a s := by
  cases r with
  | ok b s1 => exact h
  | exc c fs s1 => cases h
  | bad => cases h

theorem weak {X : Cx} {e : Expr} {t t' : TE} (h : PE X e t) (f : ∀ σ H Q, t' σ H Q → t σ H Q) : PE X e t' := ⟨fun pins s σ H Q I q => h.run pins s σ H Q I (f σ H Q q)⟩
theorem weakT {X : Cx} {e : Expr} {t t' : TT} (h : PT X e t) (f : ∀ σ H Q, t' σ H Q → t σ H Q) : PT X e t' := ⟨fun pins s σ H Q I q => h.run pins s σ H Q I (f σ H Q q)⟩
theorem weakW {X : Cx} {e : Expr} {t t' : TT} (h : PW X e t) (f : ∀ σ H Q, t' σ H Q → t σ H Q) : PW X e t' := ⟨fun wh pins s σ H Q I q => h.run wh pins s σ H Q I (f σ H Q q)⟩
theorem weakA {X : Cx} {e : List Expr} {t t' : TA} (h : PA X e t) (f : ∀ σ H Q, t' σ H Q → t σ H Q) : PA X e t' := ⟨fun p pins s σ H Q I q => h.run p pins s σ H Q I (f σ H Q q)⟩

section
variable {C : Gc} {X : Cx}
/-! ### a value as it is looked at -/
/-- v is seen as x -/
def VP (C : Gc) (H : Hp) : P → V → Prop
  | .lst l, v => ∃ a xs, v = .ref a ∧ Rd H a (.lst xs) ∧ RPs C H l xs
  | .dct ks vs, v => ∃ a u, v = .ref a ∧ Rd H a u ∧ RDc C H a ks vs u
  | x, v => RP C H x v
theorem VP.of {H : Hp} {x : P} {v : V} (h : RP C H x v) : VP C H x v := by
  cases x with
  | lst l =>
    obtain ⟨a, xs, e, i, r⟩ := RP.lst_iff.mp h
    exact ⟨a, xs, e, i.sq, r⟩
  | dct ks vs =>
    obtain ⟨a, o, u, e, i, r⟩ := RP.dct_iff.mp h
    exact ⟨a, u, e, .inr ⟨o, i⟩, r⟩
  | _ => exact h
theorem VP.int {H : Hp} {i : Int} {v : V} (h : VP C H (.int i) v) : v = .int i := RP.int_iff.mp (show RP C H (.int i) v from h)
theorem VP.bl {H : Hp} {i : Bool} {v : V} (h : VP C H (.bl i) v) : v = .bl i := RP.bl_iff.mp (show RP C H (.bl i) v from h)
theorem VP.str {H : Hp} {i : Str} {v : V} (h : VP C H (.str i) v) : v = .str i := RP.str_iff.mp (show RP C H (.str i) v from h)
theorem VP.non {H : Hp} {v : V} (h : VP C H .non v) : v = .non := RP.non_iff.mp (show RP C H .non v from h)
theorem VP.tup {H : Hp} {l : List P} {v : V} (h : VP C H (.tup l) v) : ∃ a xs, v = .ref a ∧ H a = some (.tup xs) ∧ RPs C H l xs := RP.tup_iff.mp (show RP C H (.tup l) v from h)
theorem view_ok {μ : List Addr} {st : St} {H : Hp} {d : D} {v : V} {x : P} (W : Wd C H μ st) (h : RD C H μ d v) (e : view st d = some x) : VP C H x v := by
  cases d with
  | p y => cases e; exact VP.of h
  | obj n =>
    obtain ⟨a, h1, h2⟩ := h
    have hn : n < st.length := by rw [← W.len]; exact (List.getElem?_eq_some_iff.mp h1).1
    have e2 : st[n]? = some st[n] := by simp [hn]
    have hw := W.at_ n a _ h1 e2
    dsimp only [view] at e
    rw [e2] at e
    cases q : st[n] with
    | lst l =>
      rw [q] at e hw
      cases e
      obtain ⟨xs, h3, h4⟩ := hw
      exact ⟨a, xs, h2, .inl h3, h4⟩
    | dct ks vs =>
      rw [q] at e hw
      cases e
      obtain ⟨u, h3, h4⟩ := hw
      exact ⟨a, u, h2, .inl h3, h4⟩
    | ins c fs => rw [q] at e; cases e
    | gone => rw [q] at e; cases e
/-- growth: all that was tracked stands -/
theorem Wd.same {μ : List Addr} {st : St} {H H' : Hp} (W : Wd C H μ st) (g : Same H H') : Wd C H' μ st :=
  W.keep (fun b o h _ => g b o h) (fun a m => by
    cases q : H a with
    | none => exact absurd q (W.has m)
    | some o => exact g a o q) (W.tab.keep fun b o h _ => g b o h)
theorem Nx.same {μ : List Addr} {H H' : Hp} (g : Same H H') : Nx μ H μ H' := ⟨List.prefix_rfl, fun b o h _ => g b o h, fun b o h _ _ => g b o h, fun b m n => absurd m n⟩
theorem Same.new {H : Hp} {p : Addr} {o : HO} (h : H p = none) : Same H (upd H p o) := fun b u e => by rw [upd_ne (ne_of_none e h)]; exact e

/-! ### operations by values -/
def rU (C : Gc) (ev : P → Option P) : List V → Hp → VK → Prop := fun vs H Q => ∃ v x y, vs = [v] ∧ VP C H x v ∧ ev x = some y ∧ ∀ H' v', Same H H' → RP C H' y v' → Q v' H'
def rB (C : Gc) (ev : P → P → Option P) : R2 := fun v w H Q => ∃ x y z, VP C H x v ∧ VP C H y w ∧ ev x y = some z ∧ ∀ H' v', Same H H' → RP C H' z v' → Q v' H'
def rC (C : Gc) (ev : P → P → Option Bool) : R2 := fun v w H Q => ∃ x y z, VP C H x v ∧ VP C H y w ∧ ev x y = some z ∧ Q (.bl z) H

theorem tupOf {H : Hp} {p : Addr} {l : List P} {xs : List V} (h : H p = none) (r : RPs C H l xs) : RP C (upd H p (.tup xs)) (.tup l) (.ref p) :=
  RP.tup_iff.mpr ⟨p, xs, rfl, upd_same, r.keep (Keep.new _ h) _ _⟩
theorem ints_of {H : Hp} : ∀ {l : List P} {xs : List V} {i : Int}, RPs C H l xs → sumI l = some i → ∃ ns : List Int, xs = ns.map V.int ∧ ns.sum = i
  | [], xs, i, h, e => by
    cases e
    exact ⟨[], h.of_nil, rfl⟩
  | x :: l, xs, i, h, e => by
    obtain ⟨v, r, e1, h1, h2⟩ := h.of_cons
    subst e1
    cases x with
    | int j =>
      rw [sumI] at e
      cases q : sumI l with
      | none => rw [q] at e; cases e
      | some k =>
        rw [q] at e
        cases e
        obtain ⟨ns, e2, e3⟩ := ints_of h2 q
        rw [RP.int_iff.mp h1]
        exact ⟨j :: ns, by rw [e2]; rfl, by rw [List.sum_cons, e3]⟩
    | _ => simp [sumI] at e
theorem bls_all {H : Hp} : ∀ {l : List P} {xs : List V} {b : Bool}, RPs C H l xs → allB l = some b → ∃ bs : List Bool, xs = bs.map V.bl ∧ bs.all id = b
  | [], xs, b, h, e => by
    cases e
    exact ⟨[], h.of_nil, rfl⟩
  | x :: l, xs, b, h, e => by
    obtain ⟨v, r, e1, h1, h2⟩ := h.of_cons
    subst e1
    cases x with
    | bl j =>
      rw [allB] at e
      cases q : allB l with
      | none => rw [q] at e; cases e
      | some k =>
        rw [q] at e
        cases e
        obtain ⟨ns, e2, e3⟩ := bls_all h2 q
        rw [RP.bl_iff.mp h1]
        exact ⟨j :: ns, by rw [e2]; rfl, by rw [List.all_cons, e3]; rfl⟩
    | _ => simp [allB] at e
theorem bls_any {H : Hp} : ∀ {l : List P} {xs : List V} {b : Bool}, RPs C H l xs → anyB l = some b → ∃ bs : List Bool, xs = bs.map V.bl ∧ bs.any id = b
  | [], xs, b, h, e => by
    cases e
    exact ⟨[], h.of_nil, rfl⟩
  | x :: l, xs, b, h, e => by
    obtain ⟨v, r, e1, h1, h2⟩ := h.of_cons
    subst e1
    cases x with
    | bl j =>
      rw [anyB] at e
      cases q : anyB l with
      | none => rw [q] at e; cases e
      | some k =>
        rw [q] at e
        cases e
        obtain ⟨ns, e2, e3⟩ := bls_any h2 q
        rw [RP.bl_iff.mp h1]
        exact ⟨j :: ns, by rw [e2]; rfl, by rw [List.any_cons, e3]; rfl⟩
    | _ => simp [anyB] at e
theorem cr_sumT (hc : X.calm = true) : CallR X (.builtin "sum") (fun vs H Q => ∃ (a : Addr) (ns : List Int), vs = [V.ref a] ∧ SqT X.K H a (ns.map V.int) ∧ Q (.int ns.sum) H) := by
  intro pins s σ H vs us Q I r h
  obtain ⟨a, ns, rfl, hs, q⟩ := h
  obtain ⟨its, rv, hl, _⟩ := I.tuple hs
  rw [Vals.ref1 r]
  have hi := rv.ints
  obtain ⟨xs, e⟩ := hi.allInts.items
  have hn : numsOf (intItems xs).toList = ns := by rw [← e]; exact hi.numsOf
  rw [nums_intItems] at hn
  rw [e] at hl
  refine PySem.W.ktm_sumG (I.ok.hd hc) (show s.heap.IsTuple a (intItems xs) from hl) fun h' tk t' hk => ?_
  rw [preSum_eq, List.take_of_length_le (by simp), hn]
  exact ⟨.int _, H, I.kept hk, ⟨_, rfl⟩, q⟩
end
end Ev

set_option Elab.async false
set_option linter.all false
set_option maxRecDepth 100000
set_option maxHeartbeats 1000000
namespace Ev
open PySem PySem.Spec PyProof.Rows L2

section
variable {C : Gc} {X : Cx}
theorem lenD_rd : CallR X (.builtin "len") (fun xs H Q => ∃ a kvs, xs = [V.ref a] ∧ Rd H a (.dK kvs) ∧ Q (.int kvs.length) H) := by
  intro pins s σ H xs us Q I r h
  obtain ⟨a, kvs, rfl, ha, q⟩ := h
  obtain ⟨u, rfl, ru⟩ := vals1 r
  cases ru
  exact d_len I ha fun t s' I' => ⟨.int kvs.length, H, I', ⟨t, rfl⟩, q⟩
theorem dx_rd {pins : List (Addr × Obj)} {σ : L2.St} {H : Hp} {s : Shared} {a : Addr} {xs : List (NestedKey × Addr × Value)} (I : Inv X pins σ H s) (h : Rd H a (DX C a xs)) :
    ∃ o es ep, s.heap.get? a = some o ∧ o.ExactDict ∧ o.data = .dict es ep ∧ es.toList = xs.map (entryOfKey (nestedKind C.P C.w)) := by
  have := h.ok I.hok
  exact this.1
theorem lenX_rd (hP : X.prog = C.P) (hw : X.w = C.w) : CallR X (.builtin "len") (fun vs H Q => ∃ a xs, vs = [V.ref a] ∧ Rd H a (DX C a xs) ∧ xs.length ≤ sizeLine ∧ (a == sysModules) = false ∧ Q (.int xs.length) H) := by
  intro pins s σ H xs us Q I r h
  obtain ⟨a, kvs, rfl, ha, hz, hs, q⟩ := h
  obtain ⟨u, rfl, ru⟩ := vals1 r
  cases ru
  obtain ⟨o, es, ep, h1, h2, h3, h4⟩ := dx_rd I ha
  have e : es.size = kvs.length := by rw [← Array.length_toList, h4, List.length_map]
  have hl := line63
  have e2 : sizeLine = 16777216 := sizeLine_eq
  refine PyProof.Rows.call_len_slot (n := kvs.length) (T := "dict") ⟨o, h1, h2.1⟩ F.slot_dict_len (fun Q' hq => call_len_raw (es := es) hs ⟨o, h1, h2, h3⟩ (by rw [e]; exact hq)) (by omega) (by omega) ⟨.int kvs.length, H, I.tok _, ⟨_, rfl⟩, q⟩
theorem nks_len : ∀ {l : List P} {ks : List NestedKey}, nks l = some ks → l.length = ks.length
  | [], ks, h => by cases h; rfl
  | a :: l, ks, h => by
    rw [nks] at h
    cases q : nk a with
    | none => rw [q] at h; cases h
    | some k =>
      rw [q] at h
      cases q2 : nks l with
      | none => rw [q2] at h; cases h
      | some ks' =>
        rw [q2] at h
        cases h
        rw [List.length_cons, List.length_cons, nks_len q2]
theorem pairedRK_len {ks : List P} {l : List Key} (h : Paired RK ks l) : ks.length = l.length := Paired.length h
/-- len -/
theorem u_len (hP : X.prog = C.P) (hw : X.w = C.w) (hK : X.K = C.K) : CallR X (.builtin "len") (rU C (evU .len)) := by
  intro pins s σ H vs us Q I r h
  obtain ⟨v, x, y, rfl, vp, e, q⟩ := h
  cases x with
  | tup l =>
    cases e
    obtain ⟨a, xs, rfl, e2, r2⟩ := vp.tup
    exact call_len_seq pins s σ H _ us Q I r ⟨a, xs, rfl, .inr (SqT.of e2), q H _ (Same.refl H) (RP.int_iff.mpr (by rw [r2.length]))⟩
  | lst l =>
    cases e
    obtain ⟨a, xs, rfl, e2, r2⟩ := vp
    exact call_len_seq pins s σ H _ us Q I r ⟨a, xs, rfl, .inl (.inl e2), q H _ (Same.refl H) (RP.int_iff.mpr (by rw [r2.length]))⟩
  | dct ks ws =>
    cases e
    obtain ⟨a, u, rfl, e2, r2⟩ := vp
    rcases r2 with ⟨kvs, rfl, e3, _⟩ | ⟨xs, ws', _, rfl, hz, hs, _, _, e7, _⟩
    · have := pairedRK_len e3
      rw [List.length_map] at this
      exact lenD_rd pins s σ H _ us Q I r ⟨a, kvs, rfl, e2, q H _ (Same.refl H) (RP.int_iff.mpr (by rw [this]))⟩
    · have := nks_len e7
      rw [List.length_map] at this
      exact lenX_rd hP hw pins s σ H _ us Q I r ⟨a, xs, rfl, e2, hz, hs, q H _ (Same.refl H) (RP.int_iff.mpr (by rw [this]))⟩
  | _ => cases e
theorem u_abs : CallR X (.builtin "abs") (rU C (evU .abs)) := by
  intro pins s σ H vs us Q I r h
  obtain ⟨v, x, y, rfl, vp, e, q⟩ := h
  cases x with
  | int i =>
    cases e
    have : v = .int i := vp.int
    subst this
    exact call_abs pins s σ H _ us Q I r ⟨i, rfl, q H _ (Same.refl H) (RP.int_iff.mpr rfl)⟩
  | _ => cases e
theorem u_int : CallR X (.type "int") (rU C (evU .int)) := by
  intro pins s σ H vs us Q I r h
  obtain ⟨v, x, y, rfl, vp, e, q⟩ := h
  cases x with
  | int i =>
    cases e
    have : v = .int i := vp.int
    subst this
    exact call_int1 pins s σ H _ us Q I r (.inl ⟨i, rfl, q H _ (Same.refl H) (RP.int_iff.mpr rfl)⟩)
  | _ => cases e
theorem u_sum (hK : X.K = C.K) (hc : X.calm = true) : CallR X (.builtin "sum") (rU C (evU .sum)) := by
  intro pins s σ H vs us Q I r h
  obtain ⟨v, x, y, rfl, vp, e, q⟩ := h
  cases x with
  | tup l =>
    have e : (match sumI l with | some i => some (P.int i) | none => none) = some y := e
    obtain ⟨a, xs, rfl, e2, r2⟩ := vp.tup
    cases hz : sumI l with
    | none => rw [hz] at e; cases e
    | some i =>
      rw [hz] at e; cases e
      obtain ⟨ns, rfl, e3⟩ := ints_of r2 hz
      exact cr_sumT hc pins s σ H _ us Q I r ⟨a, ns, rfl, SqT.of e2, q H _ (Same.refl H) (RP.int_iff.mpr (by rw [e3]))⟩
  | lst l =>
    have e : (match sumI l with | some i => some (P.int i) | none => none) = some y := e
    obtain ⟨a, xs, rfl, e2, r2⟩ := vp
    cases hz : sumI l with
    | none => rw [hz] at e; cases e
    | some i =>
      rw [hz] at e; cases e
      obtain ⟨ns, rfl, e3⟩ := ints_of r2 hz
      exact cr_sum hc pins s σ H _ us Q I r ⟨a, ns, rfl, .inl e2, q H _ (Same.refl H) (RP.int_iff.mpr (by rw [e3]))⟩
  | _ => cases e
theorem u_all (hK : X.K = C.K) (hc : X.calm = true) : CallR X (.builtin "all") (rU C (evU .all)) := by
  intro pins s σ H vs us Q I r h
  obtain ⟨v, x, y, rfl, vp, e, q⟩ := h
  cases x with
  | lst l =>
    have e : (match allB l with | some i => some (P.bl i) | none => none) = some y := e
    obtain ⟨a, xs, rfl, e2, r2⟩ := vp
    cases hz : allB l with
    | none => rw [hz] at e; cases e
    | some i =>
      rw [hz] at e; cases e
      obtain ⟨ns, rfl, e3⟩ := bls_all r2 hz
      exact cr_all hc pins s σ H _ us Q I r ⟨a, ns, rfl, .inl e2, q H _ (Same.refl H) (RP.bl_iff.mpr (by rw [e3]))⟩
  | _ => cases e
theorem u_any (hK : X.K = C.K) (hc : X.calm = true) : CallR X (.builtin "any") (rU C (evU .any)) := by
  intro pins s σ H vs us Q I r h
  obtain ⟨v, x, y, rfl, vp, e, q⟩ := h
  cases x with
  | lst l =>
    have e : (match anyB l with | some i => some (P.bl i) | none => none) = some y := e
    obtain ⟨a, xs, rfl, e2, r2⟩ := vp
    cases hz : anyB l with
    | none => rw [hz] at e; cases e
    | some i =>
      rw [hz] at e; cases e
      obtain ⟨ns, rfl, e3⟩ := bls_any r2 hz
      exact cr_any hc pins s σ H _ us Q I r ⟨a, ns, rfl, .inl e2, q H _ (Same.refl H) (RP.bl_iff.mpr (by rw [e3]))⟩
  | _ => cases e
theorem u_tuple (hK : X.K = C.K) : CallR X (.type "tuple") (rU C (evU .tuple)) := by
  intro pins s σ H vs us Q I r h
  obtain ⟨v, x, y, rfl, vp, e, q⟩ := h
  cases x with
  | tup l =>
    cases e
    obtain ⟨a, xs, rfl, e2, r2⟩ := vp.tup
    exact call_tuple_of pins s σ H _ us Q I r ⟨a, xs, rfl, .inr ⟨SqT.of e2, q H _ (Same.refl H) (RP.tup_iff.mpr ⟨a, xs, rfl, e2, r2⟩)⟩⟩
  | lst l =>
    cases e
    obtain ⟨a, xs, rfl, e2, r2⟩ := vp
    exact call_tuple_of pins s σ H _ us Q I r ⟨a, xs, rfl, .inl ⟨.inl e2, fun p hp => q _ _ (Same.new hp) (tupOf hp r2)⟩⟩
  | _ => cases e
/-- the type of a value -/
theorem ty_of {H : Hp} {x : P} {v : V} (h : VP C H x v) : match x with
    | .non => TyX C.K H v (.type "NoneType") | .bl _ => TyX C.K H v (.type "bool") | .int _ => TyX C.K H v (.type "int") | .str _ => TyX C.K H v (.type "str")
    | .tup _ => TyX C.K H v (.type "tuple") | .lst _ => TyX C.K H v (.type "list") | _ => True := by
  cases x with
  | non => have : v = .non := h.non; subst this; exact .base .non
  | bl b => have : v = .bl b := h.bl; subst this; exact .base (.bl b)
  | int b => have : v = .int b := h.int; subst this; exact .base (.int b)
  | str b => have : v = .str b := h.str; subst this; exact .base (.str b)
  | tup l =>
    obtain ⟨a, xs, rfl, e2, r2⟩ := h.tup
    exact .base (.tup e2)
  | lst l =>
    obtain ⟨a, xs, rfl, e2, r2⟩ := h
    rcases e2 with e2 | ⟨o, e2⟩
    · exact .base (.lst e2)
    · exact .base (.frz e2)
  | _ => trivial
def isiOf (t : String) : P → Option Bool
  | .non => kitB "NoneType" t | .bl _ => kitB "bool" t | .int _ => kitB "int" t | .str _ => kitB "str" t | .tup _ => kitB "tuple" t | .lst _ => kitB "list" t | _ => none
theorem u_isi (hK : X.K = C.K) (t : String) : CallR X (.builtin "isinstance") (fun vs H Q => ∃ v x b, vs = [v, .ty t] ∧ VP C H x v ∧ isiOf t x = some b ∧ Q (.bl b) H) := by
  intro pins s σ H vs us Q I r h
  obtain ⟨v, x, b, rfl, vp, e, q⟩ := h
  have ty := ty_of vp
  rw [← hK] at ty
  have go : ∀ T, TyX X.K H v (.type T) → kitB T t = some b → wpAny (model X.prog X.w) X.A (call (.builtin "isinstance") us) (EP X pins σ Q) X.xe s := fun T h1 h2 =>
    call_isi pins s σ H _ us Q I r ⟨v, .ty t, .type T, .type t, b, rfl, .ty t, h1, kit_ty h2, q⟩
  cases x with
  | non => exact go _ ty e
  | bl _ => exact go _ ty e
  | int _ => exact go _ ty e
  | str _ => exact go _ ty e
  | tup _ => exact go _ ty e
  | lst _ => exact go _ ty e
  | _ => cases e
theorem isi_int {x : P} {y : P} (h : evU .isInt x = some y) : ∃ b, isiOf "int" x = some b ∧ y = .bl b := by
  cases x <;> simp only [evU, Option.some.injEq, reduceCtorEq] at h <;> subst h <;> exact ⟨_, by simp only [isiOf]; decide +kernel, rfl⟩
theorem isi_bool {x : P} {y : P} (h : evU .isBool x = some y) : ∃ b, isiOf "bool" x = some b ∧ y = .bl b := by
  cases x <;> simp only [evU, Option.some.injEq, reduceCtorEq] at h <;> subst h <;> exact ⟨_, by simp only [isiOf]; decide +kernel, rfl⟩
theorem isi_tup {x : P} {y : P} (h : evU .isTup x = some y) : ∃ b, isiOf "tuple" x = some b ∧ y = .bl b := by
  cases x <;> simp only [evU, Option.some.injEq, reduceCtorEq] at h <;> subst h <;> exact ⟨_, by simp only [isiOf]; decide +kernel, rfl⟩
theorem isi_str {x : P} {y : P} (h : evU .isStr x = some y) : ∃ b, isiOf "str" x = some b ∧ y = .bl b := by
  cases x <;> simp only [evU, Option.some.injEq, reduceCtorEq] at h <;> subst h <;> exact ⟨_, by simp only [isiOf]; decide +kernel, rfl⟩
end
end Ev

set_option Elab.async false
set_option linter.all false
set_option maxRecDepth 100000
set_option maxHeartbeats 1000000
namespace Ev
open PySem PySem.Spec PyProof.Rows L2

/-! ### keys -/
mutual
theorem nk_inj : ∀ (x y : P) (k : NestedKey), nk x = some k → nk y = some k → x = y
  | .non, y, k, h, g => by
    cases h
    cases y with
    | non => rfl
    | tup l => rw [nk] at g; split at g <;> cases g
    | _ => cases g
  | .int i, y, k, h, g => by
    cases h
    cases y with
    | int j => cases g; rfl
    | tup l => rw [nk] at g; split at g <;> cases g
    | _ => cases g
  | .str i, y, k, h, g => by
    cases h
    cases y with
    | str j => cases g; rfl
    | tup l => rw [nk] at g; split at g <;> cases g
    | _ => cases g
  | .tup l, y, k, h, g => by
    rw [nk] at h
    split at h
    · rename_i ks e
      cases h
      cases y with
      | tup m =>
        rw [nk] at g
        split at g
        · rename_i ks' e'
          cases g
          rw [nks_inj l m ks e e']
        · cases g
      | _ => cases g
    · cases h
  | .bl _, _, _, h, _ => by cases h
  | .lst _, _, _, h, _ => by cases h
  | .dct _ _, _, _, h, _ => by cases h
  | .rng _ _, _, _, h, _ => by cases h
  | .glo _, _, _, h, _ => by cases h
theorem nks_inj : ∀ (l m : List P) (ks : List NestedKey), nks l = some ks → nks m = some ks → l = m
  | [], m, ks, h, g => by
    cases h
    cases m with
    | nil => rfl
    | cons b m =>
      rw [nks] at g
      split at g
      · split at g <;> cases g
      · cases g
  | a :: l, m, ks, h, g => by
    rw [nks] at h
    split at h
    · rename_i k e1
      split at h
      · rename_i ks' e2
        cases h
        cases m with
        | nil => cases g
        | cons b m =>
          rw [nks] at g
          split at g
          · rename_i k2 e3
            split at g
            · rename_i ks2 e4
              cases g
              rw [nk_inj a b _ e1 e3, nks_inj l m _ e2 e4]
            · cases g
          · cases g
      · cases h
    · cases h
end
mutual
theorem nk_some : ∀ (n : Nat) (x : P), P.isKey n x = true → ∃ k, nk x = some k ∧ k.depth ≤ n
  | n, .non, _ => ⟨_, rfl, Nat.zero_le _⟩
  | n, .int _, _ => ⟨_, rfl, Nat.zero_le _⟩
  | n, .str _, _ => ⟨_, rfl, Nat.zero_le _⟩
  | 0, .tup l, h => by simp [P.isKey] at h
  | n + 1, .tup l, h => by
    rw [P.isKey] at h
    obtain ⟨ks, e, d⟩ := nks_some n l h
    refine ⟨.tup ks, by rw [nk, e], ?_⟩
    rw [NestedKey.depth]
    omega
  | n, .bl _, h => by simp [P.isKey] at h
  | n, .lst _, h => by simp [P.isKey] at h
  | n, .dct _ _, h => by simp [P.isKey] at h
  | n, .rng _ _, h => by simp [P.isKey] at h
  | n, .glo _, h => by simp [P.isKey] at h
theorem nks_some : ∀ (n : Nat) (l : List P), P.areKeys n l = true → ∃ ks, nks l = some ks ∧ NestedKey.depthAll ks ≤ n
  | n, [], _ => ⟨[], rfl, Nat.zero_le _⟩
  | n, a :: l, h => by
    rw [P.areKeys, Bool.and_eq_true] at h
    obtain ⟨k, e1, d1⟩ := nk_some n a h.1
    obtain ⟨ks, e2, d2⟩ := nks_some n l h.2
    refine ⟨k :: ks, by rw [nks, e1, e2], ?_⟩
    rw [NestedKey.depthAll]
    exact Nat.max_le.mpr ⟨d1, d2⟩
end
section
variable {C : Gc} {X : Cx} {pins : List (Addr × Obj)} {σ : L2.St} {H : Hp} {s : Shared}
mutual
theorem nis (I : Inv X pins σ H s) : ∀ (x : P) (v : V) (u : Value) (k : NestedKey), RP C H x v → RelV v u → nk x = some k → NestedIs s.heap k u
  | .non, v, u, k, h, r, e => by
    cases e
    rw [RP.non_iff.mp h] at r
    cases r
    exact .none
  | .int i, v, u, k, h, r, e => by
    cases e
    rw [RP.int_iff.mp h] at r
    obtain ⟨t, rfl⟩ := r
    exact .int i t
  | .str i, v, u, k, h, r, e => by
    cases e
    rw [RP.str_iff.mp h] at r
    obtain ⟨t, rfl⟩ := r
    exact .text i t
  | .tup l, v, u, k, h, r, e => by
    obtain ⟨a, xs, rfl, e2, r2⟩ := RP.tup_iff.mp h
    cases r
    rw [nk] at e
    split at e
    · rename_i ks q
      cases e
      obtain ⟨its, rv, ⟨o, ho, hc, n, hd⟩, _⟩ := I.tuple (SqT.of e2)
      refine .tup ho hc hd ?_
      simpa using nisAll I l xs its ks r2 rv q
    · cases e
  | .bl _, _, _, _, _, _, e => by cases e
  | .lst _, _, _, _, _, _, e => by cases e
  | .dct _ _, _, _, _, _, _, e => by cases e
  | .rng _ _, _, _, _, _, _, e => by cases e
  | .glo _, _, _, _, _, _, e => by cases e
theorem nisAll (I : Inv X pins σ H s) : ∀ (l : List P) (vs : List V) (us : List Value) (ks : List NestedKey), RPs C H l vs → Vals vs us → nks l = some ks → NestedAll s.heap ks us
  | [], vs, us, ks, h, r, e => by
    cases e
    rw [h.of_nil] at r
    cases r
    exact .nil
  | x :: l, vs, us, ks, h, r, e => by
    obtain ⟨v, w, rfl, h1, h2⟩ := h.of_cons
    cases r with
    | cons r1 r2 =>
      rw [nks] at e
      split at e
      · rename_i k e1
        split at e
        · rename_i ks' e2
          cases e
          exact .cons (nis I x v _ k h1 r1 e1) (nisAll I l w _ ks' h2 r2 e2)
        · cases e
      · cases e
end
/-- a dict with tuple keys, in the heap -/
structure XD (C : Gc) (H : Hp) (h : Heap) (a : Addr) (ks vs : List P) (xs : List (NestedKey × Addr × Value)) (ws : List V) : Prop where
  dict : h.DictOfH (nestedKind C.P C.w) a xs
  size : xs.length ≤ sizeLine
  nsys : (a == sysModules) = false
  keys : nks ks = some (xs.map (·.1))
  are : P.areKeys 8 ks = true
  rk : RPs C H ks (xs.map fun x => .ref x.2.1)
  vals : Vals ws (xs.map (·.2.2))
  rv : RPs C H vs ws
theorem keys_is (I : Inv X pins σ H s) : ∀ {ks : List P} {xs : List (NestedKey × Addr × Value)}, nks ks = some (xs.map (·.1)) → P.areKeys 8 ks = true → RPs C H ks (xs.map fun x => .ref x.2.1) →
    ∀ x ∈ xs, (nestedKind C.P C.w).is s.heap x.1 x.2.1
  | [], xs, e, d, r => by
    have := r.of_nil
    rw [List.map_eq_nil_iff] at this
    subst this
    intro x hx
    cases hx
  | k :: ks, [], e, d, r => by
    intro x hx
    cases hx
  | k :: ks, y :: xs, e, d, r => by
    rw [P.areKeys, Bool.and_eq_true] at d
    obtain ⟨v, w, e1, h1, h2⟩ := r.of_cons
    rw [List.map_cons] at e1
    obtain ⟨rfl, rfl⟩ := List.cons.inj e1
    rw [nks] at e
    split at e
    · rename_i k' e2
      split at e
      · rename_i ks' e3
        rw [List.map_cons] at e
        obtain ⟨e4, e5⟩ := List.cons.inj (Option.some.inj e)
        intro x hx
        rcases List.mem_cons.mp hx with rfl | hx
        · obtain ⟨k2, q1, q2⟩ := nk_some 8 k d.1
          rw [e2] at q1
          cases q1
          rw [← e4]
          exact ⟨nis I k _ _ _ h1 rfl e2, q2⟩
        · exact keys_is I (by rw [e3, e5]) d.2 h2 x hx
      · cases e
    · cases e
theorem xd_of (I : Inv X pins σ H s) (hP : X.prog = C.P) (hw : X.w = C.w) {a : Addr} {ks vs : List P} {u : HO} (hu : Rd H a u) (r : RDc C H a ks vs u) (ht : ks = [] ∨ ∃ l r, ks = .tup l :: r) : ∃ xs ws, XD C H s.heap a ks vs xs ws := by
  rcases r with ⟨kvs, rfl, e3, rv⟩ | ⟨xs, ws, h0, rfl, h1, h2, h3, h4, h5, h6, h7, h8⟩
  · have hks : ks = [] := by
      rcases ht with e | ⟨l, r, e⟩
      · exact e
      · subst e
        cases kvs with
        | nil => cases e3
        | cons p kvs =>
          cases e3 with
          | cons q _ =>
            obtain ⟨k, v⟩ := p
            cases k <;> exact absurd q (by simp [RK])
    subst hks
    cases kvs with
    | cons p kvs => cases e3
    | nil =>
      have : vs = [] := by
        have := rv.length
        simpa using this
      subst this
      obtain ⟨hz, hd, vs', rel, o, es, ep, q1, q2, q3, q4, q5, q6⟩ := dk_rd I.hok hu
      cases rel
      have q7 := q5.length
      have q8 : es.toList = [] := List.eq_nil_of_length_eq_zero q7
      exact ⟨[], [], ⟨⟨o, es, ep, q1, q2, q3, by rw [q8]; rfl, ⟨fun x hx => (nomatch hx), List.nodup_nil⟩⟩, Nat.zero_le _, hd, rfl, rfl, .nil, .nil, .nil⟩⟩
  · obtain ⟨o, es, ep, q1, q2, q3, q4⟩ := dx_rd I hu
    exact ⟨xs, ws, ⟨o, es, ep, q1, q2, q3, q4, keys_is I h5 h6 h7, h3⟩, h1, h2, h5, h6, h7, h4, h8⟩
theorem atKey_nil {k : NestedKey} : atKey ([] : List (NestedKey × Addr × Value)) k = none := rfl
theorem atKey_cons {x : NestedKey × Addr × Value} {xs : List (NestedKey × Addr × Value)} {k : NestedKey} : atKey (x :: xs) k = if x.1 = k then some x.2 else atKey xs k := by
  unfold atKey
  rw [List.find?_cons]
  by_cases h : x.1 = k
  · simp [h]
  · simp [h]
/-- what is found -/
theorem xd_get : ∀ {ks vs : List P} {xs : List (NestedKey × Addr × Value)} {ws : List V} {k : P} {κ : NestedKey}, nks ks = some (xs.map (·.1)) → Vals ws (xs.map (·.2.2)) → RPs C H vs ws → nk k = some κ →
    (∀ x, dget ks vs k = some x → ∃ b v w, atKey xs κ = some (b, w) ∧ RelV v w ∧ RP C H x v) ∧ (dget ks vs k = none → atKey xs κ = none)
  | [], vs, xs, ws, k, κ, e, hv, rv, hk => by
    have : xs = [] := by
      have e' := Option.some.inj e
      simpa using e'.symm
    subst this
    exact ⟨fun x h => (by cases vs <;> cases h), fun _ => rfl⟩
  | k' :: ks, vs, [], ws, k, κ, e, hv, rv, hk => by
    have := nks_len e
    simp at this
  | k' :: ks, vs, y :: xs, ws, k, κ, e, hv, rv, hk => by
    rw [List.map_cons] at hv
    cases hv with
    | @cons v _ ws _ r1 r2 =>
      cases vs with
      | nil => exact absurd rv.length (by simp)
      | cons z vs =>
        obtain ⟨v', w', e1, h1, h2⟩ := rv.of_cons
        obtain ⟨rfl, rfl⟩ := List.cons.inj e1
        rw [nks] at e
        split at e
        · rename_i κ' q1
          split at e
          · rename_i κs q2
            rw [List.map_cons] at e
            obtain ⟨e4, e5⟩ := List.cons.inj (Option.some.inj e)
            have ih := xd_get (ks := ks) (vs := vs) (xs := xs) (k := k) (κ := κ) (by rw [q2, e5]) r2 h2 hk
            rw [dget, atKey_cons]
            by_cases hb : P.beq k' k = true
            · have : k' = k := P.eq_of_beq _ _ hb
              subst this
              rw [q1] at hk
              cases hk
              rw [if_pos hb, if_pos e4.symm]
              exact ⟨fun x h => by cases h; exact ⟨y.2.1, v, y.2.2, rfl, r1, h1⟩, fun h => by cases h⟩
            · have hne : ¬ y.1 = κ := fun z => by
                rw [← e4] at z
                subst z
                exact hb (by rw [nk_inj _ _ _ q1 hk]; exact P.beq_self _)
              rw [if_neg hb, if_neg hne]
              exact ih
          · cases e
        · cases e
/-- flat dicts -/
def keyP : P → Option Key
  | .int i => some (.inl i)
  | .str x => some (.inr x)
  | _ => none
theorem RK.key {x : P} {k : Key} (h : RK x k) : keyP x = some k := by
  cases x <;> cases k <;> first | (cases h; rfl) | exact h.elim
theorem keyP_inj {x y : P} {k : Key} (h : keyP x = some k) (g : keyP y = some k) : x = y := by
  cases x <;> cases y <;> first | (cases h; cases g; rfl) | (cases h; done) | (cases h; cases g; done) | (cases g; done)
theorem keyP_V {x : P} {k : Key} {v : V} (h : keyP x = some k) (r : RP C H x v) : v = kV k := by
  cases x with
  | int i => cases h; exact RP.int_iff.mp r
  | str i => cases h; exact RP.str_iff.mp r
  | _ => cases h
theorem fd_get : ∀ {ks vs : List P} {kvs : List (Key × V)} {k : P} {κ : Key}, Paired RK ks (kvs.map (·.1)) → RPs C H vs (kvs.map (·.2)) → keyP k = some κ →
    (∀ x, dget ks vs k = some x → ∃ v, valV kvs κ = some v ∧ RP C H x v) ∧ (dget ks vs k = none → valV kvs κ = none)
  | [], vs, kvs, k, κ, e, rv, hk => by
    cases kvs with
    | cons p r => cases e
    | nil => exact ⟨fun x h => (by cases vs <;> cases h), fun _ => rfl⟩
  | k' :: ks, vs, [], k, κ, e, rv, hk => by cases e
  | k' :: ks, vs, p :: kvs, k, κ, e, rv, hk => by
    cases e with
    | cons q1 q2 =>
      rw [List.map_cons] at rv
      cases vs with
      | nil => exact absurd rv.length (by simp)
      | cons z vs =>
        obtain ⟨v', w', e1, h1, h2⟩ := rv.of_cons
        obtain ⟨rfl, rfl⟩ := List.cons.inj e1
        have ih := fd_get (ks := ks) (vs := vs) (kvs := kvs) (k := k) (κ := κ) q2 h2 hk
        rw [dget]
        by_cases hb : P.beq k' k = true
        · have : k' = k := P.eq_of_beq _ _ hb
          subst this
          have e2 := q1.key
          rw [hk] at e2
          have e2 : κ = p.1 := Option.some.inj e2
          rw [if_pos hb, valV_pos e2.symm]
          exact ⟨fun x h => by cases h; exact ⟨p.2, rfl, h1⟩, fun h => by cases h⟩
        · have hne : ¬ p.1 = κ := fun z => by
            have e2 : keyP k' = some p.1 := q1.key
            rw [z] at e2
            exact hb (by rw [keyP_inj e2 hk]; exact P.beq_self _)
          rw [if_neg hb, valV_neg hne]
          exact ih
/-- which kind of dict a key goes to -/
theorem kind_of {ks : List P} {k : P} (h : keyOk ks k = true) : (∃ κ, keyP k = some κ ∧ (ks = [] ∨ ∃ x r, ks = x :: r ∧ (keyP x).isSome = true)) ∨ (∃ l, k = .tup l ∧ (ks = [] ∨ ∃ m r, ks = .tup m :: r)) := by
  unfold keyOk at h
  rw [Bool.and_eq_true] at h
  obtain ⟨h1, h2⟩ := h
  cases ks with
  | nil =>
    cases k <;> first
      | exact .inl ⟨_, rfl, .inl rfl⟩
      | exact .inr ⟨_, rfl, .inl rfl⟩
      | simp [sameKind] at h1
  | cons x r =>
    cases k <;> cases x <;> first
      | exact .inl ⟨_, rfl, .inr ⟨_, _, rfl, rfl⟩⟩
      | exact .inr ⟨_, rfl, .inr ⟨_, _, rfl⟩⟩
      | simp [sameKind] at h1
theorem flat_of {a : Addr} {ks vs : List P} {u : HO} (r : RDc C H a ks vs u) (h : ks = [] ∨ ∃ x r, ks = x :: r ∧ (keyP x).isSome = true) : ∃ kvs : List (Key × V), u = .dK kvs ∧ Paired RK ks (kvs.map (·.1)) ∧ RPs C H vs (kvs.map (·.2)) := by
  rcases r with r | ⟨xs, ws, h0, h1, h2, h3, h4, h5, h6, h7, h8, _⟩
  · exact r
  · rcases h with h | ⟨x, r, rfl, hx⟩
    · exact absurd h h0
    · obtain ⟨v, w, e, q, _⟩ := h8.of_cons
      cases x with
      | int i =>
        have := RP.int_iff.mp q
        subst this
        cases xs <;> cases e
      | str i =>
        have := RP.str_iff.mp q
        subst this
        cases xs <;> cases e
      | _ => cases hx
end
end Ev

set_option Elab.async false
set_option linter.all false
set_option maxRecDepth 100000
set_option maxHeartbeats 1000000
namespace Ev
open PySem PySem.Spec PyProof.Rows L2

/-! ### == and < on data -/
theorem py_tup {l : List P} {d : PyData} (h : (P.tup l).py = some d) : ∃ ds, P.pys l = some ds ∧ d = .tuple ds := by
  rw [P.py] at h
  split at h
  · rename_i ds e; exact ⟨ds, e, (Option.some.inj h).symm⟩
  · cases h
theorem py_lst {l : List P} {d : PyData} (h : (P.lst l).py = some d) : ∃ ds, P.pys l = some ds ∧ d = .list ds := by
  rw [P.py] at h
  split at h
  · rename_i ds e; exact ⟨ds, e, (Option.some.inj h).symm⟩
  · cases h
theorem pys_cons {x : P} {l : List P} {ds : List PyData} (h : P.pys (x :: l) = some ds) : ∃ d r, x.py = some d ∧ P.pys l = some r ∧ ds = d :: r := by
  rw [P.pys] at h
  split at h
  · rename_i d e
    split at h
    · rename_i r e2; exact ⟨d, r, e, e2, (Option.some.inj h).symm⟩
    · cases h
  · cases h
mutual
theorem alike_beq : ∀ (a b : P) (x y : PyData), a.py = some x → b.py = some y → PySem.W.alike x y = true → PyData.eqv x y = P.beq a b
  | .non, b, x, y, h, g, k => by
    cases h
    cases b with
    | non => cases g; rfl
    | tup l => obtain ⟨ds, _, rfl⟩ := py_tup g; exact absurd k (by simp [PySem.W.alike])
    | lst l => obtain ⟨ds, _, rfl⟩ := py_lst g; exact absurd k (by simp [PySem.W.alike])
    | _ => cases g <;> exact absurd k (by simp [PySem.W.alike])
  | .bl i, b, x, y, h, g, k => by
    cases h
    cases b with
    | bl j => cases g; simp [PyData.eqv, P.beq]
    | tup l => obtain ⟨ds, _, rfl⟩ := py_tup g; exact absurd k (by simp [PySem.W.alike])
    | lst l => obtain ⟨ds, _, rfl⟩ := py_lst g; exact absurd k (by simp [PySem.W.alike])
    | _ => cases g <;> exact absurd k (by simp [PySem.W.alike])
  | .int i, b, x, y, h, g, k => by
    cases h
    cases b with
    | int j => cases g; rw [PyData.eqv, P.beq]; rfl
    | tup l => obtain ⟨ds, _, rfl⟩ := py_tup g; exact absurd k (by simp [PySem.W.alike])
    | lst l => obtain ⟨ds, _, rfl⟩ := py_lst g; exact absurd k (by simp [PySem.W.alike])
    | _ => cases g <;> exact absurd k (by simp [PySem.W.alike])
  | .str i, b, x, y, h, g, k => by
    cases h
    cases b with
    | str j => cases g; rw [PyData.eqv, P.beq]; rfl
    | tup l => obtain ⟨ds, _, rfl⟩ := py_tup g; exact absurd k (by simp [PySem.W.alike])
    | lst l => obtain ⟨ds, _, rfl⟩ := py_lst g; exact absurd k (by simp [PySem.W.alike])
    | _ => cases g <;> exact absurd k (by simp [PySem.W.alike])
  | .tup l, b, x, y, h, g, k => by
    obtain ⟨ds, e, rfl⟩ := py_tup h
    cases b with
    | tup m =>
      obtain ⟨ds', e', rfl⟩ := py_tup g
      rw [PySem.W.alike] at k
      rw [PyData.eqv, P.beq]
      exact alikes_beq l m ds ds' e e' k
    | lst l => obtain ⟨ds, _, rfl⟩ := py_lst g; exact absurd k (by simp [PySem.W.alike])
    | _ => cases g <;> exact absurd k (by simp [PySem.W.alike])
  | .lst l, b, x, y, h, g, k => by
    obtain ⟨ds, e, rfl⟩ := py_lst h
    cases b with
    | lst m =>
      obtain ⟨ds', e', rfl⟩ := py_lst g
      rw [PySem.W.alike] at k
      rw [PyData.eqv, P.beq]
      exact alikes_beq l m ds ds' e e' k
    | tup l => obtain ⟨ds, _, rfl⟩ := py_tup g; exact absurd k (by simp [PySem.W.alike])
    | _ => cases g <;> exact absurd k (by simp [PySem.W.alike])
  | .dct _ _, _, _, _, h, _, _ => by simp [P.py] at h
  | .rng _ _, _, _, _, h, _, _ => by simp [P.py] at h
  | .glo _, _, _, _, h, _, _ => by simp [P.py] at h
theorem alikes_beq : ∀ (l m : List P) (x y : List PyData), P.pys l = some x → P.pys m = some y → PySem.W.alikeAll x y = true → PyData.eqvAll x y = P.beqs l m
  | [], [], x, y, h, g, k => by cases h; cases g; rfl
  | [], b :: m, x, y, h, g, k => by
    cases h
    obtain ⟨d, r, _, _, rfl⟩ := pys_cons g
    rfl
  | a :: l, [], x, y, h, g, k => by
    cases g
    obtain ⟨d, r, _, _, rfl⟩ := pys_cons h
    rfl
  | a :: l, b :: m, x, y, h, g, k => by
    obtain ⟨d, r, e1, e2, rfl⟩ := pys_cons h
    obtain ⟨d', r', e3, e4, rfl⟩ := pys_cons g
    obtain ⟨k1, k2⟩ := PySem.W.alike_all_cons k
    rw [PySem.W.eqv_all_cons, P.beqs, alike_beq a b d d' e1 e3 k1, alikes_beq l m r r' e2 e4 k2]
end
mutual
theorem ltb_data : ∀ (a b : P) (x y : PyData), a.py = some x → b.py = some y → PySem.W.alike x y = true → PySem.W.dataLt x y = P.ltb a b
  | .non, b, x, y, h, g, k => by
    cases h
    cases b with
    | non => cases g; decide +kernel
    | tup l => obtain ⟨ds, _, rfl⟩ := py_tup g; exact absurd k (by simp [PySem.W.alike])
    | lst l => obtain ⟨ds, _, rfl⟩ := py_lst g; exact absurd k (by simp [PySem.W.alike])
    | _ => cases g <;> exact absurd k (by simp [PySem.W.alike])
  | .bl i, b, x, y, h, g, k => by
    cases h
    cases b with
    | bl j => cases g; rw [PySem.W.dataLt_bool, P.ltb]; cases i <;> cases j <;> decide +kernel
    | tup l => obtain ⟨ds, _, rfl⟩ := py_tup g; exact absurd k (by simp [PySem.W.alike])
    | lst l => obtain ⟨ds, _, rfl⟩ := py_lst g; exact absurd k (by simp [PySem.W.alike])
    | _ => cases g <;> exact absurd k (by simp [PySem.W.alike])
  | .int i, b, x, y, h, g, k => by
    cases h
    cases b with
    | int j => cases g; rw [PySem.W.dataLt_int, P.ltb]
    | tup l => obtain ⟨ds, _, rfl⟩ := py_tup g; exact absurd k (by simp [PySem.W.alike])
    | lst l => obtain ⟨ds, _, rfl⟩ := py_lst g; exact absurd k (by simp [PySem.W.alike])
    | _ => cases g <;> exact absurd k (by simp [PySem.W.alike])
  | .str i, b, x, y, h, g, k => by
    cases h
    cases b with
    | str j => cases g; rw [PySem.W.dataLt_str, P.ltb]
    | tup l => obtain ⟨ds, _, rfl⟩ := py_tup g; exact absurd k (by simp [PySem.W.alike])
    | lst l => obtain ⟨ds, _, rfl⟩ := py_lst g; exact absurd k (by simp [PySem.W.alike])
    | _ => cases g <;> exact absurd k (by simp [PySem.W.alike])
  | .tup l, b, x, y, h, g, k => by
    obtain ⟨ds, e, rfl⟩ := py_tup h
    cases b with
    | tup m =>
      obtain ⟨ds', e', rfl⟩ := py_tup g
      rw [PySem.W.alike] at k
      rw [PySem.W.dataLt_tuple, P.ltb]
      exact ltbs_data l m ds ds' e e' k
    | lst l => obtain ⟨ds, _, rfl⟩ := py_lst g; exact absurd k (by simp [PySem.W.alike])
    | _ => cases g <;> exact absurd k (by simp [PySem.W.alike])
  | .lst l, b, x, y, h, g, k => by
    obtain ⟨ds, e, rfl⟩ := py_lst h
    cases b with
    | lst m =>
      obtain ⟨ds', e', rfl⟩ := py_lst g
      rw [PySem.W.alike] at k
      rw [PySem.W.dataLt_list, P.ltb]
      exact ltbs_data l m ds ds' e e' k
    | tup l => obtain ⟨ds, _, rfl⟩ := py_tup g; exact absurd k (by simp [PySem.W.alike])
    | _ => cases g <;> exact absurd k (by simp [PySem.W.alike])
  | .dct _ _, _, _, _, h, _, _ => by simp [P.py] at h
  | .rng _ _, _, _, _, h, _, _ => by simp [P.py] at h
  | .glo _, _, _, _, h, _, _ => by simp [P.py] at h
theorem ltbs_data : ∀ (l m : List P) (x y : List PyData), P.pys l = some x → P.pys m = some y → PySem.W.alikeAll x y = true → PyProof.Rows.lexLt itemOrd (PySem.W.keyToksAll x) (PySem.W.keyToksAll y) = P.ltbs l m
  | [], [], x, y, h, g, k => by cases h; cases g; decide +kernel
  | [], b :: m, x, y, h, g, k => by
    cases h
    obtain ⟨d, r, _, _, rfl⟩ := pys_cons g
    rw [PySem.W.toks_all_cons, P.ltbs]
    show lexLt itemOrd (PySem.W.keyToksAll []) _ = true
    rfl
  | a :: l, [], x, y, h, g, k => by
    cases g
    obtain ⟨d, r, _, _, rfl⟩ := pys_cons h
    rw [PySem.W.toks_all_cons, P.ltbs]
    show lexLt itemOrd _ (PySem.W.keyToksAll []) = false
    rfl
  | a :: l, b :: m, x, y, h, g, k => by
    obtain ⟨d, r, e1, e2, rfl⟩ := pys_cons h
    obtain ⟨d', r', e3, e4, rfl⟩ := pys_cons g
    obtain ⟨k1, k2⟩ := PySem.W.alike_all_cons k
    have q := alike_beq a b d d' e1 e3 k1
    rw [P.ltbs]
    by_cases hb : P.beq a b = true
    · rw [if_pos hb, PySem.W.dataLt_all_yes k1 (by rw [q, hb])]
      exact ltbs_data l m r r' e2 e4 k2
    · rw [if_neg hb, PySem.W.dataLt_all_no k1 (by rw [q]; simpa using hb)]
      exact ltb_data a b d d' e1 e3 k1
end
end Ev

set_option Elab.async false
set_option linter.all false
set_option maxRecDepth 100000
set_option maxHeartbeats 1000000
namespace Ev
open PySem PySem.Spec PyProof.Rows L2

section
variable {C : Gc} {X : Cx}
mutual
theorem dp_of {H : Hp} : ∀ (x : P) (v : V) (d : PyData), RP C H x v → x.py = some d → Dp C.K H v d
  | .non, v, d, h, e => by cases e; rw [RP.non_iff.mp h]; exact .non
  | .bl _, v, d, h, e => by cases e; rw [RP.bl_iff.mp h]; exact .bl _
  | .int _, v, d, h, e => by cases e; rw [RP.int_iff.mp h]; exact .int _
  | .str _, v, d, h, e => by cases e; rw [RP.str_iff.mp h]; exact .str _
  | .tup l, v, d, h, e => by
    obtain ⟨ds, e2, rfl⟩ := py_tup e
    obtain ⟨a, xs, rfl, e3, r⟩ := RP.tup_iff.mp h
    exact .tup (SqT.of e3) (dps_of l xs ds r e2)
  | .lst l, v, d, h, e => by
    obtain ⟨ds, e2, rfl⟩ := py_lst e
    obtain ⟨a, xs, rfl, e3, r⟩ := RP.lst_iff.mp h
    exact .lst (.inl e3.sq) (dps_of l xs ds r e2)
  | .dct _ _, _, _, _, e => by simp [P.py] at e
  | .rng _ _, _, _, _, e => by simp [P.py] at e
  | .glo _, _, _, _, e => by simp [P.py] at e
theorem dps_of {H : Hp} : ∀ (l : List P) (vs : List V) (ds : List PyData), RPs C H l vs → P.pys l = some ds → DpAll C.K H vs ds
  | [], vs, ds, h, e => by cases e; rw [h.of_nil]; exact .nil
  | x :: l, vs, ds, h, e => by
    obtain ⟨v, r, rfl, h1, h2⟩ := h.of_cons
    obtain ⟨d, ds', e1, e2, rfl⟩ := pys_cons e
    exact .cons (dp_of x v d h1 e1) (dps_of l r ds' h2 e2)
end
theorem VP.dp {H : Hp} {x : P} {v : V} {d : PyData} (h : VP C H x v) (e : x.py = some d) : Dp C.K H v d := by
  cases x with
  | lst l =>
    obtain ⟨ds, e2, rfl⟩ := py_lst e
    obtain ⟨a, xs, rfl, e3, r⟩ := h
    exact .lst (.inl e3) (dps_of l xs ds r e2)
  | dct _ _ => simp [P.py] at e
  | non => exact dp_of _ v d h e
  | bl _ => exact dp_of _ v d h e
  | int _ => exact dp_of _ v d h e
  | str _ => exact dp_of _ v d h e
  | tup _ => exact dp_of _ v d h e
  | rng _ _ => simp [P.py] at e
  | glo _ => simp [P.py] at e
theorem peq_of {a b : P} {c : Bool} (h : peq a b = some c) : ∃ x y, a.py = some x ∧ b.py = some y ∧ SeqAt.shaped x = true ∧ SeqAt.shaped y = true ∧ PyData.eqv x y = c := by
  unfold peq at h
  split at h
  · rename_i x y e1 e2
    split at h
    · rename_i q
      rw [Bool.and_eq_true] at q
      exact ⟨x, y, e1, e2, q.1, q.2, Option.some.inj h⟩
    · cases h
  · cases h
theorem c_eq (hK : X.K = C.K) (hu : X.A.units + 65 < cLine) : OpR X (compareOp .Eq) (rC C (evC .eq)) := by
  intro pins s σ H v w u1 u2 Q I rx ry h
  obtain ⟨x, y, z, h1, h2, e, q⟩ := h
  obtain ⟨d, d', e1, e2, s1, s2, rfl⟩ := peq_of e
  exact op_eqD (by omega) pins s σ H v w u1 u2 Q I rx ry ⟨d, d', by rw [hK]; exact h1.dp e1, by rw [hK]; exact h2.dp e2, s1, s2, q⟩
theorem c_ne (hK : X.K = C.K) (hu : X.A.units + 65 < cLine) : OpR X (compareOp .NotEq) (rC C (evC .ne)) := by
  intro pins s σ H v w u1 u2 Q I rx ry h
  obtain ⟨x, y, z, h1, h2, e, q⟩ := h
  have e : (match peq x y with | some c => some (!c) | none => none) = some z := e
  cases e0 : peq x y with
  | none => rw [e0] at e; cases e
  | some c =>
    rw [e0] at e
    cases e
    obtain ⟨d, d', e1, e2, s1, s2, rfl⟩ := peq_of e0
    exact op_neD (by omega) pins s σ H v w u1 u2 Q I rx ry ⟨d, d', by rw [hK]; exact h1.dp e1, by rw [hK]; exact h2.dp e2, s1, s2, q⟩
theorem inSeq_of {a : P} {l : List P} {c : Bool} (h : inSeq a l = some c) : ∃ x ds, a.py = some x ∧ P.pys l = some ds ∧ SeqAt.shaped x = true ∧ SeqAt.shaped (.list ds) = true ∧ (ds.any fun z => PyData.eqv z x) = c := by
  unfold inSeq at h
  split at h
  · rename_i x y e1 e2
    split at h
    · rename_i q
      rw [Bool.and_eq_true] at q
      exact ⟨x, y, e1, e2, q.1, q.2, Option.some.inj h⟩
    · cases h
  · cases h
theorem canAll {ds : List PyData} (h : SeqAt.shaped (.list ds) = true) : PyData.canLayAll0 ds = true := SeqAt.canLay_of_shaped h
theorem room_in {A : Around} {ds : List PyData} {d : PyData} (h : SeqAt.shaped d = true) (hu : A.units + 65 < cLine) : A.units + 1 + min (PyData.depthAll ds) d.depth < cLine := by
  have h1 := SeqAt.depth_of_shaped h
  have h2 : min (PyData.depthAll ds) d.depth ≤ d.depth := Nat.min_le_right _ _
  omega
/-- x in d, by the dict's content -/
theorem dct_in (hP : X.prog = C.P) (hw : X.w = C.w) (hu : X.A.units + 65 < cLine) {pins : List (Addr × Obj)} {σ : L2.St} {H : Hp} {s : Shared} {E : Value → Shared → Prop} {Q : Value → Shared → Prop} {a : Addr} {u : HO} {ks vs : List P} {k : P} {y : V} {v : Value} (I : Inv X pins σ H s)
    (hd : Rd H a u) (r : RDc C H a ks vs u) (hk : keyOk ks k = true) (ry : RP C H k y) (rv : RelV y v) :
    ((∀ s', Inv X pins σ H s' → Q (.bool (dget ks vs k).isSome) s') → wpAny (model X.prog X.w) X.A (compareOp .In v (.ref a)) Q E s) ∧ ((∀ s', Inv X pins σ H s' → Q (.bool (!(dget ks vs k).isSome)) s') → wpAny (model X.prog X.w) X.A (compareOp .NotIn v (.ref a)) Q E s) := by
  rcases kind_of hk with ⟨κ, hκ, hf⟩ | ⟨l, rfl, hf⟩
  · obtain ⟨kvs, rfl, e1, e2⟩ := flat_of r hf
    obtain ⟨z, hs, vs', rel, dd⟩ := dk_rd I.hok hd
    have ey := keyP_V hκ ry
    subst ey
    have g := fd_get e1 e2 hκ
    have e3 : (dget ks vs k).isSome = (valueAt vs' κ).isSome := by
      rw [← (rel.val κ).isSome_eq]
      cases q : dget ks vs k with
      | none => rw [g.2 q] <;> rfl
      | some x => obtain ⟨w, e4, _⟩ := g.1 x q; rw [e4]; rfl
    refine ⟨fun h => wpAny_in_of (kV_is rv) hs dd.mapOf ?_, fun h => wpAny_notIn_of (kV_is rv) hs dd.mapOf ?_⟩
    · rw [← e3]; exact h _ (I.tok _)
    · rw [← e3]; exact h _ (I.tok _)
  · obtain ⟨xs, ws, D⟩ := xd_of I hP hw hd r (by rcases hf with h | ⟨m, r, h⟩; exact .inl h; exact .inr ⟨m, r, h⟩)
    have hk8 : P.isKey 8 (.tup l) = true := by unfold keyOk at hk; rw [Bool.and_eq_true] at hk; exact hk.2
    obtain ⟨κ, e1, d1⟩ := nk_some 8 _ hk8
    obtain ⟨b, ys, rfl, eb, rl⟩ := RP.tup_iff.mp ry
    cases rv
    have ki : (nestedKind C.P C.w).is s.heap κ b := ⟨nis I _ _ _ _ ry rfl e1, d1⟩
    have g := xd_get D.keys D.vals D.rv e1
    have e3 : (dget ks vs (.tup l)).isSome = (atKey xs κ).isSome := by
      cases q : dget ks vs (.tup l) with
      | none => rw [g.2 q] <;> rfl
      | some x => obtain ⟨b', v', w', e4, _⟩ := g.1 x q; rw [e4]; rfl
    have room : (nestedKind C.P C.w).room X.A.in1 := by show X.A.units + 1 + 8 < cLine; omega
    rw [hP, hw]
    refine ⟨fun h => wpAny_in_heap room ki D.nsys D.dict ?_, fun h => wpAny_notIn_heap room ki D.nsys D.dict ?_⟩
    · rw [← e3]; exact h _ (I.tok _)
    · rw [← e3]; exact h _ (I.tok _)
/-- d[x], there -/
theorem dct_get (hP : X.prog = C.P) (hw : X.w = C.w) (hu : X.A.units + 65 < cLine) {A : Around} (hA : A.units ≤ X.A.units + 2) {pins : List (Addr × Obj)} {σ : L2.St} {H : Hp} {s : Shared} {E : Value → Shared → Prop} {Q : Value → Shared → Prop} {a : Addr} {u : HO} {ks vs : List P} {k x : P} {y : V} {v : Value} (I : Inv X pins σ H s)
    (hd : Rd H a u) (r : RDc C H a ks vs u) (hk : keyOk ks k = true) (ry : RP C H k y) (rv : RelV y v) (hx : dget ks vs k = some x) (h : ∀ s' z w, Inv X pins σ H s' → RP C H x z → RelV z w → Q w s') :
    wpAny (model X.prog X.w) A (getItem (.ref a) v) Q E s := by
  rcases kind_of hk with ⟨κ, hκ, hf⟩ | ⟨l, rfl, hf⟩
  · obtain ⟨kvs, rfl, e1, e2⟩ := flat_of r hf
    obtain ⟨z, hs, vs', rel, dd⟩ := dk_rd I.hok hd
    have ey := keyP_V hκ ry
    subst ey
    obtain ⟨w, e4, rw4⟩ := (fd_get e1 e2 hκ).1 x hx
    obtain ⟨w', hw', rw'⟩ := RelO.some_of (v := w) (o := valueAt vs' κ) (by rw [← e4]; exact rel.val κ)
    exact wpAny_getItem_of (kV_is rv) dd.mapOf hw' (h _ w w' (I.tok _) rw4 rw')
  · obtain ⟨xs, ws, D⟩ := xd_of I hP hw hd r (by rcases hf with h | ⟨m, r, h⟩; exact .inl h; exact .inr ⟨m, r, h⟩)
    have hk8 : P.isKey 8 (.tup l) = true := by unfold keyOk at hk; rw [Bool.and_eq_true] at hk; exact hk.2
    obtain ⟨κ, e1, d1⟩ := nk_some 8 _ hk8
    obtain ⟨b, ys, rfl, eb, rl⟩ := RP.tup_iff.mp ry
    cases rv
    have ki : (nestedKind C.P C.w).is s.heap κ b := ⟨nis I _ _ _ _ ry rfl e1, d1⟩
    obtain ⟨b', v', w', e4, rv', rp'⟩ := (xd_get D.keys D.vals D.rv e1).1 x hx
    have room : (nestedKind C.P C.w).room A.in1 := by show A.units + 1 + 8 < cLine; omega
    rw [hP, hw]
    exact wpAny_getItem_heap room ki D.dict e4 (h _ v' w' (I.tok _) rp' rv')
theorem dct_type {pins : List (Addr × Obj)} {σ : L2.St} {H : Hp} {s : Shared} {a : Addr} {u : HO} {ks vs : List P} (I : Inv X pins σ H s) (hd : Rd H a u) (r : RDc C H a ks vs u) : ∃ o, s.heap.get? a = some o ∧ o.ExactDict := by
  rcases r with ⟨kvs, rfl, _⟩ | ⟨xs, ws, _, rfl, _⟩
  · obtain ⟨z, hs, vs', rel, o, es, ep, h1, h2, _⟩ := dk_rd I.hok hd
    exact ⟨o, h1, h2⟩
  · obtain ⟨o, es, ep, h1, h2, _⟩ := dx_rd I hd
    exact ⟨o, h1, h2⟩
theorem keyOk_rp {H : Hp} {ks : List P} {k : P} {y : V} (hk : keyOk ks k = true) (h : VP C H k y) : RP C H k y := by
  cases k with
  | lst l => rcases kind_of hk with ⟨κ, e, _⟩ | ⟨l, e, _⟩ <;> cases e
  | dct a b => rcases kind_of hk with ⟨κ, e, _⟩ | ⟨l, e, _⟩ <;> cases e
  | _ => exact h
theorem c_in (hP : X.prog = C.P) (hw : X.w = C.w) (hK : X.K = C.K) (hu : X.A.units + 65 < cLine) : OpR X (compareOp .In) (rC C (evC .isin)) := by
  intro pins s σ H v w u1 u2 Q I rx ry h
  obtain ⟨x, y, z, h1, h2, e, q⟩ := h
  cases y with
  | tup l =>
    obtain ⟨d, ds, e1, e2, s1, s2, rfl⟩ := inSeq_of (show inSeq x l = some z from e)
    obtain ⟨a, xs, rfl, e3, r⟩ := h2.tup
    obtain ⟨as, r1⟩ := Dp.reads I d v u1 (by rw [hK]; exact h1.dp e1) rx
    obtain ⟨bs, r2⟩ := Dp.reads I (.tuple ds) (.ref a) u2 (.tup (SqT.of e3) (by rw [hK]; exact dps_of l xs ds r e2)) ry
    exact SeqAt.in_tuple_reads r2 r1 (canAll s2) (SeqAt.canLay_of_shaped s1) (room_in s1 hu) ⟨.bl _, H, I, rfl, q⟩
  | lst l =>
    obtain ⟨d, ds, e1, e2, s1, s2, rfl⟩ := inSeq_of (show inSeq x l = some z from e)
    obtain ⟨a, xs, rfl, e3, r⟩ := h2
    obtain ⟨as, r1⟩ := Dp.reads I d v u1 (by rw [hK]; exact h1.dp e1) rx
    obtain ⟨bs, r2⟩ := Dp.reads I (.list ds) (.ref a) u2 (.lst (.inl e3) (by rw [hK]; exact dps_of l xs ds r e2)) ry
    exact SeqAt.in_list_reads r2 r1 (canAll s2) (SeqAt.canLay_of_shaped s1) (room_in s1 hu) ⟨.bl _, H, I, rfl, q⟩
  | dct ks vs =>
    have e : (if keyOk ks x then some (dget ks vs x).isSome else none) = some z := e
    split at e
    · rename_i hk
      cases e
      obtain ⟨a, u, rfl, e2, r⟩ := h2
      cases ry
      exact (dct_in hP hw hu I e2 r hk (keyOk_rp hk h1) rx).1 fun s' I' => ⟨.bl _, H, I', rfl, q⟩
    · cases e
  | _ => cases e
theorem c_notin (hP : X.prog = C.P) (hw : X.w = C.w) (hK : X.K = C.K) (hu : X.A.units + 65 < cLine) : OpR X (compareOp .NotIn) (rC C (evC .notin)) := by
  intro pins s σ H v w u1 u2 Q I rx ry h
  obtain ⟨x, y, z, h1, h2, e, q⟩ := h
  cases y with
  | tup l =>
    have e : (match inSeq x l with | some c => some (!c) | none => none) = some z := e
    cases e0 : inSeq x l with
    | none => rw [e0] at e; cases e
    | some c =>
      rw [e0] at e
      cases e
      obtain ⟨d, ds, e1, e2, s1, s2, rfl⟩ := inSeq_of e0
      obtain ⟨a, xs, rfl, e3, r⟩ := h2.tup
      obtain ⟨as, r1⟩ := Dp.reads I d v u1 (by rw [hK]; exact h1.dp e1) rx
      obtain ⟨bs, r2⟩ := Dp.reads I (.tuple ds) (.ref a) u2 (.tup (SqT.of e3) (by rw [hK]; exact dps_of l xs ds r e2)) ry
      exact SeqAt.notIn_tuple_reads r2 r1 (canAll s2) (SeqAt.canLay_of_shaped s1) (room_in s1 hu) ⟨.bl _, H, I, rfl, q⟩
  | lst l =>
    have e : (match inSeq x l with | some c => some (!c) | none => none) = some z := e
    cases e0 : inSeq x l with
    | none => rw [e0] at e; cases e
    | some c =>
      rw [e0] at e
      cases e
      obtain ⟨d, ds, e1, e2, s1, s2, rfl⟩ := inSeq_of e0
      obtain ⟨a, xs, rfl, e3, r⟩ := h2
      obtain ⟨as, r1⟩ := Dp.reads I d v u1 (by rw [hK]; exact h1.dp e1) rx
      obtain ⟨bs, r2⟩ := Dp.reads I (.list ds) (.ref a) u2 (.lst (.inl e3) (by rw [hK]; exact dps_of l xs ds r e2)) ry
      exact SeqAt.notIn_list_reads r2 r1 (canAll s2) (SeqAt.canLay_of_shaped s1) (room_in s1 hu) ⟨.bl _, H, I, rfl, q⟩
  | dct ks vs =>
    have e : (if keyOk ks x then some (!(dget ks vs x).isSome) else none) = some z := e
    split at e
    · rename_i hk
      cases e
      obtain ⟨a, u, rfl, e2, r⟩ := h2
      cases ry
      exact (dct_in hP hw hu I e2 r hk (keyOk_rp hk h1) rx).2 fun s' I' => ⟨.bl _, H, I', rfl, q⟩
    · cases e
  | _ => cases e
theorem c_lt (hK : X.K = C.K) (hu : X.A.units + 65 < cLine) : OpR X (compareOp .Lt) (rC C (evC .lt)) := by
  intro pins s σ H v w u1 u2 Q I rx ry h
  obtain ⟨x, y, z, h1, h2, e, q⟩ := h
  cases x with
  | int i =>
    cases y with
    | int j =>
      cases e
      have := h1.int; subst this
      have := h2.int; subst this
      exact op_lt pins s σ H _ _ u1 u2 Q I rx ry ⟨i, j, rfl, rfl, q⟩
    | _ => cases e
  | tup l =>
    cases y with
    | tup m =>
      have e : (match P.pys l, P.pys m with
        | some x, some y => if PySem.W.alike (.tuple x) (.tuple y) && SeqAt.shaped (.tuple x) then some (P.ltbs l m) else none
        | _, _ => none) = some z := e
      split at e
      · rename_i x y e1 e2
        split at e
        · rename_i hh
          rw [Bool.and_eq_true] at hh
          cases e
          obtain ⟨as, r1⟩ := Dp.reads I (.tuple x) v u1 (by rw [hK]; exact h1.dp (by rw [P.py, e1])) rx
          obtain ⟨bs, r2⟩ := Dp.reads I (.tuple y) w u2 (by rw [hK]; exact h2.dp (by rw [P.py, e2])) ry
          have hd := SeqAt.depth_of_shaped hh.2
          have hm : min (PyData.tuple x).depth (PyData.tuple y).depth ≤ (PyData.tuple x).depth := Nat.min_le_left _ _
          refine PySem.W.lt_data r1 r2 hh.1 (fun z => by cases z) (by omega) ⟨.bl _, H, I, rfl, ?_⟩
          rw [PySem.W.dataLt_tuple, ltbs_data l m x y e1 e2 (by have := hh.1; rwa [PySem.W.alike] at this)]
          exact q
        · cases e
      · cases e
    | _ => cases e
  | _ => cases e
theorem c_le : OpR X (compareOp .LtE) (rC C (evC .le)) := by
  intro pins s σ H v w u1 u2 Q I rx ry h
  obtain ⟨x, y, z, h1, h2, e, q⟩ := h
  cases x with
  | int i =>
    cases y with
    | int j =>
      cases e
      have := h1.int; subst this
      have := h2.int; subst this
      exact op_le pins s σ H _ _ u1 u2 Q I rx ry ⟨i, j, rfl, rfl, q⟩
    | _ => cases e
  | _ => cases e
theorem c_gt : OpR X (compareOp .Gt) (rC C (evC .gt)) := by
  intro pins s σ H v w u1 u2 Q I rx ry h
  obtain ⟨x, y, z, h1, h2, e, q⟩ := h
  cases x with
  | int i =>
    cases y with
    | int j =>
      cases e
      have := h1.int; subst this
      have := h2.int; subst this
      exact op_gt pins s σ H _ _ u1 u2 Q I rx ry ⟨i, j, rfl, rfl, q⟩
    | _ => cases e
  | _ => cases e
theorem c_ge : OpR X (compareOp .GtE) (rC C (evC .ge)) := by
  intro pins s σ H v w u1 u2 Q I rx ry h
  obtain ⟨x, y, z, h1, h2, e, q⟩ := h
  cases x with
  | int i =>
    cases y with
    | int j =>
      cases e
      have := h1.int; subst this
      have := h2.int; subst this
      exact op_ge pins s σ H _ _ u1 u2 Q I rx ry ⟨i, j, rfl, rfl, q⟩
    | _ => cases e
  | _ => cases e
def isNonP : P → Bool
  | .non => true
  | _ => false
theorem VP.isNon {H : Hp} {x : P} {v : V} (h : VP C H x v) : decide (v = .non) = isNonP x := by
  cases x with
  | non => rw [h.non]; rfl
  | bl _ => rw [h.bl]; rfl
  | int _ => rw [h.int]; rfl
  | str _ => rw [h.str]; rfl
  | tup _ => obtain ⟨a, xs, rfl, _⟩ := h.tup; rfl
  | lst _ => obtain ⟨a, xs, rfl, _⟩ := h; rfl
  | dct _ _ => obtain ⟨a, xs, rfl, _⟩ := h; rfl
  | rng _ _ => obtain ⟨a, rfl, _⟩ := RP.rng_iff.mp (show RP C H _ v from h); rfl
  | glo _ => obtain ⟨a, _, rfl⟩ := RP.glo_iff.mp (show RP C H _ v from h); rfl
theorem c_isNone : OpR X (compareOp .Is) (rC C (evC .isNone)) := by
  intro pins s σ H v w u1 u2 Q I rx ry h
  obtain ⟨x, y, z, h1, h2, e, q⟩ := h
  cases y with
  | non =>
    have := h2.non; subst this
    refine op_isN pins s σ H _ _ u1 u2 Q I rx ry ⟨rfl, ?_⟩
    rw [h1.isNon]
    have e2 : z = isNonP x := by
      have := (Option.some.inj e).symm
      rw [this]; cases x <;> rfl
    rw [← e2]; exact q
  | _ => cases e
theorem c_notNone : OpR X (compareOp .IsNot) (rC C (evC .notNone)) := by
  intro pins s σ H v w u1 u2 Q I rx ry h
  obtain ⟨x, y, z, h1, h2, e, q⟩ := h
  cases y with
  | non =>
    have := h2.non; subst this
    refine op_notN pins s σ H _ _ u1 u2 Q I rx ry ⟨rfl, ?_⟩
    rw [h1.isNon]
    have e2 : z = !isNonP x := by
      have := (Option.some.inj e).symm
      rw [this]; cases x <;> rfl
    rw [← e2]; exact q
  | _ => cases e
end
end Ev

set_option Elab.async false
set_option linter.all false
set_option maxRecDepth 100000
set_option maxHeartbeats 4000000
namespace Ev
open PySem PySem.Spec PyProof.Rows L2

/-! ### a tuple once -/
theorem tup_once (l : Addr) (items : Array Value) (n : Nat) (dd : Option Addr) (sl : Array (Option Value)) (u : Tok) :
    Meets (Builtin.«tuple.__mul__» ⟨[.ref l, .int 1 u], []⟩) (fun _ R s => s.heap.get? l = some { cls := .type "tuple", dict := dd, data := .seq items n, slots := sl } ∧ R (.ok (.ret (Value.ref l))) s) :=
  .of_wp fun prog w A R s h => by
    obtain ⟨hp, g, d, tk, os⟩ := s
    obtain ⟨hl, h⟩ := h
    have f1 := AutoSeq1.idx_int
    wp_walk using wpAny_loadPart' hl
    exact ⟨_, rfl, h⟩
section
variable {X : Cx}
theorem op_once : OpR X (binaryOp .Mult) (fun x y H Q => ∃ l xs, x = .ref l ∧ y = .int 1 ∧ SqT X.K H l xs ∧ Q (.ref l) H) := by
  intro pins s σ H x y v u Q I rx ry h
  obtain ⟨l, xs, rfl, rfl, hT, q⟩ := h
  cases rx
  obtain ⟨t, rfl⟩ := ry
  obtain ⟨its, r, ⟨⟨cls, dd, data, sl⟩, ho, hc, n, hd⟩, hs⟩ := I.tuple hT
  simp only at hc hd
  subst hc hd
  exact wpAny_binaryOp_repeat_ref (T := "tuple") (U := "int") (by decide) ⟨_, ho, rfl⟩ (fun s' => typeIs_int s' 1 t) noFill_tuple_mul F.fills_int_mul F.slot_int_rmul repeat_tuple F.slot_int_index.lookup
    (call_meets F.slot_int_rmul (typeIs_int s 1 t) F.entry_int_rmul (F.args_int_rmul_2 _ _) (int_rmul_tuple 1 t l its.toArray n dd sl)
      ⟨ho, rfl, ⟨_, ho, rfl⟩, call_meets F.slot_tuple_mul ⟨_, ho, rfl⟩ F.entry_tuple_mul (F.args_tuple_mul_2 _ _) (tup_once l its.toArray n dd sl t) ⟨ho, ⟨.ref l, H, I, rfl, q⟩⟩⟩)
end
end Ev

set_option Elab.async false
set_option linter.all false
set_option maxRecDepth 100000
set_option maxHeartbeats 1000000
namespace Ev
open PySem PySem.Spec PyProof.Rows L2

section
variable {C : Gc} {X : Cx}
/-! ### is True and the like -/
def isBlP (b : Bool) : P → Bool
  | .bl c => c == b
  | _ => false
theorem VP.plainBl {H : Hp} {x : P} {v : V} {u : Value} (h : VP C H x v) (r : RelV v u) (b : Bool) : plainIs u (.bool b) = true ∧ (u == Value.bool b) = isBlP b x := by
  cases x with
  | non => rw [h.non] at r; cases r; exact ⟨rfl, by simp [isBlP]⟩
  | bl c => rw [h.bl] at r; cases r; exact ⟨rfl, by cases b <;> cases c <;> decide⟩
  | int _ => rw [h.int] at r; obtain ⟨t, rfl⟩ := r; exact ⟨rfl, by simp [isBlP]⟩
  | str _ => rw [h.str] at r; obtain ⟨t, rfl⟩ := r; exact ⟨rfl, by simp [isBlP]⟩
  | tup _ => obtain ⟨a, xs, rfl, _⟩ := h.tup; cases r; exact ⟨rfl, by simp [isBlP]⟩
  | lst _ => obtain ⟨a, xs, rfl, _⟩ := h; cases r; exact ⟨rfl, by simp [isBlP]⟩
  | dct _ _ => obtain ⟨a, xs, rfl, _⟩ := h; cases r; exact ⟨rfl, by simp [isBlP]⟩
  | rng _ _ => obtain ⟨a, rfl, _⟩ := RP.rng_iff.mp (show RP C H _ v from h); cases r; exact ⟨rfl, by simp [isBlP]⟩
  | glo _ => obtain ⟨a, _, rfl⟩ := RP.glo_iff.mp (show RP C H _ v from h); cases r; exact ⟨rfl, by simp [isBlP]⟩
theorem is_blP {b : Bool} {x : P} {z : Bool} (h : (match b with | true => evC .isTrue x (.bl true) | false => evC .isFalse x (.bl false)) = some z) : z = isBlP b x := by
  cases b <;> (have := (Option.some.inj h).symm; rw [this]; cases x <;> first | rfl | (rename_i q; cases q <;> rfl))
theorem c_isTrue : OpR X (compareOp .Is) (rC C (evC .isTrue)) := by
  intro pins s σ H v w u1 u2 Q I rx ry h
  obtain ⟨x, y, z, h1, h2, e, q⟩ := h
  cases y with
  | bl b =>
    cases b with
    | true =>
      have := h2.bl; subst this
      cases ry
      obtain ⟨p1, p2⟩ := h1.plainBl rx true
      exact wpAny_is_plain p1 ⟨.bl z, H, I, by rw [p2, is_blP (b := true) e]; rfl, q⟩
    | false => cases e
  | _ => cases e
theorem c_isFalse : OpR X (compareOp .Is) (rC C (evC .isFalse)) := by
  intro pins s σ H v w u1 u2 Q I rx ry h
  obtain ⟨x, y, z, h1, h2, e, q⟩ := h
  cases y with
  | bl b =>
    cases b with
    | false =>
      have := h2.bl; subst this
      cases ry
      obtain ⟨p1, p2⟩ := h1.plainBl rx false
      exact wpAny_is_plain p1 ⟨.bl z, H, I, by rw [p2, is_blP (b := false) e]; rfl, q⟩
    | true => cases e
  | _ => cases e
theorem not_blP {b : Bool} {x : P} {z : Bool} (h : (match b with | true => evC .notTrue x (.bl true) | false => evC .notFalse x (.bl false)) = some z) : z = !isBlP b x := by
  cases b <;> (have := (Option.some.inj h).symm; rw [this]; cases x <;> first | rfl | (rename_i q; cases q <;> rfl))
theorem c_notTrue : OpR X (compareOp .IsNot) (rC C (evC .notTrue)) := by
  intro pins s σ H v w u1 u2 Q I rx ry h
  obtain ⟨x, y, z, h1, h2, e, q⟩ := h
  cases y with
  | bl b =>
    cases b with
    | true =>
      have := h2.bl; subst this
      cases ry
      obtain ⟨p1, p2⟩ := h1.plainBl rx true
      exact wpAny_isNot_plain p1 ⟨.bl z, H, I, by rw [p2, not_blP (b := true) e]; rfl, q⟩
    | false => cases e
  | _ => cases e
theorem c_notFalse : OpR X (compareOp .IsNot) (rC C (evC .notFalse)) := by
  intro pins s σ H v w u1 u2 Q I rx ry h
  obtain ⟨x, y, z, h1, h2, e, q⟩ := h
  cases y with
  | bl b =>
    cases b with
    | false =>
      have := h2.bl; subst this
      cases ry
      obtain ⟨p1, p2⟩ := h1.plainBl rx false
      exact wpAny_isNot_plain p1 ⟨.bl z, H, I, by rw [p2, not_blP (b := false) e]; rfl, q⟩
    | true => cases e
  | _ => cases e

/-! ### two-place operations -/
theorem atP_at {H : Hp} {l : List P} {xs : List V} {i : Int} {x : P} (r : RPs C H l xs) (h : atP l i = some x) : ∃ v, L2.atI xs i = some v ∧ RP C H x v := by
  unfold atP at h
  have e : ixN l.length i = L2.ixN xs.length i := by rw [r.length]; rfl
  rw [e] at h
  unfold L2.atI
  cases q : L2.ixN xs.length i with
  | none => rw [q] at h; cases h
  | some j => rw [q] at h; exact r.get h
theorem big_line : big = sizeLine := sizeLine_eq.symm
theorem b_add (hK : X.K = C.K) : OpR X (binaryOp .Add) (rB C (evB .add)) := by
  intro pins s σ H v w u1 u2 Q I rx ry h
  obtain ⟨x, y, z, h1, h2, e, q⟩ := h
  cases x with
  | int i =>
    cases y with
    | int j =>
      cases e
      have := h1.int; subst this
      have := h2.int; subst this
      exact op_add pins s σ H _ _ u1 u2 Q I rx ry ⟨i, j, rfl, rfl, q H _ (Same.refl H) (RP.int_iff.mpr rfl)⟩
    | _ => cases e
  | tup l =>
    cases y with
    | tup m =>
      have e : (if decide (l.length + m.length ≤ big) then some (P.tup (l ++ m)) else none) = some z := e
      split at e
      · rename_i hz
        cases e
        have hz := of_decide_eq_true hz
        obtain ⟨a, xs, rfl, e3, r⟩ := h1.tup
        obtain ⟨b, ys, rfl, e4, r2⟩ := h2.tup
        refine op_catA pins s σ H _ _ u1 u2 Q I rx ry ⟨a, b, xs, ys, rfl, rfl, SqT.of e3, SqT.of e4, by rw [← r.length, ← r2.length, ← big_line]; exact hz, ?_, ?_, ?_⟩
        · intro h0
          subst h0
          have : l = [] := List.eq_nil_of_length_eq_zero r.length
          subst this
          exact q H _ (Same.refl H) (RP.tup_iff.mpr ⟨b, ys, rfl, e4, r2⟩)
        · intro _ h0
          subst h0
          have : m = [] := List.eq_nil_of_length_eq_zero r2.length
          subst this
          rw [List.append_nil] at q
          exact q H _ (Same.refl H) (RP.tup_iff.mpr ⟨a, xs, rfl, e3, r⟩)
        · intro _ _ p hp
          exact q _ _ (Same.new hp) (tupOf hp (r.append r2))
      · cases e
    | _ => cases e
  | _ => cases e
theorem b_sub : OpR X (binaryOp .Sub) (rB C (evB .sub)) := by
  intro pins s σ H v w u1 u2 Q I rx ry h
  obtain ⟨x, y, z, h1, h2, e, q⟩ := h
  cases x with
  | int i =>
    cases y with
    | int j =>
      cases e
      have := h1.int; subst this
      have := h2.int; subst this
      exact op_sub pins s σ H _ _ u1 u2 Q I rx ry ⟨i, j, rfl, rfl, q H _ (Same.refl H) (RP.int_iff.mpr rfl)⟩
    | _ => cases e
  | _ => cases e
theorem rep_rps {H : Hp} {l : List P} {xs : List V} (r : RPs C H l xs) : ∀ n : Nat, RPs C H (List.replicate n l).flatten (List.replicate n xs).flatten
  | 0 => .nil
  | n + 1 => by
    rw [List.replicate_succ, List.replicate_succ, List.flatten_cons, List.flatten_cons]
    exact r.append (rep_rps r n)
theorem b_mul (hK : X.K = C.K) : OpR X (binaryOp .Mult) (rB C (evB .mul)) := by
  intro pins s σ H v w u1 u2 Q I rx ry h
  obtain ⟨x, y, z, h1, h2, e, q⟩ := h
  cases x with
  | int i =>
    cases y with
    | int j =>
      have e : (if mulOk i j then some (P.int (i * j)) else none) = some z := e
      split at e
      · rename_i hm
        cases e
        have := h1.int; subst this
        have := h2.int; subst this
        unfold mulOk at hm
        simp only [Bool.or_eq_true, Bool.and_eq_true, decide_eq_true_eq] at hm
        rcases hm with hm | hm
        · exact op_mul pins s σ H _ _ u1 u2 Q I rx ry ⟨i, j, rfl, rfl, by unfold CMul; omega, q H _ (Same.refl H) (RP.int_iff.mpr rfl)⟩
        · exact op_mulW pins s σ H _ _ u1 u2 Q I rx ry ⟨i, j, rfl, rfl, wide_mul hm.1 hm.2 (by omega) (by omega) (by omega), q H _ (Same.refl H) (RP.int_iff.mpr rfl)⟩
      · cases e
    | _ => cases e
  | tup l =>
    cases y with
    | int k =>
      have e : (if decide (k = 1) then some (P.tup l) else if !l.isEmpty && decide (2 ≤ k) && decide (k ≤ 1000) && decide (l.length ≤ 1000) then some (P.tup (List.replicate k.toNat l).flatten) else none) = some z := e
      by_cases h1k : k = 1
      · subst h1k
        rw [if_pos (by decide)] at e
        cases e
        obtain ⟨a, xs, rfl, e3, r⟩ := h1.tup
        have := h2.int; subst this
        exact op_once pins s σ H _ _ u1 u2 Q I rx ry ⟨a, xs, rfl, rfl, SqT.of e3, q _ _ (Same.refl H) (RP.tup_iff.mpr ⟨a, xs, rfl, e3, r⟩)⟩
      rw [if_neg (by simpa using h1k)] at e
      split at e
      · rename_i hm
        cases e
        simp only [Bool.and_eq_true, decide_eq_true_eq] at hm
        obtain ⟨⟨⟨m1, m2⟩, m3⟩, m4⟩ := hm
        obtain ⟨a, xs, rfl, e3, r⟩ := h1.tup
        have := h2.int; subst this
        refine op_repT pins s σ H _ _ u1 u2 Q I rx ry ⟨a, k, xs, rfl, rfl, SqT.of e3, ?_, m2, m3, by rw [← r.length]; exact m4, fun p hp => q _ _ (Same.new hp) (tupOf hp (rep_rps r _))⟩
        intro h0
        subst h0
        have : l = [] := List.eq_nil_of_length_eq_zero r.length
        subst this
        cases m1
      · cases e
    | _ => cases e
  | _ => cases e
theorem b_fdiv : OpR X (binaryOp .FloorDiv) (rB C (evB .fdiv)) := by
  intro pins s σ H v w u1 u2 Q I rx ry h
  obtain ⟨x, y, z, h1, h2, e, q⟩ := h
  cases x with
  | int i =>
    cases y with
    | int j =>
      have e : (if divOk j then some (P.int (i / j)) else none) = some z := e
      split at e
      · rename_i hm
        cases e
        have := h1.int; subst this
        have := h2.int; subst this
        unfold divOk at hm
        simp only [Bool.and_eq_true, decide_eq_true_eq] at hm
        exact op_fdivW pins s σ H _ _ u1 u2 Q I rx ry ⟨i, j, rfl, rfl, wide_div hm.1 hm.2 (by omega) (by omega), q H _ (Same.refl H) (RP.int_iff.mpr rfl)⟩
      · cases e
    | _ => cases e
  | _ => cases e
theorem b_mod : OpR X (binaryOp .Mod) (rB C (evB .mod)) := by
  intro pins s σ H v w u1 u2 Q I rx ry h
  obtain ⟨x, y, z, h1, h2, e, q⟩ := h
  cases x with
  | int i =>
    cases y with
    | int j =>
      have e : (if decide (0 < j) then some (P.int (i % j)) else none) = some z := e
      split at e
      · rename_i hm
        cases e
        have := h1.int; subst this
        have := h2.int; subst this
        exact op_mod pins s σ H _ _ u1 u2 Q I rx ry ⟨i, j, rfl, rfl, of_decide_eq_true hm, q H _ (Same.refl H) (RP.int_iff.mpr rfl)⟩
      · cases e
    | _ => cases e
  | _ => cases e
theorem b_pow : OpR X (binaryOp .Pow) (rB C (evB .pow)) := by
  intro pins s σ H v w u1 u2 Q I rx ry h
  obtain ⟨x, y, z, h1, h2, e, q⟩ := h
  cases x with
  | int i =>
    cases y with
    | int j =>
      have e : (if decide (0 ≤ j) && decide (j ≤ 1000) && decide (i.natAbs < 1000) then some (P.int (i ^ j.toNat)) else none) = some z := e
      split at e
      · rename_i hm
        cases e
        have := h1.int; subst this
        have := h2.int; subst this
        simp only [Bool.and_eq_true, decide_eq_true_eq] at hm
        exact op_pow pins s σ H _ _ u1 u2 Q I rx ry ⟨i, j, rfl, rfl, ⟨hm.1.1, by omega, by omega⟩, q H _ (Same.refl H) (RP.int_iff.mpr rfl)⟩
      · cases e
    | _ => cases e
  | _ => cases e
theorem b_idx (hP : X.prog = C.P) (hw : X.w = C.w) (hK : X.K = C.K) (hu : X.A.units + 65 < cLine) : IxR X (rB C (evB .idx)) := by
  intro value slice pins s σ H v w u1 u2 Q I rx ry h hs
  obtain ⟨x, y, z, h1, h2, e, q⟩ := h
  cases x with
  | tup l =>
    cases y with
    | int i =>
      obtain ⟨a, xs, rfl, e3, r⟩ := h1.tup
      have := h2.int; subst this
      obtain ⟨v, e4, rv⟩ := atP_at r (show atP l i = some z from e)
      exact ix_tup value slice pins s σ H _ _ u1 u2 Q I rx ry ⟨a, xs, i, v, rfl, rfl, SqT.of e3, e4, q H _ (Same.refl H) rv⟩ hs
    | _ => cases e
  | lst l =>
    cases y with
    | int i =>
      obtain ⟨a, xs, rfl, e3, r⟩ := h1
      have := h2.int; subst this
      obtain ⟨v, e4, rv⟩ := atP_at r (show atP l i = some z from e)
      exact ix_list value slice pins s σ H _ _ u1 u2 Q I rx ry ⟨a, xs, i, v, rfl, rfl, .inl e3, e4, q H _ (Same.refl H) rv⟩ hs
    | _ => cases e
  | dct ks vs =>
    have e : (if keyOk ks y then dget ks vs y else none) = some z := e
    split at e
    · rename_i hk
      obtain ⟨a, u, rfl, e2, r⟩ := h1
      cases rx
      obtain ⟨o, ho, hd⟩ := dct_type I e2 r
      exact tail_any (T := "dict") ⟨o, ho, hd.1⟩ slot_dict_getitem.lookup (dct_get hP hw hu (by omega) I e2 r hk (keyOk_rp hk h2) ry e fun s' z' w' I' r1 r2 => ⟨z', H, I', r2, q H _ (Same.refl H) r1⟩) hs
    · cases e
  | _ => cases e
theorem b_min2 (hc : X.calm = true) : CallR X (.builtin "min") (fun vs H Q => ∃ v w, vs = [v, w] ∧ rB C (evB .min2) v w H Q) := by
  intro pins s σ H vs us Q I r h
  obtain ⟨v, w, rfl, x, y, z, h1, h2, e, q⟩ := h
  cases x with
  | int i =>
    cases y with
    | int j =>
      cases e
      have := h1.int; subst this
      have := h2.int; subst this
      exact call_min2 hc pins s σ H _ us Q I r ⟨i, j, rfl, q H _ (Same.refl H) (RP.int_iff.mpr rfl)⟩
    | _ => cases e
  | _ => cases e
theorem b_max2 (hc : X.calm = true) : CallR X (.builtin "max") (fun vs H Q => ∃ v w, vs = [v, w] ∧ rB C (evB .max2) v w H Q) := by
  intro pins s σ H vs us Q I r h
  obtain ⟨v, w, rfl, x, y, z, h1, h2, e, q⟩ := h
  cases x with
  | int i =>
    cases y with
    | int j =>
      cases e
      have := h1.int; subst this
      have := h2.int; subst this
      exact call_max2 hc pins s σ H _ us Q I r ⟨i, j, rfl, q H _ (Same.refl H) (RP.int_iff.mpr rfl)⟩
    | _ => cases e
  | _ => cases e
theorem u_neg : UnR X (unaryOp .USub) (fun v H Q => Ev.rU C (evU .neg) [v] H Q) := by
  intro pins s σ H v u Q I rv h
  obtain ⟨v', x, y, ev, vp, e, q⟩ := h
  obtain ⟨rfl, _⟩ := List.cons.inj ev
  cases x with
  | int i =>
    cases e
    have := vp.int; subst this
    exact un_neg pins s σ H _ u Q I rv ⟨i, rfl, q H _ (Same.refl H) (RP.int_iff.mpr rfl)⟩
  | _ => cases e
end
end Ev

set_option Elab.async false
set_option linter.all false
set_option maxRecDepth 100000
set_option maxHeartbeats 1000000
namespace Ev
open PySem PySem.Spec PyProof.Rows L2

/-! ### readings -/
/-- what is wanted of an exception: its class, its fields, the store, the heap, the slots -/
abbrev XW := Nat → List P → St → List Addr → Hp → L2.St → Prop
/-- what is wanted behind an evaluation -/
def post (C : Gc) (W : XW) (σ : L2.St) {α : Type} (μ : List Addr) (H : Hp) (res : R α) (ok : α → St → List Addr → Hp → Prop) : Prop := match res with
  | .ok a st' => ∀ μ' H', Nx μ H μ' H' → Wd C H' μ' st' → ok a st' μ' H'
  | .exc c fs st' => ∀ μ' H', Nx μ H μ' H' → Wd C H' μ' st' → W c fs st' μ' H' σ
  | .bad => False
def rdG (C : Gc) (W : XW) {α : Type} (ev : En → St → R α) (ok : α → St → List Addr → Hp → Prop) : L2.St → Hp → Prop := fun σ H =>
  ∃ μ st r, Wd C H μ st ∧ REn C H μ r σ ∧ post C W σ μ H (ev r st) ok
def okD (C : Gc) (Q : VK) : D → St → List Addr → Hp → Prop := fun d _ μ H => ∀ v, RD C H μ d v → Q v H
/-- an expression -/
def rdE (C : Gc) (W : XW) (ev : En → St → R D) : TE := fun σ H Q => rdG C W ev (okD C Q) σ H
/-- a fresh list -/
def okL (C : Gc) (Q : VK) : List P → St → List Addr → Hp → Prop := fun l _ μ H => ∀ p xs, H p = none → RPs C H l xs → Q (.ref p) (upd H p (.lst xs))
def rdL (C : Gc) (W : XW) (ev : En → St → R (List P)) : TE := fun σ H Q => rdG C W ev (okL C Q) σ H
/-- a fresh dict -/
def okM (C : Gc) (Q : VK) : List P × List P → St → List Addr → Hp → Prop := fun kv _ μ H => ∀ p u, H p = none → Mut (some u) → RDc C H p kv.1 kv.2 u → Q (.ref p) (upd H p u)
def rdM (C : Gc) (W : XW) (ev : En → St → R (List P × List P)) : TE := fun σ H Q => rdG C W ev (okM C Q) σ H
/-- a test -/
def okT (Q : Bool → Hp → Prop) : Bool → St → List Addr → Hp → Prop := fun b _ _ H => Q b H
def rdT (C : Gc) (W : XW) (ev : En → St → R Bool) : TT := fun σ H Q => rdG C W ev (okT Q) σ H
def rdTE (C : Gc) (W : XW) (ev : En → St → R Bool) : TE := fun σ H Q => rdG C W ev (okT fun b H => Q (.bl b) H) σ H
/-- arguments -/
def okA (C : Gc) (Q : List V → Hp → Prop) : List D → St → List Addr → Hp → Prop := fun ds _ μ H => ∀ vs, RDs C H μ ds vs → Q vs H
def rdA (C : Gc) (W : XW) (ev : En → St → R (List D)) : TA := fun σ H Q => rdG C W ev (okA C Q) σ H
/-- a slice's end -/
def okO (Q : Option Int → Hp → Prop) : Option Int → St → List Addr → Hp → Prop := fun o _ _ H => Q o H
section
variable {C : Gc} {W : XW}
theorem post.nx {σ : L2.St} {α : Type} {μ μ1 : List Addr} {H H1 : Hp} {res : R α} {ok : α → St → List Addr → Hp → Prop} (h : post C W σ μ H res ok) (n : Nx μ H μ1 H1) : post C W σ μ1 H1 res ok := by
  cases res with
  | ok a st => exact fun μ' H' n' w => h μ' H' (n.trans n') w
  | exc c fs st => exact fun μ' H' n' w => h μ' H' (n.trans n') w
  | bad => exact h
theorem post.imp {σ : L2.St} {α : Type} {μ : List Addr} {H : Hp} {res : R α} {ok ok' : α → St → List Addr → Hp → Prop} (h : post C W σ μ H res ok) (f : ∀ a st μ' H', Nx μ H μ' H' → Wd C H' μ' st → ok a st μ' H' → ok' a st μ' H') : post C W σ μ H res ok' := by
  cases res with
  | ok a st => exact fun μ' H' n' w => f a st μ' H' n' w (h μ' H' n' w)
  | exc c fs st => exact h
  | bad => exact h
/-- the wanted end, here -/
theorem post.here {σ : L2.St} {α : Type} {μ : List Addr} {H : Hp} {a : α} {st : St} {ok : α → St → List Addr → Hp → Prop} (h : post C W σ μ H (.ok a st) ok) (w : Wd C H μ st) : ok a st μ H := h μ H (Nx.refl μ H) w
/-- STEP: a part runs first -/
theorem step {α β : Type} {ev : En → St → R α} {f : α → St → R β} {ok : β → St → List Addr → Hp → Prop} {ok1 : α → St → List Addr → Hp → Prop} {σ : L2.St} {H : Hp} {μ : List Addr} {st : St} {r : En}
    (w : Wd C H μ st) (hr : REn C H μ r σ) (h : post C W σ μ H ((ev r st).bind f) ok)
    (k : ∀ a st1 μ1 H1, Nx μ H μ1 H1 → Wd C H1 μ1 st1 → REn C H1 μ1 r σ → post C W σ μ1 H1 (f a st1) ok → ok1 a st1 μ1 H1) : rdG C W ev ok1 σ H := by
  refine ⟨μ, st, r, w, hr, ?_⟩
  cases e : ev r st with
  | ok a st1 =>
    rw [e] at h
    exact fun μ1 H1 n w1 => k a st1 μ1 H1 n w1 (hr.nx n) (post.nx h n)
  | exc c fs st1 => rw [e] at h; exact h
  | bad => rw [e] at h; exact h
/-- .. and the whole, unchanged -/
theorem step_last {α : Type} {ev : En → St → R α} {ok ok1 : α → St → List Addr → Hp → Prop} {σ : L2.St} {H : Hp} {μ : List Addr} {st : St} {r : En}
    (w : Wd C H μ st) (hr : REn C H μ r σ) (h : post C W σ μ H (ev r st) ok) (k : ∀ a st1 μ1 H1, Nx μ H μ1 H1 → Wd C H1 μ1 st1 → REn C H1 μ1 r σ → ok a st1 μ1 H1 → ok1 a st1 μ1 H1) : rdG C W ev ok1 σ H :=
  ⟨μ, st, r, w, hr, h.imp fun a st1 μ1 H1 n w1 q => k a st1 μ1 H1 n w1 (hr.nx n) q⟩
end

/-! ### what the checks see -/
def notStar : Expr → Bool
  | .Starred .. => false
  | _ => true
def notSlice : Expr → Bool
  | .Slice .. => false
  | _ => true
def notSet : Expr → Bool
  | .Set .. => false
  | _ => true
def notComp : Expr → Bool
  | .ListComp .. => false
  | .SetComp .. => false
  | .DictComp .. => false
  | _ => true
def plainT : Expr → Bool
  | .UnaryOp .Not _ _ => false
  | .BoolOp .. => false
  | .IfExp .. => false
  | .Compare .. => false
  | _ => true
theorem star_cons {e : Expr} {es : List Expr} {env : Env} (h : notStar e = true) : starEach (e :: es) env = (false, eval e env) :: starEach es env := by
  cases e <;> first | rfl | cases h
theorem star_any {pos : Pos} {env : Env} : ∀ {es : List Expr}, es.all notStar = true → (backTo pos (starEach es env)).any (·.1) = false
  | [], _ => rfl
  | e :: es, h => by
    rw [List.all_cons, Bool.and_eq_true] at h
    rw [star_cons h.1]
    show (false || (backTo pos (starEach es env)).any (·.1)) = false
    rw [star_any h.2]; rfl
theorem plain_ix {e : Expr} (h : notSlice e = true) : PlainIx e := fun o i => by
  cases e <;> first | rfl | cases h
theorem behind_set {op : CmpOp} {e : Expr} (h : notSet e = true) : behindInMarks op e = false := by
  cases e <;> first | rfl | cases h
theorem last_set {op op' : CmpOp} {e e' : Expr} (h : notSet e' = true) : lastMarks [op, op'] [e, e'] = false := by
  show behindInMarks op' e' = false
  exact behind_set h
theorem tru_plain {e : Expr} {env : Env} (h : plainT e = true) (whole : Sem Value) : isTrue e env whole = (do let v ← whole; standAt e.pos; holding [v] (truthy v)) := by
  cases e <;> first
    | rfl
    | (rename_i op _ _; cases op <;> first | rfl | cases h)
    | cases h
theorem folded_set {e : Expr} {env : Env} (h : notSet e = true) (x : Value) : foldedSetIterable e env x = pure x := by
  cases e <;> first | rfl | cases h
theorem swaps_no {e : Expr} {t : Option Expr} {l : Nat} {env : Env} (h : notComp e = true) : swapsWith e t l env = pure false := by
  cases e <;> first | rfl | cases h
theorem swapsSole_no {e t : Expr} {l : Nat} {env : Env} (h : notComp e = true) : swapsWithSole [t] e l env = pure false := swaps_no h
end Ev

set_option Elab.async false
set_option linter.all false
set_option maxRecDepth 100000
set_option maxHeartbeats 2000000
/-! lambdas handed to a def that catches: the exception's context told -/
namespace Ev
open PySem PySem.Spec PyProof.Rows L2
/-- the lambda's body, its exceptions with their context told -/
abbrev lamN (X : Cx) (A : Around) (outer : List Env) (s : Shared) (H : Hp) (E : XK) (scope : Scope) (f c' : Addr) : Cx :=
  { LamX.lamCx X A outer s H E scope f c' with xe := fun e s' => wpAny (model X.prog X.w) (A.deeper (LamX.lamEnv X scope s.heap.objs.size f c')) (leaving (LamX.lamEnv X scope s.heap.objs.size f c') e) (fun _ s'' => L2N.CX X.prog X.w outer H s E e s'') (fun e' s'' => L2N.CX X.prog X.w outer H s E e' s'') s' }
abbrev catX (CXg : CXT) (X : Cx) (Ng : List Str) (q : Str) (sg : Scope) (g : Addr) (cdg : Value) (s : Shared) (H : Hp) (Eg : XK) : Cx := cxOf CXg X.prog X.w X.K X.mg X.base Ng q sg g cdg X.A X.stack s H Eg
theorem inv_lamN {X : Cx} {A : Around} {outer : List Env} {s s' : Shared} {H H' : Hp} {E : XK} {scope : Scope} {f c' : Addr} {pins : List (Addr × Obj)} {σ : L2.St} (I : Inv (LamX.lamCx X A outer s H E scope f c') pins σ H' s') : Inv (lamN X A outer s H E scope f c') pins σ H' s' :=
  ⟨⟨I.ok.mod, I.ok.kind, I.ok.glob, I.ok.blt, I.ok.above, I.ok.inj, I.ok.has, I.ok.cab, I.ok.hd, I.ok.frames, I.ok.stk, I.ok.exf, I.ok.bs, I.ok.bsz, I.ok.noex, I.ok.exfs, I.ok.funs, I.ok.frf⟩, I.os, I.bare, I.base, I.loc, I.cell, I.free, I.freeC, I.pin, I.hok, I.len⟩
section
variable {X : Cx} {pins : List (Addr × Obj)} {σ : L2.St} {H : Hp} {s : Shared}
/-- x(), in the def that got the lambda -/
theorem act_N {CXg : CXT} {Eg : XK} {Ng : List Str} {qg : Str} {sg : Scope} {g f c' : Addr} {cdg pm ctv : Value} {params : Arguments} {body : Expr} {scope : Scope} {k i : Nat} {a : Str} {pn : List (Addr × Obj)} {xe : Value → Shared → Prop} {W : WX} {E : XK} {tb : TE} {p1 p2 : Pos}
    (I : Inv X pins σ H s) (L : LamX.LamS X.env.scope scope) (hf : s.heap.get? f = some (PySem.W.kla_obj "<lambda>" (X.env.qual ++ "<lambda>") params body scope (cloFrom X.env.cells scope.names []) pm c' ctv)) (hfn : H f = none) (hfr : f ∉ frs X.stack)
    (hbind : bindArgs (PySem.W.kla_fn "<lambda>" (X.env.qual ++ "<lambda>") params body scope (cloFrom X.env.cells scope.names []) pm (.ref c') ctv) ⟨[], []⟩ = pure [])
    (tk : L2N.Takes ((catX CXg X Ng qg sg g cdg s H Eg).tr pn xe) W) (hr : Room (k + 1) (X.A.deeper (envOfC qg sg s.heap.objs.size g cdg)))
    (hbody : ∀ (A : Around) (outer : List Env) (s : Shared) (H : Hp), Room k (A.deeper (LamX.lamEnv X scope s.heap.objs.size f c')) → PE (lamN X A outer s H E scope f c') body tb)
    (hN : Ng[i]? = some a) (hv : Vis sg a) (hd : (a == ("__debug__" : Str)) = false) (hcd : (a == ("__classdict__" : Str)) = false) :
    PE ((catX CXg X Ng qg sg g cdg s H Eg).tr pn xe) (.Call (.Name a p1) [] [] p2) (fun σZ HZ Q => σZ[i]? = some (some (.ref f)) ∧ HZ c' = some (LamX.CodeO c' (X.env.qual ++ "<lambda>")) ∧ (∀ cls d H', E cls d H' → W cls d σZ H') ∧ tb σ HZ Q) := by
  refine ⟨fun pinsZ sZ σZ HZ Q IZ ⟨at_i, code, hW, want⟩ => ?_⟩
  refine wpAny_Call_Name_kw (thn ((pe_var (pos := p1) (i := i) hN hv hd hcd).run pinsZ sZ σZ HZ (fun v H1 => v = .ref f ∧ H1 = HZ) IZ ⟨.ref f, at_i, rfl, rfl⟩) fun u s1 ⟨v, H1, I1, r1, ev, eH⟩ => ?_)
  subst ev
  subst eH
  obtain rfl : u = Value.ref f := r1
  have isF := I1.base.keep f _ hf hfn hfr (fun z => nomatch (show f ∈ ([] : List Addr) from z))
  refine PySem.W.callWith_F0 ⟨_, _, _, _, isF⟩ ?_
  obtain ⟨⟨oc, vs, t, hoc, hdc, hvc⟩, _, _⟩ := I1.hok c' _ code
  have ran : codeAny (model X.prog X.w) (X.A.deeper (envOfC qg sg s.heap.objs.size g cdg)) (.call (.ref f) ⟨[], []⟩) (CR (L2N.CX X.prog X.w) (envOfC qg sg s.heap.objs.size g cdg :: X.stack) X.prog X.w H1 s1 Q E) s1 := by
    refine PySem.W.kla_callFunE hr.depth isF rfl L.co L.gen rfl ⟨c', oc, vs, t, rfl, hoc, hdc, hvc⟩ ?_
    rw [hbind]
    refine wpAny_pure (wpAny_newFunctionEnv (fun y hy => (L.own y hy).2) (fun y hy => absurd hy (by simp)) (fun h₁ hns hsb => ⟨I1.nolimit.fresh _ hsb, ?_⟩) L.kind)
    show codeAny _ _ (.expr body (LamX.lamEnv X scope s1.heap.objs.size f c')) _ _
    have grown : ∀ b o, s1.heap.get? b = some o → h₁.get? b = some o := fun b o e => hsb.extBut b o (Nat.ne_of_lt (Heap.lt_size e)) (Heap.get?_push_of_some _ e)
    have J := inv_lamN (LamX.lam_start2 (E := E) (f := f) (c' := c') (tk := s1.toks + ([] : List (Str × Value)).length) I L I1.env0 hr.hd I1.base hns grown)
    refine PySem.W.kla_codeExpr (wpAny_mono ((hbody _ _ s1 H1 (hr.deeper _)).run [] _ _ H1 Q J want) (fun v s' ⟨w', H', J', rv, q⟩ => ?_) fun e s' hq => hq)
    exact ⟨w', H', J'.os, J'.bare, J'.base, J'.hok, rv, q⟩
  refine wpAny_call (codeAny_mono ran fun r s' hq => ?_)
  cases r with
  | error e => exact tk e s' (L2N.XE.of_call I1 hW hq)
  | ok fl =>
    cases fl with
    | ret u => exact I1.after hq
    | next => exact False.elim hq
    | brk => exact False.elim hq
    | cont => exact False.elim hq
/-- a def that calls what it got, and what it makes of it -/
def GivesN (X : Cx) (Ng : List Str) (x : Str) (sg : Scope) (g : Addr) (cdg : Value) (bg : List Stmt) (a : Str) (q : Str) (TT : (XK → Hp → VK → Prop) → Hp → VK → Prop) : Prop :=
  ∀ (f c' : Addr) (s : Shared) (H : Hp) (Q : VK) (tl : XK → Hp → VK → Prop),
    (∀ (W : WX) (pn : List (Addr × Obj)) (xe : Value → Shared → Prop) (E : XK) (p1 p2 : Pos), L2N.Takes ((catX C8.CX0 X Ng x sg g cdg s H C8.E0).tr pn xe) W →
      PE ((catX C8.CX0 X Ng x sg g cdg s H C8.E0).tr pn xe) (.Call (.Name a p1) [] [] p2) (fun σZ HZ Q => σZ[0]? = some (some (.ref f)) ∧ HZ c' = some (LamX.CodeO c' q) ∧ (∀ cls d H', E cls d H' → W cls d σZ H') ∧ tl E HZ Q)) →
    H c' = some (LamX.CodeO c' q) → TT tl H Q →
    ∃ t, PSs (catX C8.CX0 X Ng x sg g cdg s H C8.E0).nox bg t ∧ t { nx := fun _ H' => Q .non H', rt := Q } (L2.start Ng [.ref f]) H
/-- x(lambda: body) -/
theorem lamcall_N {T : List (Addr × Str)} {TT : (XK → Hp → VK → Prop) → Hp → VK → Prop} {x a : Str} {g c P : Addr} {k : Nat} {pg : Arguments} {bg : List Stmt} {sg : Scope} {dV kV doc pm cdv ct oc : Value} {an od : Option Addr} {osl : Array (Option Value)} {Ng : List Str}
    {params : Arguments} {body : Expr} {scope : Scope} {t : XK → TE} {p lpos pos : Pos} (hg : Gl X x) (hm : X.mg x = some (.ref g)) (hk : PySem.W.keepIn X.K (.ref g) = true)
    (lk : X.K.lookup g = some ⟨oc, od, .func (PySem.W.fnOf x x pg bg sg dV kV doc pm an cdv ct), osl⟩) (hcg : PySem.W.codeIn X.K cdv x = true) (hb : L2.Binds X.K (PySem.W.fnOf x x pg bg sg dV kV doc pm an cdv ct) [a] []) (Sg : FnScope Ng [a] sg) (hNg : Ng[0]? = some a) (hva : Vis sg a)
    (hG : GivesN X Ng x sg g cdv bg a (X.env.qual ++ "<lambda>") TT)
    (TB : LamX.TabB X.base X.mg c P) (hcode : X.env.code = .ref c) (hmT : (P, X.env.qual ++ "<lambda>") ∈ T) (hu : ∀ p ∈ T, p.1 = P → p.2 = X.env.qual ++ "<lambda>") (hr : Room (k + 2) X.A) (L : LamX.LamS X.env.scope scope) (hdef : defaultsOf params X.env = ([], []))
    (hbind : ∀ (q : Str) (cl : List (Str × Addr)) (pm cv ctv : Value), bindArgs (PySem.W.kla_fn "<lambda>" q params body scope cl pm cv ctv) ⟨[], []⟩ = pure [])
    (hbody : ∀ (A : Around) (outer : List Env) (s : Shared) (H : Hp) (E : XK) (f c' : Addr), Room k (A.deeper (LamX.lamEnv X scope s.heap.objs.size f c')) → PE (lamN X A outer s H E scope f c') body (t E))
    (hdb : (x == ("__debug__" : Str)) = false) (hd : (a == ("__debug__" : Str)) = false) (hcd : (a == ("__classdict__" : Str)) = false) :
    PE X (.Call (.Name x p) [.Lambda params body scope lpos] [] pos) (LamX.tLam T TT t) := by
  refine ⟨fun pins s σ H Q I ⟨hT, want⟩ => ?_⟩
  refine wpAny_Call_Name_kw (ld_glob I hg hm ?_ hdb)
  refine PySem.W.callWith_K (h₀ := X.base) I.ok.mod.kin hk ?_ (by rfl) (by rfl)
  show wpAny _ _ (spliced ((false, eval (.Lambda params body scope lpos) X.env) :: backTo pos (starEach [] X.env))) _ _ s
  refine Calls.spliced_cons (LamX.lam_make2 I TB hcode hmT hu hT hdef (L.has I.ok) fun f c' pm' ctv H1 s' I1 eN T1 hf hfn hfr hco => ?_)
  refine Calls.spliced_nil ⟨I1.kIn, wpAny_call (codeAny_mono (LamX.run_ofS (CX := C8.CX0) (E := C8.E0) (Q := Q) (N := Ng) (ps := [a]) (us := [.ref f]) (vs := [.ref f]) lk hcg Sg hr I1.env0 (hb s' [.ref f] I1.kIn rfl) (.cons rfl .nil) rfl fun hr' => ?_) fun r s2 hq => ?_)⟩
  · obtain ⟨t', ht', hq'⟩ := hG f c' s' H1 Q (fun E H' Q' => t E σ H' Q') (fun W pn xe E p1 p2 tk => act_N (i := 0) I1 L hf hfn hfr (hbind _ _ _ _ _) tk hr' (fun A outer s H hr2 => hbody A outer s H E f c' hr2) hNg hva hd hcd) hco (want H1 eN T1)
    exact ⟨t', ht'.nox, hq'⟩
  · cases r with
    | error e => exact (show False from hq).elim
    | ok fl =>
      cases fl with
      | ret u => exact I1.after hq
      | next => exact False.elim hq
      | brk => exact False.elim hq
      | cont => exact False.elim hq
end
end Ev

set_option Elab.async false
set_option linter.all false
set_option maxRecDepth 100000
set_option maxHeartbeats 2000000
/-! an own error whose __init__ says super().__init__('..' + str(n)); self.f = n -/
namespace Ev
open PySem PySem.Spec PyProof.Rows L2 PySem.W

section
variable {X : Cx} {pins : List (Addr × Obj)} {σ : L2.St} {H : Hp} {s : Shared} {E : Value → Shared → Prop} {A : Around}
/-- ValueError.__init__ bound to an error that is being made, called -/
theorem call_mw {us : List Value} {a C u : Addr} {Q : Value → Shared → Prop} (T : OexC X.K C) (I : Inv X pins σ H s) (e : H a = some (exo a C none)) (hu : s.heap.get? u = some (kxs_mw "ValueError.__init__" a)) (hl : us.length ≤ sizeLine)
    (h : ∀ s', Inv X pins σ H s' → Q .none s') : wpAny (model X.prog X.w) A (call (.ref u) us) Q E s := by
  obtain ⟨nm, q, N, bs, bm, sn, sub, ab, col, dd, k0, k1, k2, k3, k5, hC, hbm⟩ := T.cls
  obtain ⟨t1, ho⟩ := exo_at I.hok e
  obtain ⟨hp, g, d, t, os⟩ := s
  have FB := PySem.F.excBase_ValueError
  refine wpAny_call (codeAny_of_tree ?_)
  show wpAny _ A.in1 (callAny (.ref u) ⟨us, []⟩) _ _ _
  simp only [callAny]
  refine wpAny_bind (wpAny_load hu ?_)
  simp only [kxs_mw, show (Value.type "method-wrapper" == Value.type "method" || Value.type "method-wrapper" == Value.type "builtin_function_or_method" || Value.type "method-wrapper" == Value.type "method-wrapper") = true by decide, if_true]
  refine KFB.if_so (by decide) ?_
  refine wpAny_bind (check_bound_init FB.toExcCallFacts (I.kIn _ _ hC) ho rfl ?_)
  refine wpAny_bind (wpAny_pure (wpAny_pure ?_))
  refine ⟨plainId_quiet FB.init.plain _, codeAny_builtin FB.initEntry ?_⟩
  refine exc_init_tree (cls := .ref C) (t0 := t1) (dv := none) (c2 := .none) (c3 := .none) (b4 := .bool false) ho hl fun h' k hx _ => ?_
  have J := I.write (t' := t) (x := a) (e := a) (o := exo a C none) (by rw [e]; exact True.intro) (.inl rfl) k ⟨_, hx⟩ (exo_ok hx)
  have eu : upd H a (exo a C none) = H := by
    funext b
    by_cases hb : b = a
    · rw [hb, upd_same, e]
    · rw [upd_ne hb]
  rw [eu] at J
  exact h _ J
end
/-- the context of the body of such an __init__ -/
def iniCx (CXg : CXT) (P : Program) (w : World) (K : PySem.W.Frag) (mg : Str → Option Value) (base : Heap) (N : List Str) (qual : Str) (scope : Scope) (f cda cc : Addr) (A : Around) (outer : List Env) (s : Shared) (H : Hp) (E : XK) : Cx where
  prog := P
  w := w
  K := K
  mg := mg
  base := base
  A := A.deeper (ksEnv qual scope s.heap.objs.size f (.ref cda) cc)
  N := N
  s_0 := s
  H_0 := H
  env := ksEnv qual scope s.heap.objs.size f (.ref cda) cc
  outer := outer
  stack := ksEnv qual scope s.heap.objs.size f (.ref cda) cc :: outer
  ex := []
  fn := fun _ => false
  calm := true
  pn := []
  xe := fun e s' => wpAny (model P w) (A.deeper (ksEnv qual scope s.heap.objs.size f (.ref cda) cc)) (leaving (ksEnv qual scope s.heap.objs.size f (.ref cda) cc) e) (fun _ s'' => CXg outer H s E e s'') (fun e' s'' => CXg outer H s E e' s'') s'
/-- the block of such an __init__ -/
structure IniS (sc : Scope) (n1 n2 : Str) : Prop where
  kind : sc.kind = .function
  co : sc.isCoroutine = false
  gen : sc.isGenerator = false
  ne : n1 ≠ n2
  l1 : sc.names.lookup n1 = some .local
  l2 : sc.names.lookup n2 = some .local
  nocell : ∀ x ∈ sc.names, x.2 ≠ .cell
  free : ∀ x ∈ sc.names, x.2 = .free → x.1 = ("__class__" : Str)
  cls : sc.names.lookup ("__class__" : Str) = some .free
  sup : sc.names.lookup ("super" : Str) = some .globalImplicit
  str : sc.names.lookup ("str" : Str) = some .globalImplicit
theorem ini_start {CXg : CXT} {P : Program} {w : World} {K : PySem.W.Frag} {mg : Str → Option Value} {base : Heap} {n1 n2 qual : Str} {scope : Scope} {f cda cc C : Addr} {A : Around} {outer : List Env} {s : Shared} {H : Hp} {E : XK} {u1 u2 : Value} {v1 v2 : V} {h₀ : Heap} {tk : Nat} {cl : Value} {cld : Option Addr} {csl : Array (Option Value)}
    (S : IniS scope n1 n2) (hd : A.handled = none) (e0 : Env0 P w K mg base A outer s H) (r1 : RelV v1 u1) (r2 : RelV v2 u2) (hcell : K.lookup cc = some ⟨cl, cld, .cell (some (.ref C)), csl⟩)
    (hns : h₀.Ns s.heap.objs.size fun y => ([n1, n2].zip [u1, u2]).reverse.lookup y) (kp : ∀ b o, s.heap.get? b = some o → h₀.get? b = some o) :
    Inv (iniCx CXg P w K mg base [n1, n2] qual scope f cda cc A outer s H E) [] [some v1, some v2] H { s with heap := h₀, toks := tk } := by
  have noA : ∀ b : Addr, b ∉ (iniCx CXg P w K mg base [n1, n2] qual scope f cda cc A outer s H E).ex := fun b z => absurd (show b ∈ ([] : List Addr) from z) (by simp)
  have one : ∀ {x : Str} {c : Addr}, ([(("__class__" : Str), cc)] : List (Str × Addr)).lookup x = some c → x = ("__class__" : Str) ∧ c = cc := fun {x c} e => by
    rw [List.lookup_cons] at e
    split at e
    · rename_i hx
      cases e
      exact ⟨eq_of_beq hx, rfl⟩
    · cases e
  have hbase := e0.mod.kin _ _ hcell
  have hb := e0.bs _ _ hbase
  refine ⟨⟨e0.mod, S.kind, rfl, rfl, Nat.le_refl _, fun y z c h1 h2 => ?_, fun y hy => ?_, fun y c z _ => ?_, fun _ => hd, Around.frames_deeper e0.frames, .inr ⟨rfl, rfl⟩, fun b z => absurd z (noA b), e0.bs, e0.bsz, fun b _ _ => noA b,
      fun b z => absurd z (noA b), e0.funs, e0.frf⟩,
    rfl, e0.bare, Un.kept kp, ⟨_, hns, fun i y v e1 e2 e3 => ?_⟩, fun y c e => ?_, e0.hok.fresh (Nat.le_refl _), fun y c e => ?_, fun q hq => absurd (show q ∈ ([] : List (Addr × Obj)) ++ [] from hq) (by simp), e0.hok.kept kp, rfl⟩
  · exact (one h1).1.trans (one h2).1.symm
  · have hy : scope.names.lookup y = some .cell ∨ scope.names.lookup y = some .free := hy
    rcases hy with hy | hy
    · exact absurd rfl (S.nocell _ (PySem.mem_of_lookup hy))
    · have e := S.free _ (PySem.mem_of_lookup hy) rfl
      refine ⟨cc, ?_⟩
      show ([(("__class__" : Str), cc)] : List (Str × Addr)).lookup y = some cc
      rw [show y = ("__class__" : Str) from e]
      simp [List.lookup]
  · have z : false = true := z
    cases z
  · have e1 : [n1, n2][i]? = some y := e1
    have e2 : ([some v1, some v2] : List (Option V))[i]? = some (some v) := e2
    match i, e1, e2 with
    | 0, e1, e2 =>
      cases e1; cases e2
      refine ⟨u1, r1, .inl ⟨S.l1, ?_⟩⟩
      show ([(n1, u1), (n2, u2)] : List (Str × Value)).reverse.lookup n1 = some u1
      have : (n1 == n2) = false := by simpa using S.ne
      simp [List.lookup, this]
    | 1, e1, e2 =>
      cases e1; cases e2
      refine ⟨u2, r2, .inl ⟨S.l2, ?_⟩⟩
      show ([(n1, u1), (n2, u2)] : List (Str × Value)).reverse.lookup n2 = some u2
      simp [List.lookup]
    | i + 2, e1, e2 => simp at e1
  · obtain ⟨_, rfl⟩ := one e
    exact ⟨_, _, kp _ _ hb.1, rfl⟩
  · obtain ⟨_, rfl⟩ := one e
    exact hb.2
end Ev

set_option Elab.async false
set_option linter.all false
set_option maxRecDepth 100000
set_option maxHeartbeats 2000000
namespace Ev
open PySem PySem.Spec PyProof.Rows L2 PySem.W

theorem he_line {o : Expr} {name x : Str} {apos pos q1 q2 q3 q4 q5 : Pos} {j : Nat} {y z : Str} {env : Env} (hline : (apos.endLine == pos.line) = true) :
    eval (.Call (.Attribute o name apos) [.BinOp (.Constant (.str x) j q1) .Add (.Call (.Name y q2) [.Name z q3] [] q4) q5] [] pos) env = (do
      let ov ← attributeBase o name env (eval o env)
      standAt apos.atName
      let (f, first) ← holding [ov] (getMethod ov name (do return (← importBound o env).getD true))
      callWith pos f first (backTo pos (starEach [.BinOp (.Constant (.str x) j q1) .Add (.Call (.Name y q2) [.Name z q3] [] q4) q5] env)) []) := by
  show (do
    let ov ← attributeBase o name env (eval o env)
    standAt apos.atName
    methodCall o name apos pos env ov 1 (backTo pos (starEach [.BinOp (.Constant (.str x) j q1) .Add (.Call (.Name y q2) [.Name z q3] [] q4) q5] env)) []) = _
  have hf : methodCallForm 1 (backTo pos (starEach [.BinOp (.Constant (.str x) j q1) .Add (.Call (.Name y q2) [.Name z q3] [] q4) q5] env)) [] = true := by rfl
  unfold methodCall methodCallPos calleeOf
  simp only [hf, hline, Bool.not_true, Bool.false_or, if_true, pure_bind]
/-- what such an __init__ keeps: the field is written, nothing else is told -/
def spI (C : Addr) (pre fld : Str) : Sp := fun vs H Q _ => ∃ (a : Addr) (i : Int), vs = [.ref a, .int i] ∧ i.natAbs.log2 < 1920 ∧ pre.length + (Str.ofString (toString i)).length ≤ sizeLine ∧ H a = some (exo a C none) ∧
  ∀ d, H d = none → d ≠ a → Q .non (upd (upd H d (exd d [(fld, .int i)])) a (exo a C (some d)))
/-- the facts of the written part -/
structure IniK (P : Program) (K : PySem.W.Frag) (C f cda cc : Addr) (name qual : Str) (params : Arguments) (scope : Scope) (dV kV doc pm ct : Value) (an : Option Addr) (n1 n2 pre fld : Str) (body : List Stmt) : Prop where
  T : OexC K C
  S : IniS scope n1 n2
  lk : ∃ (oc : Value) (od : Option Addr) (osl : Array (Option Value)), K.lookup f = some ⟨oc, od, .func (ksFn name qual params body scope dV kV doc pm an (.ref cda) ct cc), osl⟩
  cd : codeIn K (.ref cda) qual = true
  par : ∃ ar, (params.posonlyargs ++ params.args).head? = some ar ∧ ar.arg = n1
  code : ∃ (ccl : Value) (cdd : Option Addr) (vs : Array Value) (ccs : Array (Option Value)) (tf : Tok), K.lookup cda = some ⟨ccl, cdd, .fields vs, ccs⟩ ∧ vs[2]? = some (.str P.main.file tf)
  cell : ∃ (cl : Value) (cld : Option Addr) (csl : Array (Option Value)), K.lookup cc = some ⟨cl, cld, .cell (some (.ref C)), csl⟩
  cls : ∃ cd, clsIn K C = some cd
  sub : mroIn K C (.ref C) = some true
  top : (P.main.scope.names.lookup ("super" : Str)).isSome = false
  opq : nsIn K cStatics "thirdparty.any" = some none
  sup : ks_superIn K C C "__init__" = some (some (.builtin "ValueError.__init__"))
  ve : subIn K (.ref C) (.type "ValueError") = some true
  nofld : findIn K (.ref C) fld = some none
  body : ∃ (p0 p1 p2 p3 p4 p5 p6 p7 p8 p9 p10 p11 p12 p13 : Pos) (j : Nat), body = [.Expr (.Call (.Attribute (.Call (.Name "super" p0) [] [] p1) "__init__" p2) [.BinOp (.Constant (.str pre) j p3) .Add (.Call (.Name "str" p4) [.Name n2 p5] [] p6) p7] [] p8) p9,
    .Assign [.Attribute (.Name n1 p10) fld p11] (.Name n2 p12) p13] ∧ (p2.endLine == p8.line) = true
  d1 : (n1 == ("__debug__" : Str)) = false ∧ (n1 == ("__classdict__" : Str)) = false
  d2 : (n2 == ("__debug__" : Str)) = false ∧ (n2 == ("__classdict__" : Str)) = false
theorem ini_fn {CXg : CXT} {P : Program} {w : World} {K : PySem.W.Frag} {mg : Str → Option Value} {base : Heap} {C f cda cc : Addr} {name qual : Str} {params : Arguments} {scope : Scope} {dV kV doc pm ct : Value} {an : Option Addr} {n1 n2 pre fld : Str} {body : List Stmt} {k : Nat}
    (D : IniK P K C f cda cc name qual params scope dV kV doc pm ct an n1 n2 pre fld body) (hsup : mg "super" = none) (hstr : mg "str" = none) :
    FnOk P w K mg base CXg (k + 1) f (ksFn name qual params body scope dV kV doc pm an (.ref cda) ct cc) [n1, n2] (spI C pre fld) := by
  refine ⟨fun vs H Q E ⟨a, i, e, _⟩ => by rw [e]; rfl, fun A outer s H args us vs Q E hr e0 hb r hsp => ?_⟩
  obtain ⟨a, i, rfl, hi, hz, ea, hq⟩ := hsp
  obtain ⟨oc, od, osl, lk⟩ := D.lk
  obtain ⟨cl, cld, csl, hcell⟩ := D.cell
  obtain ⟨ccl, cdd, vsc, ccs, tf, hcode, hvs⟩ := D.code
  obtain ⟨ar, hp, har⟩ := D.par
  obtain ⟨cdD, hD⟩ := D.cls
  obtain ⟨p0, p1, p2, p3, p4, p5, p6, p7, p8, p9, p10, p11, p12, p13, j, hbody, hline⟩ := D.body
  have S := D.S
  have KX : K.In s.heap := e0.mod.kin.keeps fun b o e => (e0.bs b o e).1
  have lim : s.heap.NoLimit := e0.mod.nolimit.keeps fun b o e => (e0.bs b o e).1
  obtain ⟨u1, u2, rfl, r1, r2⟩ : ∃ u1 u2, us = [u1, u2] ∧ RelV (.ref a) u1 ∧ RelV (.int i) u2 := by
    cases r with
    | cons ra rr =>
      cases rr with
      | cons rb rn =>
        cases rn
        exact ⟨_, _, rfl, ra, rb⟩
  obtain rfl : u1 = Value.ref a := r1
  refine ks_codeAny_call_defAt (fd := ksFn name qual params body scope dV kV doc pm an (.ref cda) ct cc) (body := body) (binds := [n1, n2].zip [.ref a, u2]) hr.depth (KX _ _ lk) rfl lim (codeRec_of KX D.cd) rfl hb S.nocell (fun y hy => ?_) (fun h₀ hns kp => ?_) S.co S.gen S.kind
  · have hy : y ∈ [(n1, Value.ref a), (n2, u2)] := hy
    simp only [List.mem_cons, List.not_mem_nil, or_false] at hy
    rcases hy with rfl | rfl
    · exact S.l1
    · exact S.l2
  have I : Inv (iniCx CXg P w K mg base [n1, n2] qual scope f cda cc A outer s H E) [] [some (.ref a), some (.int i)] H { s with heap := h₀, toks := s.toks + ([n1, n2].zip [Value.ref a, u2]).length } :=
    ini_start S hr.hd e0 rfl r2 hcell hns kp
  have hgl : ∀ {x : Str}, scope.names.lookup x = some .globalImplicit → Gl (iniCx CXg P w K mg base [n1, n2] qual scope f cda cc A outer s H E) x := fun h => h
  have pe2 : ∀ p, PE (iniCx CXg P w K mg base [n1, n2] qual scope f cda cc A outer s H E) (.Name n2 p) _ := fun p => pe_var (i := 1) rfl (Or.inl S.l2) D.d2.1 D.d2.2
  have pe1 : ∀ p, PE (iniCx CXg P w K mg base [n1, n2] qual scope f cda cc A outer s H E) (.Name n1 p) _ := fun p => pe_var (i := 0) rfl (Or.inl S.l1) D.d1.1 D.d1.2
  have parg : PE (iniCx CXg P w K mg base [n1, n2] qual scope f cda cc A outer s H E) (.BinOp (.Constant (.str pre) j p3) .Add (.Call (.Name "str" p4) [.Name n2 p5] [] p6) p7) _ :=
    pe_op op_add_str pe_str (pe_callTy call_str_int (hgl S.str) hstr (by decide +kernel) (pa_cons (pe2 p5) pa_nil))
  have pst := pss_one (ps_ost (pos := p13) (p' := p11) (f := fld) (pe1 p10) (pe2 p12))
  subst hbody
  have X1 : K.In h₀ := KX.keeps kp
  show _root_.PySem.wpAt (model P w) (A.deeper (ksEnv qual scope s.heap.objs.size f (.ref cda) cc)) (.func _ (ksEnv qual scope s.heap.objs.size f (.ref cda) cc)) (execs _ (ksEnv qual scope s.heap.objs.size f (.ref cda) cc)) _ _ _
  have hint : interactive (ksEnv qual scope s.heap.objs.size f (.ref cda) cc) = false := I.quiet
  refine ks_wpAt_execs_cons (ks_wpAt_Expr_any (ks_wpAt_MethodCall ?_ (he_line hline)) hint rfl)
  obtain ⟨oD, hD1, hD2⟩ : ∃ oD, h₀.get? C = some oD ∧ oD.data = .cls cdD := by
    unfold clsIn at hD
    split at hD
    · rename_i c d cd' sl ho
      cases hD
      exact ⟨_, X1 _ _ ho, rfl⟩
    · cases hD
  obtain ⟨t1, ho⟩ := exo_at I.hok ea
  have hglob := I.ok.mod.glob.keeps I.bk
  obtain ⟨mb, hb1, hb2⟩ := I.mod.blt
  refine ks_wpAt_super_base (env := ksEnv qual scope s.heap.objs.size f (.ref cda) cc) S.sup S.cls (by decide) rfl (X1 _ _ lk) rfl hp rfl (X1 _ _ hcode) rfl hvs (by simp) D.top ?_
  refine ks_loadName_global S.kind S.sup (Calls.loadGlobal_builtin (env := ksEnv qual scope s.heap.objs.size f (.ref cda) cc) hglob hsup (hb1.keeps I.bk) ((hb2 _ (by decide)).trans (by decide +kernel)) ⟨rfl, ?_⟩)
  refine wpAny_loadName_free S.kind S.cls rfl ⟨_, X1 _ _ hcell, rfl⟩ ?_
  have hself : (fun y => ([n1, n2].zip [Value.ref a, u2]).reverse.lookup y) n1 = some (Value.ref a) := by
    show ([(n1, Value.ref a), (n2, u2)] : List (Str × Value)).reverse.lookup n1 = _
    have : (n1 == n2) = false := by simpa using S.ne
    simp [List.lookup, this]
  rw [har]
  refine wpAny_loadName_local S.kind S.l1 hns hself ?_
  refine ks_wpAny_isType_cls hD1 hD2 ⟨rfl, ?_⟩
  refine ks_wpAny_call_super hD1 hD2 ho rfl (fun c e => by cases e) (looks_mroIn X1 D.sub) (fun h' eso k' => ?_)
  have I2 := I.kept (t' := s.toks + ([n1, n2].zip [Value.ref a, u2]).length) k'
  have X2 : K.In h' := X1.keeps k'
  obtain ⟨t2, ho2⟩ := exo_at I2.hok ea
  have hmro : PySem.W.Looks (model P w) h' (mroOf (.ref C)) cdD.mro := fun A Q E s k q => wpAny_bind ((looks_clsIn X2 hD) A _ E s k (wpAny_pure q))
  have hI : PySem.W.Looks (model P w) h' (isInstance (.ref a) (.type "ValueError")) true := by
    have J : InstAt h' a { cls := .ref C, dict := none, data := .fields #[.ref t2, .none, .none, .none, .bool false, .none] } C none := ⟨ho2, rfl, rfl, trivial⟩
    exact J.type.andThen (looks_subIn X2 D.ve)
  have hne : a ≠ C := fun z => by
    rw [← z] at hD1
    rw [ho] at hD1
    cases hD1
    cases hD2
  have hsp : alongIn K "__init__" ((cdD.mro.dropWhile (· != .ref C)).drop 1) = some (some (.builtin "ValueError.__init__")) := by
    have q := D.sup
    unfold ks_superIn at q
    rw [hD] at q
    exact q
  refine kxs_getMethod kxs_ValueError eso (looks_opaque X2 D.opq) hmro rfl X2 hsp hI hne (by decide) ?_
  have k3 : ∀ b o, h'.get? b = some o → (h'.push (kxs_mw "ValueError.__init__" a)).get? b = some o := fun b o e => Heap.get?_push_of_some _ e
  have I3 := I2.kept (t' := s.toks + ([n1, n2].zip [Value.ref a, u2]).length + 1) k3
  have hu : (h'.push (kxs_mw "ValueError.__init__" a)).get? h'.objs.size = some (kxs_mw "ValueError.__init__" a) := Heap.get?_push_at rfl rfl
  have I4 := I3.pins_of (pins' := [(h'.objs.size, kxs_mw "ValueError.__init__" a)]) fun p hp => by
    rw [List.mem_singleton.mp hp]
    refine ⟨hu, I2.hok.fresh (Nat.le_refl _), fun z => ?_, I2.nofs (Nat.le_refl _), fun v e => by cases e⟩
    have l1 := I2.lt
    rw [← z] at l1
    exact absurd l1 (Nat.lt_irrefl _)
  have hst : starEach [.BinOp (.Constant (.str pre) j p3) .Add (.Call (.Name "str" p4) [.Name n2 p5] [] p6) p7] (ksEnv qual scope s.heap.objs.size f (.ref cda) cc) = (false, eval (.BinOp (.Constant (.str pre) j p3) .Add (.Call (.Name "str" p4) [.Name n2 p5] [] p6) p7) (ksEnv qual scope s.heap.objs.size f (.ref cda) cc)) :: starEach [] (ksEnv qual scope s.heap.objs.size f (.ref cda) cc) := by rfl
  show wpAny (model P w) (A.deeper (ksEnv qual scope s.heap.objs.size f (.ref cda) cc)) (callWith p8 (.ref h'.objs.size) [] (backTo p8 (starEach [.BinOp (.Constant (.str pre) j p3) .Add (.Call (.Name "str" p4) [.Name n2 p5] [] p6) p7] (ksEnv qual scope s.heap.objs.size f (.ref cda) cc))) []) _ _ _
  rw [hst]
  refine kxs_callWith (i := "ValueError.__init__") (x := a) (by rfl) (Calls.evalArgs_plain ?_)
  have PA1 := pa_cons parg pa_nil
  refine thn (PA1.run p8 _ _ _ H (fun vs H1 => ∃ x, vs = [x] ∧ H1 = H) I4 ?_) fun us s5 ⟨vs5, H5, I5, r5, x5, e5, eH⟩ => ?_
  · exact ⟨.int i, rfl, i, rfl, hi, pre, Str.ofString (toString i), rfl, rfl, hz, _, rfl, rfl⟩
  subst eH
  subst e5
  have hu5 : s5.heap.get? h'.objs.size = some (kxs_mw "ValueError.__init__" a) := (I5.pin _ (List.mem_append_right _ List.mem_cons_self)).1
  have hl5 : us.length ≤ sizeLine := by
    have e1 : us.length = 1 := (Paired.length r5).symm
    rw [e1, sizeLine_eq]
    decide
  refine ⟨hu5, call_mw D.T I5 ea hu5 hl5 fun s6 I6 => ?_⟩
  have I7 := I6.pins_of (pins' := []) fun p hp => absurd hp List.not_mem_nil
  refine wpAt_of_wpAny (wpAny_mono (pst.run [] s6 _ H5 { nx := fun _ H' => Q .non H', rt := Q } I7 ?_) (fun fl s' hs => ?_) fun e s' hs => hs)
  · exact ⟨.int i, rfl, .ref a, rfl, a, C, rfl, D.T, D.nofld, .inl ⟨ea, fun dx n ne => hq dx n ne⟩⟩
  have fin : ∀ {σ' : L2.St} {H' : Hp} {v : V} {u : Value}, Inv (iniCx CXg P w K mg base [n1, n2] qual scope f cda cc A outer s H5 E) [] σ' H' s' → RelV v u → Q v H' → CE outer P w H5 s Q u s' :=
    fun {σ' H' v u} J rv q => ⟨v, H', J.os, J.bare, J.base, J.hok, rv, q⟩
  cases fl with
  | ret u =>
    obtain ⟨v, σ', H', J, rv, q⟩ := hs
    exact fin J rv q
  | next =>
    obtain ⟨σ', H', J, q⟩ := hs
    exact fin (v := V.non) (u := Value.none) J rfl q
  | brk =>
    obtain ⟨_, _, _, q⟩ := hs
    exact False.elim q
  | cont =>
    obtain ⟨_, _, _, q⟩ := hs
    exact False.elim q
end Ev

set_option Elab.async false
set_option linter.all false
set_option maxRecDepth 100000
set_option maxHeartbeats 1000000
namespace Ev
open PySem PySem.Spec PyProof.Rows L2

/-- the module's names: defs by their place, constants -/
structure Md where
  fns : List (Str × Nat)
  gcs : List (Str × P)
  exs : List (Str × Nat) := []
  cts : List (Str × P × List (Nat × Tell)) := []
  nf : Nat := 0
  exi : List (Str × Nat) := []
/-- a block's names -/
structure Fr where
  N : List Str
  sc : Scope
  fl : Str → Bool
  lam : Bool := false
def bltNames : List Str := [("len" : Str), "abs", "int", "sum", "all", "any", "tuple", "isinstance", "bool", "str", "list", "sorted", "min", "max", "range", "enumerate", "zip", "dict", "set"]
abbrev Cf := Nat → List D → St → R D
/-- an error's own dict: none, or its one number -/
def ExD (C : Gc) (H : Hp) : List P → Option Addr → Prop
  | [], d => d = none
  | [x], d => ∃ dd v, d = some dd ∧ H dd = some (.xd [(("limit" : Str), v)]) ∧ RP C H x v
  | _, _ => False
/-- an exception, as the calls see it -/
def EW (C : Gc) (W : XW) : L2.St → XK := fun σ cls d H => ∃ c fs st μ A, C.ga[c]? = some A ∧ cls = .ref A ∧ ExD C H fs d ∧ Wd C H μ st ∧ W c fs st μ H σ
/-- a def's promise -/
def spG (C : Gc) (cf : Cf) (np : Nat) (g : Nat) : Sp := fun vs H Q E => vs.length = np ∧ ∃ μ st ds, Wd C H μ st ∧ RDs C H μ ds vs ∧ (match cf g ds st with
  | .ok d st' => ∀ μ' H', Nx μ H μ' H' → Wd C H' μ' st' → ∀ v, RD C H' μ' d v → Q v H'
  | .exc c fs st' => ∀ μ' H' A, Nx μ H μ' H' → Wd C H' μ' st' → C.ga[c]? = some A → ∀ d, ExD C H' fs d → E (.ref A) d H'
  | .bad => False)
/-- what a def that catches makes of a call's reading -/
def TTw (C : Gc) (okv : P) (tab : List (Nat × Tell)) : (XK → Hp → VK → Prop) → Hp → VK → Prop := fun tl H Q =>
  tl (fun cls d H' => ∃ c A fs x, C.ga[c]? = some A ∧ cls = .ref A ∧ ExD C H' fs d ∧ wordOf tab c fs = some x ∧ ∀ H'' v, Same H' H'' → RP C H'' x v → Q v H'') H (fun _ H' => ∀ H'' v, Same H' H'' → RP C H'' okv v → Q v H'')
/-- the def x calls what it gets, and tells of its error by the table -/
def CatchOk (C : Gc) (mg : Str → Option Value) (base : Heap) (x : Str) (okv : P) (tab : List (Nat × Tell)) : Prop :=
  ∃ (a : Str) (g : Addr) (pg : Arguments) (bg : List Stmt) (sg : Scope) (dV kV doc pm cdv ct oc : Value) (an od : Option Addr) (osl : Array (Option Value)) (Ng : List Str),
    mg x = some (.ref g) ∧ PySem.W.keepIn C.K (.ref g) = true ∧ C.K.lookup g = some ⟨oc, od, .func (PySem.W.fnOf x x pg bg sg dV kV doc pm an cdv ct), osl⟩ ∧ PySem.W.codeIn C.K cdv x = true ∧ L2.Binds C.K (PySem.W.fnOf x x pg bg sg dV kV doc pm an cdv ct) [a] [] ∧ FnScope Ng [a] sg ∧ Ng[0]? = some a ∧ Vis sg a ∧
    (a == ("__debug__" : Str)) = false ∧ (a == ("__classdict__" : Str)) = false ∧ ∀ (X : Cx) (q : Str), X.prog = C.P → X.w = C.w → X.K = C.K → X.mg = mg → X.base = base → GivesN X Ng x sg g cdv bg a q (TTw C okv tab)
structure XOk (C : Gc) (M : Md) (F : Fr) (cf : Cf) (k : Nat) (W : XW) (X : Cx) : Prop where
  prog : X.prog = C.P
  w : X.w = C.w
  K : X.K = C.K
  calm : X.calm = true
  N : X.N = F.N
  nd : X.N.Nodup
  sc : X.env.scope = F.sc
  fl : ∀ x, F.fl x = true → X.fn x = true
  room : Room k X.A
  blt : ∀ x ∈ bltNames, X.mg x = none
  fns : ∀ x g, M.fns.lookup x = some g → ∃ f, C.ga[g]? = some f ∧ X.mg x = some (.ref f)
  fok : ∀ g f, C.ga[g]? = some f → g < M.nf → ∃ fd ps, PySem.W.keepIn X.K (.ref f) = true ∧ Binds X.K fd ps [] ∧ FnOk X.prog X.w X.K X.mg X.base (L2N.CX X.prog X.w) k f fd ps (spG C cf ps.length g) ∧ ∀ ds st, ds.length ≠ ps.length → cf g ds st = .bad
  fnf : ∀ x g, M.fns.lookup x = some g → g < M.nf
  far : ∀ g ds st, M.nf ≤ g → cf g ds st = .bad
  gcs : ∀ x p, M.gcs.lookup x = some p → ∃ u v, X.mg x = some u ∧ RelV v u ∧ ∀ H, RP C H p v
  pass : ∀ σ, PassesAt (L2N.CX X.prog X.w) X σ (EW C W σ)
  lam : F.lam = true → Room (k + 2) X.A ∧ ∃ c P, X.env.code = .ref c ∧ LamX.TabB X.base X.mg c P ∧ (P, X.env.qual ++ "<lambda>") ∈ C.tbs ∧ ∀ p ∈ C.tbs, p.1 = P → p.2 = X.env.qual ++ "<lambda>"
  ctc : ∀ x okv tab, (x, okv, tab) ∈ M.cts → CatchOk C X.mg X.base x okv tab
theorem XOk.units {C : Gc} {M : Md} {F : Fr} {cf : Cf} {k : Nat} {W : XW} {X : Cx} (o : XOk C M F cf k W X) : X.A.units + 65 < cLine := by
  have := o.room.un; omega

/-! ### names -/
def visB (sc : Scope) (x : Str) : Bool := match sc.names.lookup x with
  | some .local => true | some .cell => true | some .free => true | _ => false
def glB (sc : Scope) (x : Str) : Bool := match sc.names.lookup x with
  | some .globalImplicit => true | _ => false
def nmB (x : Str) : Bool := !(x == ("__debug__" : Str)) && !(x == ("__classdict__" : Str)) && !(x == ("__name__" : Str))
theorem visB_of {sc : Scope} {x : Str} (h : visB sc x = true) : Vis sc x := by
  unfold visB at h
  split at h <;> first | exact .inl (by assumption) | exact .inr (.inl (by assumption)) | exact .inr (.inr (by assumption)) | cases h
theorem glB_of {X : Cx} {F : Fr} {x : Str} (e : X.env.scope = F.sc) (h : glB F.sc x = true) : Gl X x := by
  unfold glB at h
  show X.env.scope.names.lookup x = some .globalImplicit
  rw [e]
  split at h
  · assumption
  · cases h
theorem nmB_of {x : Str} (h : nmB x = true) : (x == ("__debug__" : Str)) = false ∧ (x == ("__classdict__" : Str)) = false ∧ x ≠ ("__name__" : Str) := by
  unfold nmB at h
  simp only [Bool.and_eq_true, Bool.not_eq_true'] at h
  exact ⟨h.1.1, h.1.2, fun z => by rw [z] at h; simp at h⟩
def asName : Expr → Option Str
  | .Name x _ => some x
  | _ => none
theorem asName_of {e : Expr} {x : Str} (h : asName e = some x) : ∃ p, e = .Name x p := by
  cases e <;> first | (cases h; exact ⟨_, rfl⟩) | cases h
/-- a call of a name -/
def asCall : Expr → Option (Str × List Expr)
  | .Call (.Name x _) es [] _ => some (x, es)
  | _ => none
theorem asCall_of {e : Expr} {x : Str} {es : List Expr} (h : asCall e = some (x, es)) : ∃ p pos, e = .Call (.Name x p) es [] pos := by
  unfold asCall at h
  split at h
  · cases h; exact ⟨_, _, rfl⟩
  · cases h
/-- a method's call -/
def asMeth : Expr → Option (Expr × Str × List Expr)
  | .Call (.Attribute o m _) es [] _ => some (o, m, es)
  | _ => none
theorem asMeth_of {e o : Expr} {m : Str} {es : List Expr} (h : asMeth e = some (o, m, es)) : ∃ p pos, e = .Call (.Attribute o m p) es [] pos := by
  unfold asMeth at h
  split at h
  · cases h; exact ⟨_, _, rfl⟩
  · cases h
def asBin : Expr → Option (Expr × Operator × Expr)
  | .BinOp a o b _ => some (a, o, b)
  | _ => none
theorem asBin_of {e a b : Expr} {o : Operator} (h : asBin e = some (a, o, b)) : ∃ pos, e = .BinOp a o b pos := by
  cases e <;> first | (cases h; exact ⟨_, rfl⟩) | cases h
def asSub : Expr → Option (Expr × Expr)
  | .Subscript a b _ => some (a, b)
  | _ => none
theorem asSub_of {e a b : Expr} (h : asSub e = some (a, b)) : ∃ pos, e = .Subscript a b pos := by
  cases e <;> first | (cases h; exact ⟨_, rfl⟩) | cases h
def asSlice : Expr → Option (Option Expr × Option Expr)
  | .Slice lo hi none _ => some (lo, hi)
  | _ => none
theorem asSlice_of {e : Expr} {a b : Option Expr} (h : asSlice e = some (a, b)) : ∃ pos, e = .Slice a b none pos := by
  unfold asSlice at h
  split at h
  · cases h; exact ⟨_, rfl⟩
  · cases h
def asTup : Expr → Option (List Expr)
  | .Tuple es _ _ => some es
  | _ => none
theorem asTup_of {e : Expr} {es : List Expr} (h : asTup e = some es) : ∃ k pos, e = .Tuple es k pos := by
  cases e <;> first | (cases h; exact ⟨_, _, rfl⟩) | cases h
def asLst : Expr → Option (List Expr)
  | .List es _ => some es
  | _ => none
theorem asLst_of {e : Expr} {es : List Expr} (h : asLst e = some es) : ∃ pos, e = .List es pos := by
  cases e <;> first | (cases h; exact ⟨_, rfl⟩) | cases h
def asCmp1 : Expr → Option (Expr × CmpOp × Expr)
  | .Compare a [o] [b] _ => some (a, o, b)
  | _ => none
theorem asCmp1_of {e a b : Expr} {o : CmpOp} (h : asCmp1 e = some (a, o, b)) : ∃ pos, e = .Compare a [o] [b] pos := by
  unfold asCmp1 at h
  split at h
  · cases h; exact ⟨_, rfl⟩
  · cases h
def asCmp2 : Expr → Option (Expr × CmpOp × Expr × CmpOp × Expr)
  | .Compare a [o, o'] [b, d] _ => some (a, o, b, o', d)
  | _ => none
theorem asCmp2_of {e a b d : Expr} {o o' : CmpOp} (h : asCmp2 e = some (a, o, b, o', d)) : ∃ pos, e = .Compare a [o, o'] [b, d] pos := by
  unfold asCmp2 at h
  split at h
  · cases h; exact ⟨_, rfl⟩
  · cases h
def asNot : Expr → Option Expr
  | .UnaryOp .Not a _ => some a
  | _ => none
theorem asNot_of {e a : Expr} (h : asNot e = some a) : ∃ pos, e = .UnaryOp .Not a pos := by
  unfold asNot at h
  split at h
  · cases h; exact ⟨_, rfl⟩
  · cases h
def asNeg : Expr → Option Expr
  | .UnaryOp .USub a _ => some a
  | _ => none
theorem asNeg_of {e a : Expr} (h : asNeg e = some a) : ∃ pos, e = .UnaryOp .USub a pos := by
  unfold asNeg at h
  split at h
  · cases h; exact ⟨_, rfl⟩
  · cases h
def asBool : Expr → Option (BoolOp × Expr × List Expr × Pos)
  | .BoolOp o (a :: es) p => some (o, a, es, p)
  | _ => none
theorem asBool_of {e a : Expr} {o : BoolOp} {es : List Expr} {p : Pos} (h : asBool e = some (o, a, es, p)) : e = .BoolOp o (a :: es) p := by
  unfold asBool at h
  split at h
  · cases h; rfl
  · cases h
def asIf : Expr → Option (Expr × Expr × Expr)
  | .IfExp c a b _ => some (c, a, b)
  | _ => none
theorem asIf_of {e a b c : Expr} (h : asIf e = some (c, a, b)) : ∃ pos, e = .IfExp c a b pos := by
  cases e <;> first | (cases h; exact ⟨_, rfl⟩) | cases h
/-- a written constant -/
def constB : P → Expr → Bool
  | .non, .Constant .none _ _ => true
  | .bl b, .Constant (.bool c) _ _ => b == c
  | .int i, .Constant (.int j) _ _ => decide (i = j)
  | .str x, .Constant (.str y) _ _ => decide (x = y)
  | _, _ => false

section
variable {C : Gc} {M : Md} {F : Fr} {cf : Cf} {k : Nat} {W : XW} {X : Cx}
/-! ### the rules -/
theorem g_var (o : XOk C M F cf k W X) {i : Nat} {x : Str} {p : Pos} (hi : F.N[i]? = some x) (hv : visB F.sc x = true) (hn : nmB x = true) : PE X (.Name x p) (rdE C W (evE cf (.var i))) := by
  obtain ⟨n1, n2, _⟩ := nmB_of hn
  refine weak (pe_var (by rw [o.N]; exact hi) (by rw [o.sc]; exact visB_of hv) n1 n2) fun σ H Q ⟨μ, st, r, w, hr, h⟩ => ?_
  rw [evE] at h
  split at h
  · rename_i d e
    obtain ⟨v, q1, q2⟩ := hr.at_ i d e
    exact ⟨v, q1, post.here h w v q2⟩
  · exact h.elim
theorem g_lit {x : P} {e : Expr} (h : constB x e = true) : PE X e (rdE C W (evE cf (.lit x))) := by
  have go : ∀ {v : V}, (∀ H, RP C H x v) → PE X e (tC v) → PE X e (rdE C W (evE cf (.lit x))) := fun {v} rp hp => weak hp fun σ H Q ⟨μ, st, r, w, hr, h⟩ => by
    rw [evE] at h
    exact post.here h w v (rp H)
  unfold constB at h
  split at h
  · exact go (v := .non) (fun H => RP.non_iff.mpr rfl) pe_non
  · obtain rfl := eq_of_beq h
    exact go (v := .bl _) (fun H => RP.bl_iff.mpr rfl) pe_bl
  · obtain rfl := of_decide_eq_true h
    exact go (v := .int _) (fun H => RP.int_iff.mpr rfl) pe_int
  · obtain rfl := of_decide_eq_true h
    exact go (v := .str _) (fun H => RP.str_iff.mpr rfl) pe_str
  · cases h
theorem g_gc (o : XOk C M F cf k W X) {y : P} {x : Str} {p : Pos} (hl : M.gcs.lookup x = some y) (hg : glB F.sc x = true) (hn : nmB x = true) : PE X (.Name x p) (rdE C W (evE cf (.gc y x))) := by
  obtain ⟨n1, n2, _⟩ := nmB_of hn
  obtain ⟨u, v, m, rv, rp⟩ := o.gcs x y hl
  refine weak (pe_glob (glB_of o.sc hg) m rv n1) fun σ H Q ⟨μ, st, r, w, hr, h⟩ => ?_
  rw [evE] at h
  exact post.here h w v (rp H)
theorem g_glo (o : XOk C M F cf k W X) {g : Nat} {x : Str} {p : Pos} (hl : M.fns.lookup x = some g) (hg : glB F.sc x = true) (hn : nmB x = true) : PE X (.Name x p) (rdE C W (evE cf (.glo g))) := by
  obtain ⟨n1, n2, _⟩ := nmB_of hn
  obtain ⟨f, e, m⟩ := o.fns x g hl
  refine weak (pe_glob (v := .ref f) (glB_of o.sc hg) m rfl n1) fun σ H Q ⟨μ, st, r, w, hr, h⟩ => ?_
  rw [evE] at h
  exact post.here h w (.ref f) (show RP C H (.glo g) (.ref f) from RP.glo_iff.mpr ⟨f, e, rfl⟩)
theorem g_nil : PA X [] (rdA C W (evEs cf .nil)) := weakA pa_nil fun σ H Q ⟨μ, st, r, w, hr, h⟩ => by
  rw [evEs] at h
  exact post.here h w [] .nil
theorem g_cons {a : E} {as : Es} {e : Expr} {es : List Expr} (hs : notStar e = true) (h1 : PE X e (rdE C W (evE cf a))) (h2 : PA X es (rdA C W (evEs cf as))) : PA X (e :: es) (rdA C W (evEs cf (.cons a as))) := by
  refine weakA (pa_cons h1 h2 (star_cons hs)) fun σ H Q ⟨μ, st, r, w, hr, h⟩ => ?_
  rw [evEs] at h
  refine step w hr h fun d st1 μ1 H1 n1 w1 hr1 h1 v rv => ?_
  refine step w1 hr1 h1 fun ds st2 μ2 H2 n2 w2 hr2 h2 vs rvs => ?_
  exact post.here h2 w2 (v :: vs) (.cons (rv.nx n2) rvs)
theorem perss_rp {H : Hp} {μ : List Addr} : ∀ {ds : List D} {vs : List V} {xs : List P}, RDs C H μ ds vs → perss ds = some xs → RPs C H xs vs
  | [], vs, xs, r, e => by cases e; cases r; exact .nil
  | d :: ds, vs, xs, r, e => by
    cases r with
    | cons r1 r2 =>
      cases d with
      | p x =>
        rw [perss] at e
        cases q : perss ds with
        | none => rw [q] at e; cases e
        | some ys => rw [q] at e; cases e; exact .cons r1 (perss_rp r2 q)
      | obj n => cases e
/-- the tuple's length is small: it is written -/
def Es.len : Es → Nat
  | .nil => 0
  | .cons _ es => es.len + 1
theorem evEs_len : ∀ {es : Es} {r : En} {s s' : St} {ds : List D}, evEs cf es r s = .ok ds s' → ds.length = es.len
  | .nil, r, s, s', ds, h => by rw [evEs] at h; cases h; rfl
  | .cons e es, r, s, s', ds, h => by
    rw [evEs] at h
    obtain ⟨d, s1, h1, h2⟩ := bind_ok h
    obtain ⟨ds', s2, h3, h4⟩ := bind_ok h2
    cases h4
    rw [List.length_cons, evEs_len h3]; rfl
theorem g_tup {as : Es} {es : List Expr} {x1 : Nat} {pos : Pos} (hl : es.length ≤ 1000) (hl2 : as.len = es.length) (h1 : PA X es (rdA C W (evEs cf as))) : PE X (.Tuple es x1 pos) (rdE C W (evE cf (.tup as))) := by
  refine weak (pe_tup h1) fun σ H Q ⟨μ, st, r, w, hr, h⟩ => ?_
  rw [evE] at h
  refine ⟨μ, st, r, w, hr, ?_⟩
  cases e : evEs cf as r st with
  | bad => rw [e] at h; exact h
  | exc c fs st1 => rw [e] at h; exact h
  | ok ds st1 =>
    rw [e] at h
    intro μ1 H1 n1 w1 vs rvs
    have h : post C W σ μ H (match perss ds with | some xs => R.ok (D.p (.tup xs)) st1 | none => .bad) (okD C Q) := h
    split at h
    · rename_i xs q
      have hz := sizeLine_eq
      have l := evEs_len e
      have l2 := Paired.length rvs
      refine ⟨by omega, fun p hp => ?_⟩
      exact h μ1 _ (n1.trans (Nx.fresh hp)) (w1.fresh hp) _ (tupOf hp (perss_rp rvs q))
    · exact h.elim
/-- a one-place operation, by its call -/
theorem un_post {u : U} {σ : L2.St} {H : Hp} {Q : VK} {μ : List Addr} {st : St} {d : D} {v : V} (w : Wd C H μ st) (rv : RD C H μ d v) (h : post C W σ μ H (match view st d with
    | some x => (match evU u x with | some y => R.ok (D.p y) st | none => .bad)
    | none => .bad) (okD C Q)) : Ev.rU C (evU u) [v] H Q := by
  split at h
  · rename_i x e
    split at h
    · rename_i y e2
      exact ⟨v, x, y, rfl, view_ok w rv e, e2, fun H' v' g r' => h μ H' (Nx.same g) (w.same g) v' r'⟩
    · exact h.elim
  · exact h.elim
theorem bin_post {u : B} {σ : L2.St} {H : Hp} {Q : VK} {μ : List Addr} {st : St} {d d' : D} {v v' : V} (w : Wd C H μ st) (rv : RD C H μ d v) (rv' : RD C H μ d' v') (h : post C W σ μ H (match view st d, view st d' with
    | some x, some y => (match evB u x y with | some z => R.ok (D.p z) st | none => .bad)
    | _, _ => .bad) (okD C Q)) : Ev.rB C (evB u) v v' H Q := by
  split at h
  · rename_i x y e e'
    split at h
    · rename_i z e2
      exact ⟨x, y, z, view_ok w rv e, view_ok w rv' e', e2, fun H' v' g r' => h μ H' (Nx.same g) (w.same g) v' r'⟩
    · exact h.elim
  · exact h.elim
theorem g_un {u : U} {a : E} {e : Expr} {x : Str} {id : String} {p pos : Pos} (o : XOk C M F cf k W X) (hs : notStar e = true) (hx : x ∈ bltNames) (hn : nmB x = true) (hg : glB F.sc x = true) (hv : bootBuiltins x = some (.builtin id)) (hc : CallR X (.builtin id) (Ev.rU C (evU u))) (h1 : PE X e (rdE C W (evE cf a))) : PE X (.Call (.Name x p) [e] [] pos) (rdE C W (evE cf (.un u a))) := by
  obtain ⟨n1, n2, n3⟩ := nmB_of hn
  refine weak (pe_callB hc (glB_of o.sc hg) (o.blt x hx) hv (pa_cons h1 pa_nil (star_cons hs)) n3 n1 (star_cons hs) rfl) fun σ H Q ⟨μ, st, r, w, hr, h⟩ => ?_
  rw [evE] at h
  exact step w hr h fun d st1 μ1 H1 n1 w1 hr1 h1 v rv => un_post w1 rv h1
theorem g_unTy {u : U} {a : E} {e : Expr} {x : Str} {id : String} {p pos : Pos} (o : XOk C M F cf k W X) (hs : notStar e = true) (hx : x ∈ bltNames) (hn : nmB x = true) (hg : glB F.sc x = true) (hv : bootBuiltins x = some (.type id)) (hc : CallR X (.type id) (Ev.rU C (evU u))) (h1 : PE X e (rdE C W (evE cf a))) : PE X (.Call (.Name x p) [e] [] pos) (rdE C W (evE cf (.un u a))) := by
  obtain ⟨n1, n2, n3⟩ := nmB_of hn
  refine weak (pe_callTy hc (glB_of o.sc hg) (o.blt x hx) hv (pa_cons h1 pa_nil (star_cons hs)) n3 n1 (star_cons hs) rfl) fun σ H Q ⟨μ, st, r, w, hr, h⟩ => ?_
  rw [evE] at h
  exact step w hr h fun d st1 μ1 H1 n1 w1 hr1 h1 v rv => un_post w1 rv h1
theorem g_isi {u : U} {t : String} {a : E} {e : Expr} {x y : Str} {p p2 pos : Pos} (o : XOk C M F cf k W X) (hs : notStar e = true) (hx : x = "isinstance") (hg : glB F.sc x = true) (hy : y ∈ bltNames) (hny : nmB y = true) (hgy : glB F.sc y = true) (hty : bootBuiltins y = some (.type t))
    (hu : ∀ q z, evU u q = some z → ∃ b, isiOf t q = some b ∧ z = .bl b) (h1 : PE X e (rdE C W (evE cf a))) : PE X (.Call (.Name x p) [e, .Name y p2] [] pos) (rdE C W (evE cf (.un u a))) := by
  subst hx
  obtain ⟨n1, n2, n3⟩ := nmB_of hny
  refine weak (pe_callB (u_isi o.K t) (glB_of o.sc hg) (o.blt _ (by decide +kernel)) (by decide +kernel) (pa_cons h1 (pa_cons (pe_bltn (v := .ty t) (glB_of o.sc hgy) (o.blt y hy) hty rfl n3 n1) pa_nil) (star_cons hs)) (by decide +kernel) (by decide +kernel) (star_cons hs) rfl) fun σ H Q ⟨μ, st, r, w, hr, h⟩ => ?_
  rw [evE] at h
  refine step w hr h fun d st1 μ1 H1 n1 w1 hr1 h1 v rv => ?_
  obtain ⟨v', q, z, e1, vp, ez, hq⟩ := un_post w1 rv h1
  obtain ⟨rfl, _⟩ := List.cons.inj e1
  obtain ⟨b, eb, rfl⟩ := hu q z ez
  exact ⟨v, q, b, rfl, vp, eb, hq H1 _ (Same.refl H1) (RP.bl_iff.mpr rfl)⟩
theorem g_neg {a : E} {e : Expr} {pos : Pos} (h1 : PE X e (rdE C W (evE cf a))) : PE X (.UnaryOp .USub e pos) (rdE C W (evE cf (.un .neg a))) := by
  refine weak (pe_un (u_neg (C := C)) h1) fun σ H Q ⟨μ, st, r, w, hr, h⟩ => ?_
  rw [evE] at h
  exact step w hr h fun d st1 μ1 H1 n1 w1 hr1 h1 v rv => un_post w1 rv h1
theorem g_bin {u : B} {a b : E} {e e' : Expr} {op : Operator} {pos : Pos} (ho : OpR X (binaryOp op) (Ev.rB C (evB u))) (h1 : PE X e (rdE C W (evE cf a))) (h2 : PE X e' (rdE C W (evE cf b))) : PE X (.BinOp e op e' pos) (rdE C W (evE cf (.bin u a b))) := by
  refine weak (pe_op ho h1 h2) fun σ H Q ⟨μ, st, r, w, hr, h⟩ => ?_
  rw [evE] at h
  refine step w hr h fun d st1 μ1 H1 n1 w1 hr1 h1 v rv => ?_
  refine step w1 hr1 h1 fun d' st2 μ2 H2 n2 w2 hr2 h2 v' rv' => ?_
  exact bin_post w2 (rv.nx n2) rv' h2
theorem g_idx {a b : E} {e e' : Expr} {pos : Pos} (o : XOk C M F cf k W X) (hs : notSlice e' = true) (h1 : PE X e (rdE C W (evE cf a))) (h2 : PE X e' (rdE C W (evE cf b))) : PE X (.Subscript e e' pos) (rdE C W (evE cf (.bin .idx a b))) := by
  refine weak (pe_ix (b_idx o.prog o.w o.K o.units) h1 h2 (plain_ix hs)) fun σ H Q ⟨μ, st, r, w, hr, h⟩ => ?_
  rw [evE] at h
  refine step w hr h fun d st1 μ1 H1 n1 w1 hr1 h1 v rv => ?_
  refine step w1 hr1 h1 fun d' st2 μ2 H2 n2 w2 hr2 h2 v' rv' => ?_
  exact bin_post w2 (rv.nx n2) rv' h2
theorem g_min2 {u : B} {a b : E} {e e' : Expr} {x : Str} {id : String} {p pos : Pos} (o : XOk C M F cf k W X) (hs : notStar e = true) (hs' : notStar e' = true) (hx : x ∈ bltNames) (hn : nmB x = true) (hg : glB F.sc x = true) (hv : bootBuiltins x = some (.builtin id))
    (hc : CallR X (.builtin id) (fun vs H Q => ∃ v w, vs = [v, w] ∧ rB C (evB u) v w H Q)) (h1 : PE X e (rdE C W (evE cf a))) (h2 : PE X e' (rdE C W (evE cf b))) : PE X (.Call (.Name x p) [e, e'] [] pos) (rdE C W (evE cf (.bin u a b))) := by
  obtain ⟨n1, n2, n3⟩ := nmB_of hn
  refine weak (pe_callB hc (glB_of o.sc hg) (o.blt x hx) hv (pa_cons h1 (pa_cons h2 pa_nil (star_cons hs')) (star_cons hs)) n3 n1 (star_cons hs) (star_any (by simp [hs']))) fun σ H Q ⟨μ, st, r, w, hr, h⟩ => ?_
  rw [evE] at h
  refine step w hr h fun d st1 μ1 H1 n1 w1 hr1 h1 v rv => ?_
  refine step w1 hr1 h1 fun d' st2 μ2 H2 n2 w2 hr2 h2 v' rv' => ?_
  exact ⟨v, v', rfl, bin_post w2 (rv.nx n2) rv' h2⟩
/-! ### tests -/
theorem cmp_post {u : Ev.C} {σ : L2.St} {H : Hp} {Q : Bool → Hp → Prop} {μ : List Addr} {st : St} {d d' : D} {v v' : V} (w : Wd C H μ st) (rv : RD C H μ d v) (rv' : RD C H μ d' v') (h : post C W σ μ H (match view st d, view st d' with
    | some x, some y => (match evC u x y with | some z => R.ok z st | none => .bad)
    | _, _ => .bad) (okT Q)) : ∃ x y z, VP C H x v ∧ VP C H y v' ∧ evC u x y = some z ∧ Q z H := by
  split at h
  · rename_i x y e e'
    split at h
    · rename_i z e2
      exact ⟨x, y, z, view_ok w rv e, view_ok w rv' e', e2, post.here h w⟩
    · exact h.elim
  · exact h.elim
end
end Ev

set_option Elab.async false
set_option linter.all false
set_option maxRecDepth 100000
set_option maxHeartbeats 2000000
namespace Ev
open PySem PySem.Spec PyProof.Rows L2

/-- C(e), C's own __init__ keeping spI, the context told -/
theorem pmk_ini {X : Cx} {CXg : CXT} {x pre fld : Str} {C fI : Addr} {k : Nat} {fd : FuncData} {n1 n2 : Str} {e : Expr} {ta : TA} {p pos : Pos} (T : OexC X.K C) (hkp : PySem.W.keepIn X.K (.ref C) = true) (iC : PySem.W.findIn X.K (.ref C) "__init__" = some (some (.ref fI))) (tI : PySem.W.typeIn X.K (.ref fI) = some (.type "function"))
    (F1 : FnOk X.prog X.w X.K X.mg X.base CXg k fI fd [n1, n2] (spI C pre fld)) (hr : Room (k + 1) X.A) (hb : Binds X.K fd [n1, n2] []) (hx : Passes CXg X (fun _ _ _ => False)) (hg : Gl X x) (hm : X.mg x = some (.ref C)) (ha : PA X [e] ta)
    (hdb : (x == ("__debug__" : Str)) = false) (he : starEach [e] X.env = (false, eval e X.env) :: starEach [] X.env) :
    L2N.PMk X (.Call (.Name x p) [e] [] pos) (fun σ H Q => ta σ H fun vs H1 => ∃ i : Int, vs = [.int i] ∧ i.natAbs.log2 < 1920 ∧ pre.length + (Str.ofString (toString i)).length ≤ sizeLine ∧ ∀ d, H1 d = none → Q (.ref C) (some d) (upd H1 d (.xd [(fld, .int i)]))) := by
  intro pins s σ H Q I h
  obtain ⟨nm, q, N, bs, bm, sn, sub, ab, col, dd, k0, k1, k2, k3, k5, hC, hbm⟩ := T.cls
  refine wpAny_Call_Name_kw (ld_glob I hg hm ?_ hdb)
  refine PySem.W.callWith_K (h₀ := X.base) I.ok.mod.kin hkp (thn (ha.run pos pins s σ H _ I h) fun us s1 ⟨vs, H1, I1, r1, i, ev, hi, hz, q1⟩ => ⟨I1.kIn, ?_⟩) he rfl
  subst ev
  show wpAny _ _ (call (.ref C) us) _ _ _
  obtain ⟨hp, g, dr, tk, os⟩ := s1
  have hsz : hp.objs.size ≤ hp.objs.size + 1 := Nat.le_succ _
  have hn : H1 (hp.objs.size + 1) = none := I1.hok.fresh hsz
  have kk : ∀ b o, hp.get? b = some o → ((hp.push (PySem.W.kdv_tup us)).push (PySem.HandSPX.excO C hp.objs.size)).get? b = some o := fun b o e => Heap.get?_push_of_some _ (Heap.get?_push_of_some _ e)
  have hget : ((hp.push (PySem.W.kdv_tup us)).push (PySem.HandSPX.excO C hp.objs.size)).get? (hp.objs.size + 1) = some (PySem.HandSPX.excO C hp.objs.size) := by heap_get
  have I2 : Inv X pins σ (upd H1 (hp.objs.size + 1) (exo (hp.objs.size + 1) C none)) ⟨(hp.push (PySem.W.kdv_tup us)).push (PySem.HandSPX.excO C hp.objs.size), g, dr, tk, os⟩ :=
    I1.laid (t' := tk) (a := hp.objs.size + 1) (o := exo (hp.objs.size + 1) C none) (h' := (hp.push (PySem.W.kdv_tup us)).push (PySem.HandSPX.excO C hp.objs.size)) kk hsz (exo_ok hget)
  have r2 : Vals [V.ref (hp.objs.size + 1), V.int i] (Value.ref (hp.objs.size + 1) :: us) := .cons rfl r1
  have hl : (Value.ref (hp.objs.size + 1) :: us).length = 2 := (Paired.length r2).symm
  have hus : us.length ≤ sizeLine := by
    have e1 : us.length = 1 := (Paired.length r1).symm
    rw [e1, sizeLine_eq]
    decide
  have hsp : spI C pre fld [V.ref (hp.objs.size + 1), V.int i] (upd H1 (hp.objs.size + 1) (exo (hp.objs.size + 1) C none))
      (fun v H2 => v = .non ∧ ∃ d, H1 d = none ∧ d ≠ hp.objs.size + 1 ∧ H2 = upd (upd (upd H1 (hp.objs.size + 1) (exo (hp.objs.size + 1) C none)) d (exd d [(fld, .int i)])) (hp.objs.size + 1) (exo (hp.objs.size + 1) C (some d))) (fun _ _ _ => False) :=
    ⟨_, i, rfl, hi, hz, upd_same, fun d hd hne => ⟨rfl, d, by rwa [upd_ne hne] at hd, hne, rfl⟩⟩
  have hb2 := hb ⟨(hp.push (PySem.W.kdv_tup us)).push (PySem.HandSPX.excO C hp.objs.size), g, dr, tk, os⟩ (Value.ref (hp.objs.size + 1) :: us) I2.kIn (by rw [List.append_nil, hl]; rfl)
  rw [List.append_nil] at hb2
  refine wpAny_call (PySem.HandSPX.call_own F.excBase_ValueError (fun Y => PySem.HandSPX.refsVE_contains Y bm hbm) (I1.kIn _ _ hC) (PySem.W.looks_findIn I1.kIn iC) (fun self => PySem.W.bind_fn I1.kIn self tI) hus
    (codeAny_mono (F1.run _ X.stack _ _ ⟨Value.ref (hp.objs.size + 1) :: us, []⟩ (Value.ref (hp.objs.size + 1) :: us) _ _ (fun _ _ _ => False) (hr.make C us []) (I2.env0.make C us []) hb2 r2 hsp) fun r s' hq' => ?_))
  cases r with
  | error er => exact hx pins σ _ _ er s' I2 hq'
  | ok fl =>
    cases fl with
    | ret u =>
      obtain ⟨v, H2, os2, bare2, un2, hok2, rv, ev, d, hd1, hne, eH⟩ := hq'
      subst ev eH
      obtain ⟨h2, g2, d2, t2, os'⟩ := s'
      have ea : (upd (upd (upd H1 (hp.objs.size + 1) (exo (hp.objs.size + 1) C none)) d (exd d [(fld, .int i)])) (hp.objs.size + 1) (exo (hp.objs.size + 1) C (some d))) (hp.objs.size + 1) = some (exo (hp.objs.size + 1) C (some d)) := upd_same
      have ed : (upd (upd (upd H1 (hp.objs.size + 1) (exo (hp.objs.size + 1) C none)) d (exd d [(fld, .int i)])) (hp.objs.size + 1) (exo (hp.objs.size + 1) C (some d))) d = some (exd d [(fld, .int i)]) := by
        rw [upd_ne hne, upd_same]
      obtain ⟨t0, G, J, kG, ge, hoe, na⟩ := mk_end0 (d2 := d2) (t2 := t2) I1 hsz kk un2 hok2 os2 bare2 ea ed hd1
      have eq : upd (del (upd (upd (upd H1 (hp.objs.size + 1) (exo (hp.objs.size + 1) C none)) d (exd d [(fld, .int i)])) (hp.objs.size + 1) (exo (hp.objs.size + 1) C (some d))) (hp.objs.size + 1)) d (.xd [(fld, .int i)]) = upd H1 d (.xd [(fld, .int i)]) := by
        funext b
        by_cases hbd : b = d
        · rw [hbd, upd_same, upd_same]
        · rw [upd_ne hbd, upd_ne hbd]
          by_cases hba : b = hp.objs.size + 1
          · rw [hba, del_same, hn]
          · rw [del_ne hba, upd_ne hba, upd_ne hbd, upd_ne hba]
      rw [eq] at J na
      exact ⟨rv, _, _, _, ⟨G, g2, d2, t2, os'⟩, _, .ref C, some d, rfl, J, kG, ge, hoe, ⟨rfl, rfl, fun vs e => by cases e; rfl⟩, rfl, rfl, na, rfl, bare2, raises_own T.exC T.tyC, q1 d hd1⟩
    | next => exact False.elim hq'
    | brk => exact False.elim hq'
    | cont => exact False.elim hq'
end Ev

set_option Elab.async false
set_option linter.all false
set_option maxRecDepth 100000
set_option maxHeartbeats 1000000
namespace Ev
open PySem PySem.Spec PyProof.Rows L2

theorem hereT {C : Gc} {W : XW} {σ : L2.St} {μ : List Addr} {H : Hp} {b : Bool} {st : St} {Q : Bool → Hp → Prop} (h : post C W σ μ H (.ok b st) (okT Q)) (w : Wd C H μ st) : Q b H := post.here h w
theorem hereD {C : Gc} {W : XW} {σ : L2.St} {μ : List Addr} {H : Hp} {d : D} {st : St} {Q : VK} (h : post C W σ μ H (.ok d st) (okD C Q)) (w : Wd C H μ st) {v : V} (r : RD C H μ d v) : Q v H := post.here h w v r
theorem ite_t {α : Sort _} {a b : α} : (if true = true then a else b) = a := if_pos rfl
theorem ite_f {α : Sort _} {a b : α} : (if false = true then a else b) = b := if_neg Bool.false_ne_true
section
variable {C : Gc} {M : Md} {F : Fr} {cf : Cf} {k : Nat} {W : XW} {X : Cx}
/-- which operator a comparison is -/
def cOk : Ev.C → CmpOp → Bool
  | .eq, .Eq => true | .ne, .NotEq => true | .lt, .Lt => true | .le, .LtE => true | .gt, .Gt => true | .ge, .GtE => true
  | .isin, .In => true | .notin, .NotIn => true | .isNone, .Is => true | .notNone, .IsNot => true
  | .isTrue, .Is => true | .isFalse, .Is => true | .notTrue, .IsNot => true | .notFalse, .IsNot => true
  | _, _ => false
theorem c_all (o : XOk C M F cf k W X) {c : Ev.C} {op : CmpOp} (h : cOk c op = true) : OpR X (compareOp op) (rC C (evC c)) := by
  cases c with
  | eq =>
    obtain rfl : op = .Eq := by cases op <;> first | rfl | exact absurd h (by decide)
    exact c_eq o.K o.units
  | ne =>
    obtain rfl : op = .NotEq := by cases op <;> first | rfl | exact absurd h (by decide)
    exact c_ne o.K o.units
  | lt =>
    obtain rfl : op = .Lt := by cases op <;> first | rfl | exact absurd h (by decide)
    exact c_lt o.K o.units
  | le =>
    obtain rfl : op = .LtE := by cases op <;> first | rfl | exact absurd h (by decide)
    exact c_le
  | gt =>
    obtain rfl : op = .Gt := by cases op <;> first | rfl | exact absurd h (by decide)
    exact c_gt
  | ge =>
    obtain rfl : op = .GtE := by cases op <;> first | rfl | exact absurd h (by decide)
    exact c_ge
  | isin =>
    obtain rfl : op = .In := by cases op <;> first | rfl | exact absurd h (by decide)
    exact c_in o.prog o.w o.K o.units
  | notin =>
    obtain rfl : op = .NotIn := by cases op <;> first | rfl | exact absurd h (by decide)
    exact c_notin o.prog o.w o.K o.units
  | isNone =>
    obtain rfl : op = .Is := by cases op <;> first | rfl | exact absurd h (by decide)
    exact c_isNone
  | notNone =>
    obtain rfl : op = .IsNot := by cases op <;> first | rfl | exact absurd h (by decide)
    exact c_notNone
  | isTrue =>
    obtain rfl : op = .Is := by cases op <;> first | rfl | exact absurd h (by decide)
    exact c_isTrue
  | isFalse =>
    obtain rfl : op = .Is := by cases op <;> first | rfl | exact absurd h (by decide)
    exact c_isFalse
  | notTrue =>
    obtain rfl : op = .IsNot := by cases op <;> first | rfl | exact absurd h (by decide)
    exact c_notTrue
  | notFalse =>
    obtain rfl : op = .IsNot := by cases op <;> first | rfl | exact absurd h (by decide)
    exact c_notFalse
/-- a test: as a test, as a value -/
def Both (C : Gc) (W : XW) (X : Cx) (e : Expr) (ev : En → St → R Bool) : Prop := PT X e (rdT C W ev) ∧ PE X e (rdTE C W ev)
theorem cmp_rd {c : Ev.C} {a b : E} {σ : L2.St} {H : Hp} {Q : Bool → Hp → Prop} {Q2 : VK} (hQ : ∀ z H, Q z H → Q2 (.bl z) H) (h : rdG C W (evT cf (.cmp c a b)) (okT Q) σ H) : tOp (rC C (evC c)) (rdE C W (evE cf a)) (rdE C W (evE cf b)) σ H Q2 := by
  obtain ⟨μ, st, r, w, hr, h⟩ := h
  rw [evT] at h
  refine step w hr h fun d st1 μ1 H1 n1 w1 hr1 h1 v rv => ?_
  refine step w1 hr1 h1 fun d' st2 μ2 H2 n2 w2 hr2 h2 v' rv' => ?_
  obtain ⟨x, y, z, v1, v2, ez, q⟩ := cmp_post w2 (rv.nx n2) rv' h2
  exact ⟨x, y, z, v1, v2, ez, hQ z H2 q⟩
theorem g_cmp (o : XOk C M F cf k W X) {c : Ev.C} {op : CmpOp} {a b : E} {e e' : Expr} {pos : Pos} (hc : cOk c op = true) (hs : notSet e' = true) (h1 : PE X e (rdE C W (evE cf a))) (h2 : PE X e' (rdE C W (evE cf b))) : Both C W X (.Compare e [op] [e'] pos) (evT cf (.cmp c a b)) :=
  ⟨weakT (pt_cmpR (c_all o hc) h1 h2 (behind_set hs)) fun σ H Q h => cmp_rd (Q := Q) (fun z H q => ⟨z, rfl, q⟩) h,
   weak (pe_cmpR (c_all o hc) h1 h2 (behind_set hs)) fun σ H Q h => cmp_rd (Q := fun b H => Q (.bl b) H) (fun z H q => q) h⟩
theorem chain_rd {c c' : Ev.C} {a b d : E} {σ : L2.St} {H : Hp} {Q : Bool → Hp → Prop} {Q2 : VK} (hQ : ∀ z H, Q z H → Q2 (.bl z) H) (h : rdG C W (evT cf (.chain c c' a b d)) (okT Q) σ H) : tChain (rC C (evC c)) (rC C (evC c')) (rdE C W (evE cf a)) (rdE C W (evE cf b)) (rdE C W (evE cf d)) σ H Q2 := by
  obtain ⟨μ, st, r, w, hr, h⟩ := h
  rw [evT] at h
  refine step w hr h fun d1 st1 μ1 H1 n1 w1 hr1 h1 v rv => ?_
  refine step w1 hr1 h1 fun d2 st2 μ2 H2 n2 w2 hr2 h2 v' rv' => ?_
  split at h2
  · rename_i x y
    have rx : RP C H2 x v := rv.nx n2
    have ry : RP C H2 y v' := rv'
    refine ⟨x, y, ?_⟩
    split at h2
    · rename_i e
      refine ⟨true, .of rx, .of ry, e, true, rfl, ?_⟩
      rw [if_pos rfl]
      refine step w2 hr2 h2 fun d3 st3 μ3 H3 n3 w3 hr3 h3 v3 rv3 => ?_
      split at h3
      · rename_i z
        split at h3
        · rename_i q e2
          exact ⟨y, z, q, .of (RP.keep n3.keep _ _ ry), .of rv3, e2, hQ q H3 (hereT h3 w3)⟩
        · exact h3.elim
      · exact h3.elim
    · rename_i e
      refine ⟨false, .of rx, .of ry, e, false, rfl, ?_⟩
      rw [if_neg Bool.false_ne_true]
      exact hQ false H2 (hereT h2 w2)
    · exact h2.elim
  · exact h2.elim
theorem g_chain (o : XOk C M F cf k W X) {c c' : Ev.C} {op op' : CmpOp} {a b d : E} {e e' e'' : Expr} {pos : Pos} (hc : cOk c op = true) (hc' : cOk c' op' = true) (hs : notSet e'' = true) (h1 : PE X e (rdE C W (evE cf a))) (h2 : PE X e' (rdE C W (evE cf b))) (h3 : PE X e'' (rdE C W (evE cf d))) :
    Both C W X (.Compare e [op, op'] [e', e''] pos) (evT cf (.chain c c' a b d)) :=
  ⟨weakT (pt_chain (c_all o hc) (c_all o hc') h1 h2 h3 (last_set hs)) fun σ H Q h => chain_rd (Q := Q) (fun z H q => ⟨z, rfl, q⟩) h,
   weak (pe_chain (c_all o hc) (c_all o hc') h1 h2 h3 (last_set hs)) fun σ H Q h => chain_rd (Q := fun b H => Q (.bl b) H) (fun z H q => q) h⟩
theorem g_not {t : T} {e : Expr} {pos : Pos} (h1 : Both C W X e (evT cf t)) : Both C W X (.UnaryOp .Not e pos) (evT cf (.not t)) := by
  refine ⟨weakT (pt_not h1.1) fun σ H Q ⟨μ, st, r, w, hr, h⟩ => ?_, weak (pe_not h1.2) fun σ H Q ⟨μ, st, r, w, hr, h⟩ => ?_⟩
  · rw [evT] at h
    exact step w hr h fun c st1 μ1 H1 n1 w1 hr1 h1 => hereT h1 w1
  · rw [evT] at h
    exact step w hr h fun c st1 μ1 H1 n1 w1 hr1 h1 => ⟨c, rfl, hereT (Q := fun b H => Q (.bl b) H) h1 w1⟩
theorem pw_of {op : BoolOp} {es : List Expr} {pos : Pos} {t : TT} (h : PT X (.BoolOp op es pos) t) : PW X (.BoolOp op es pos) t := ⟨fun _ pins s σ H Q I q => h.run pins s σ H Q I q⟩
theorem g_and {t u : T} {e y : Expr} {es : List Expr} {pos : Pos} (h1 : Both C W X e (evT cf t)) (h2 : Both C W X (.BoolOp .And (y :: es) pos) (evT cf u)) : Both C W X (.BoolOp .And (e :: y :: es) pos) (evT cf (.and t u)) := by
  refine ⟨weakT (pw_and h1.1 (pw_of h2.1)).pt fun σ H Q ⟨μ, st, r, w, hr, h⟩ => ?_, weak (pe_and h1.2 h2.2) fun σ H Q ⟨μ, st, r, w, hr, h⟩ => ?_⟩
  · rw [evT] at h
    refine step w hr h fun c st1 μ1 H1 n1 w1 hr1 h1 => ?_
    cases c with
    | true => simp only [okT, ite_t] at h1 ⊢; exact ⟨μ1, st1, r, w1, hr1, h1⟩
    | false => simp only [okT, ite_f] at h1 ⊢; exact post.here h1 w1
  · rw [evT] at h
    refine step w hr h fun c st1 μ1 H1 n1 w1 hr1 h1 => ⟨c, rfl, ?_⟩
    cases c with
    | true => simp only [okT, ite_t] at h1 ⊢; exact ⟨μ1, st1, r, w1, hr1, h1⟩
    | false => simp only [okT, ite_f] at h1 ⊢; exact post.here h1 w1
theorem g_or {t u : T} {e y : Expr} {es : List Expr} {pos : Pos} (h1 : Both C W X e (evT cf t)) (h2 : Both C W X (.BoolOp .Or (y :: es) pos) (evT cf u)) : Both C W X (.BoolOp .Or (e :: y :: es) pos) (evT cf (.or t u)) := by
  refine ⟨weakT (pw_or h1.1 (pw_of h2.1)).pt fun σ H Q ⟨μ, st, r, w, hr, h⟩ => ?_, weak (pe_or h1.2 h2.2) fun σ H Q ⟨μ, st, r, w, hr, h⟩ => ?_⟩
  · rw [evT] at h
    refine step w hr h fun c st1 μ1 H1 n1 w1 hr1 h1 => ?_
    cases c with
    | false => simp only [okT, ite_f] at h1 ⊢; exact ⟨μ1, st1, r, w1, hr1, h1⟩
    | true => simp only [okT, ite_t] at h1 ⊢; exact post.here h1 w1
  · rw [evT] at h
    refine step w hr h fun c st1 μ1 H1 n1 w1 hr1 h1 => ⟨c, rfl, ?_⟩
    cases c with
    | false => simp only [okT, ite_f] at h1 ⊢; exact ⟨μ1, st1, r, w1, hr1, h1⟩
    | true => simp only [okT, ite_t] at h1 ⊢; exact post.here h1 w1
theorem g_one {t : T} {op : BoolOp} {e : Expr} {pos : Pos} (h1 : Both C W X e (evT cf t)) : Both C W X (.BoolOp op [e] pos) (evT cf t) := by
  refine ⟨?_, pe_one h1.2⟩
  cases op with
  | And => exact (pw_and1 h1.1).pt
  | Or => exact (pw_or1 h1.1).pt
theorem tru_rd {a : E} {σ : L2.St} {H : Hp} {Q : Bool → Hp → Prop} (h : rdG C W (evT cf (.tru a)) (okT Q) σ H) : rdE C W (evE cf a) σ H fun x H1 => ∃ c, x = .bl c ∧ Q c H1 := by
  obtain ⟨μ, st, r, w, hr, h⟩ := h
  rw [evT] at h
  refine step w hr h fun d st1 μ1 H1 n1 w1 hr1 h1 v rv => ?_
  split at h1
  · rename_i b
    exact ⟨b, RP.bl_iff.mp (show RP C H1 (.bl b) v from rv), hereT h1 w1⟩
  · exact h1.elim
theorem g_tru {a : E} {e : Expr} (hp : plainT e = true) (h1 : PE X e (rdE C W (evE cf a))) : Both C W X e (evT cf (.tru a)) := by
  refine ⟨weakT (pt_val h1 (tru_plain hp)) fun σ H Q h => tru_rd h, weak h1 fun σ H Q h => ?_⟩
  obtain ⟨μ, st, r, w, hr, q⟩ := tru_rd (Q := fun b H => Q (.bl b) H) h
  refine ⟨μ, st, r, w, hr, q.imp fun d st' μ' H' _ _ g v rv => ?_⟩
  obtain ⟨c, rfl, gq⟩ := g v rv
  exact gq
theorem g_tv {t : T} {e : Expr} (h1 : Both C W X e (evT cf t)) : PE X e (rdE C W (evE cf (.tv t))) := weak h1.2 fun σ H Q ⟨μ, st, r, w, hr, h⟩ => by
  rw [evE] at h
  exact step w hr h fun c st1 μ1 H1 n1 w1 hr1 h1 => hereD h1 w1 (show RP C H1 (.bl c) (.bl c) from RP.bl_iff.mpr rfl)
theorem g_ife {t : T} {a b : E} {c e e' : Expr} {pos : Pos} (h1 : Both C W X c (evT cf t)) (h2 : PE X e (rdE C W (evE cf a))) (h3 : PE X e' (rdE C W (evE cf b))) : PE X (.IfExp c e e' pos) (rdE C W (evE cf (.ife t a b))) := weak (pe_ifExp h1.1 h2 h3) fun σ H Q ⟨μ, st, r, w, hr, h⟩ => by
  rw [evE] at h
  refine step w hr h fun c st1 μ1 H1 n1 w1 hr1 h1 => ?_
  cases c with
  | true => simp only [okT, ite_t] at h1 ⊢; exact ⟨μ1, st1, r, w1, hr1, h1⟩
  | false => simp only [okT, ite_f] at h1 ⊢; exact ⟨μ1, st1, r, w1, hr1, h1⟩
/-! ### slices -/
def rdO (C : Gc) (W : XW) (ev : En → St → R (Option Int)) : TO := fun σ H Q => rdG C W ev (okO Q) σ H
theorem weakO {e : Option Expr} {t t' : TO} (h : PO X e t) (f : ∀ σ H Q, t' σ H Q → t σ H Q) : PO X e t' := ⟨fun pins s σ H Q I q => h.run pins s σ H Q I (f σ H Q q)⟩
theorem g_oNone : PO X none (rdO C W (evO cf .none)) := weakO po_none fun σ H Q ⟨μ, st, r, w, hr, h⟩ => by
  rw [evO] at h
  exact post.here h w
theorem g_oSome {a : E} {e : Expr} (h1 : PE X e (rdE C W (evE cf a))) : PO X (some e) (rdO C W (evO cf (.some a))) := weakO (po_some h1) fun σ H Q ⟨μ, st, r, w, hr, h⟩ => by
  rw [evO] at h
  refine step w hr h fun d st1 μ1 H1 n1 w1 hr1 h1 v rv => ?_
  split at h1
  · rename_i i
    exact ⟨i, RP.int_iff.mp (show RP C H1 (.int i) v from rv), post.here h1 w1⟩
  · exact h1.elim
theorem sIx_eq (n d : Nat) (o : Option Int) : sIx n d o = HT.sIx n d o := by cases o <;> rfl
theorem cut_rps {H : Hp} {l : List P} {xs : List V} (h : RPs C H l xs) (lo hi : Option Int) : RPs C H (cutP l lo hi) (cutV xs lo hi) := by
  unfold cutP cutV
  rw [sIx_eq, sIx_eq, h.length]
  exact (h.drop _).take _
theorem g_slc (o : XOk C M F cf k W X) {a : E} {lo hi : Oe} {e : Expr} {l u : Option Expr} {p2 pos : Pos} (h1 : PE X e (rdE C W (evE cf a))) (h2 : PO X l (rdO C W (evO cf lo))) (h3 : PO X u (rdO C W (evO cf hi))) :
    PE X (.Subscript e (.Slice l u none p2) pos) (rdE C W (evE cf (.slc a lo hi))) := by
  refine weak (pe_slice sl_tupA h1 h2 h3) fun σ H Q ⟨μ, st, r, w, hr, h⟩ => ?_
  rw [evE] at h
  refine step w hr h fun d st1 μ1 H1 n1 w1 hr1 h1 v rv => ?_
  refine step w1 hr1 h1 fun l st2 μ2 H2 n2 w2 hr2 h2 => ?_
  refine step w2 hr2 h2 fun h st3 μ3 H3 n3 w3 hr3 h3 => ?_
  have rv := rv.nx (n2.trans n3)
  split at h3
  · rename_i xs ev
    obtain ⟨a, ys, rfl, e3, rr⟩ := (view_ok w3 rv ev).tup
    refine ⟨a, ys, rfl, SqT.of e3, fun hw => ?_, fun _ p hp => ?_⟩
    · refine post.here h3 w3 (.ref a) (RP.tup_iff.mpr ⟨a, ys, rfl, e3, ?_⟩)
      have := cut_rps rr l h
      unfold cutV at this
      rw [hw.1, hw.2, Nat.sub_zero, List.drop_zero, List.take_length] at this
      exact this
    · exact h3 μ3 _ (Nx.fresh hp) (w3.fresh hp) _ (tupOf hp (cut_rps rr l h))
  · exact h3.elim
theorem g_lslc (o : XOk C M F cf k W X) {a : E} {lo hi : Oe} {e : Expr} {l u : Option Expr} {p2 pos : Pos} (h1 : PE X e (rdE C W (evE cf a))) (h2 : PO X l (rdO C W (evO cf lo))) (h3 : PO X u (rdO C W (evO cf hi))) :
    PE X (.Subscript e (.Slice l u none p2) pos) (rdL C W (evL cf (.slc a lo hi))) := by
  refine weak (pe_slice sl_list h1 h2 h3) fun σ H Q ⟨μ, st, r, w, hr, h⟩ => ?_
  rw [evL] at h
  refine step w hr h fun d st1 μ1 H1 n1 w1 hr1 h1 v rv => ?_
  refine step w1 hr1 h1 fun l st2 μ2 H2 n2 w2 hr2 h2 => ?_
  refine step w2 hr2 h2 fun h st3 μ3 H3 n3 w3 hr3 h3 => ?_
  have rv := rv.nx (n2.trans n3)
  split at h3
  · rename_i xs ev
    obtain ⟨a, ys, rfl, e3, rr⟩ := view_ok w3 rv ev
    refine ⟨a, ys, rfl, .inl e3, fun p hp => ?_⟩
    exact post.here h3 w3 p _ hp (cut_rps rr l h)
  · exact h3.elim
/-! ### calls -/
theorem call_post {cf : Cf} {np g : Nat} {σ : L2.St} {H : Hp} {Q : VK} {μ : List Addr} {st : St} {ds : List D} {vs : List V} (w : Wd C H μ st) (rv : RDs C H μ ds vs) (hb : ∀ ds st, ds.length ≠ np → cf g ds st = .bad) (h : post C W σ μ H (cf g ds st) (okD C Q)) : spG C cf np g vs H Q (EW C W σ) := by
  have hl : ds.length = np := Classical.byContradiction fun z => by rw [hb ds st z] at h; exact h
  refine ⟨by rw [← Paired.length rv]; exact hl, μ, st, ds, w, rv, ?_⟩
  cases e : cf g ds st with
  | ok d st' => rw [e] at h; exact fun μ' H' n w' => h μ' H' n w'
  | exc c fs st' => rw [e] at h; exact fun μ' H' A n w' hA d hd => ⟨c, fs, st', μ', A, hA, rfl, hd, w', h μ' H' n w'⟩
  | bad => rw [e] at h; exact h
theorem g_call (o : XOk C M F cf k W X) {g : Nat} {as : Es} {x : Str} {e : Expr} {es : List Expr} {p pos : Pos} (hl : M.fns.lookup x = some g) (hg : glB F.sc x = true) (hn : nmB x = true) (hs : notStar e = true) (hss : es.all notStar = true) (h1 : PA X (e :: es) (rdA C W (evEs cf as))) :
    PE X (.Call (.Name x p) (e :: es) [] pos) (rdE C W (evE cf (.call g as))) := by
  obtain ⟨n1, n2, n3⟩ := nmB_of hn
  obtain ⟨f, e1, m⟩ := o.fns x g hl
  obtain ⟨fd, ps, kp, bd, fo, hb⟩ := o.fok g f e1 (o.fnf x g hl)
  refine weak (pe_callS fo o.room (glB_of o.sc hg) m kp bd o.pass h1 n1 (star_cons hs) (star_any hss)) fun σ H Q ⟨μ, st, r, w, hr, h⟩ => ?_
  rw [evE] at h
  exact step w hr h fun ds st1 μ1 H1 n1 w1 hr1 h1 vs rvs => call_post w1 rvs hb h1
/-- x(..), x a slot that holds a def -/
theorem pe_callV {X : Cx} {CX : CXT} {k i : Nat} {E : L2.St → XK} {x : Str} {p pos : Pos} {e : Expr} {es : List Expr} {t : TA} (hr : Room k X.A) (hN : X.N[i]? = some x) (hv : Vis X.env.scope x) (hx : ∀ σ, PassesAt CX X σ (E σ)) (ha : PA X (e :: es) t)
    (hdb : (x == ("__debug__" : Str)) = false) (hcd : (x == ("__classdict__" : Str)) = false) (he : starEach (e :: es) X.env = (false, eval e X.env) :: starEach es X.env) (hpl : (backTo pos (starEach es X.env)).any (·.1) = false) :
    PE X (.Call (.Name x p) (e :: es) [] pos) (fun σ H Q => ∃ f fd ps sp, σ[i]? = some (some (.ref f)) ∧ PySem.W.keepIn X.K (.ref f) = true ∧ Binds X.K fd ps [] ∧ FnOk X.prog X.w X.K X.mg X.base CX k f fd ps sp ∧ t σ H fun vs H1 => sp vs H1 Q (E σ)) := by
  refine ⟨fun pins s σ H Q I ⟨f, fd, ps, sp, hs, hk, hb, F, ht⟩ => ?_⟩
  refine wpAny_Call_Name_kw (thn ((pe_var (pos := p) hN hv hdb hcd).run pins s σ H (fun v H1 => v = .ref f ∧ H1 = H) I ⟨.ref f, hs, rfl, rfl⟩) fun u s1 ⟨v, H1, I1, r1, e1, e2⟩ => ?_)
  subst e1 e2
  cases r1
  exact PySem.W.callWith_K (h₀ := X.base) I.ok.mod.kin hk (thn (ha.run pos pins s1 σ _ _ I1 ht) fun us s2 ⟨vs, H2, I2, r, q⟩ => ⟨I2.kIn, run_fnS F hr hb (hx σ) I2 r q⟩) he hpl
theorem g_callv (o : XOk C M F cf k W X) {i : Nat} {as : Es} {x : Str} {e : Expr} {es : List Expr} {p pos : Pos} (hi : F.N[i]? = some x) (hv : visB F.sc x = true) (hn : nmB x = true) (hs : notStar e = true) (hss : es.all notStar = true) (h1 : PA X (e :: es) (rdA C W (evEs cf as))) :
    PE X (.Call (.Name x p) (e :: es) [] pos) (rdE C W (evE cf (.callv i as))) := by
  obtain ⟨n1, n2, _⟩ := nmB_of hn
  refine weak (pe_callV (k := k) (CX := L2N.CX X.prog X.w) (E := EW C W) o.room (by rw [o.N]; exact hi) (by rw [o.sc]; exact visB_of hv) o.pass h1 n1 n2 (star_cons hs) (star_any hss)) fun σ H Q ⟨μ, st, r, w, hr, h⟩ => ?_
  rw [evE] at h
  split at h
  · rename_i g hg
    obtain ⟨v, h2, h3⟩ := hr.at_ i _ hg
    obtain ⟨f, h4, rfl⟩ := RP.glo_iff.mp (show RP C H (.glo g) v from h3)
    cases e : evEs cf as r st with
    | exc c fs st1 => rw [e] at h; exact h.elim
    | bad => rw [e] at h; exact h.elim
    | ok ds st1 =>
      rw [e] at h
      have h : post C W σ μ H (cf g ds st1) (okD C Q) := h
      by_cases hz : g < M.nf
      · obtain ⟨fd, ps, kp, bd, fo, hb⟩ := o.fok g f h4 hz
        exact ⟨f, fd, ps, _, h2, kp, bd, fo, μ, st, r, w, hr, by rw [e]; exact fun μ1 H1 n1 w1 vs rvs => call_post w1 rvs hb (h.nx n1)⟩
      · rw [o.far g ds st1 (by omega)] at h
        exact h.elim
  · exact h.elim
/-! ### a list that is made: kept, or frozen -/
theorem g_frz {l : L} {e : Expr} (h1 : PE X e (rdL C W (evL cf l))) : PE X e (rdE C W (evE cf (.frz l))) := by
  refine ⟨fun pins s σ H Q I ⟨μ, st, r, w, hr, h⟩ => ?_⟩
  rw [evE] at h
  refine thn (h1.run pins s σ H (fun v H2 => ∃ p xs l μ1 st1 H1, v = .ref p ∧ H1 p = none ∧ H2 = upd H1 p (.lst xs) ∧ RPs C H1 l xs ∧ Wd C H1 μ1 st1 ∧ post C W σ μ1 H1 (.ok (.p (.lst l)) st1) (okD C Q)) I (step w hr h fun l st1 μ1 H1 n1 w1 hr1 h1 p xs hp rr => ⟨p, xs, l, μ1, st1, H1, rfl, hp, rfl, rr, w1, h1⟩)) fun v s1 ⟨x, H2, I1, r1, q1⟩ => ?_
  obtain ⟨p, xs, l, μ1, st1, H1, rfl, hp, rfl, rr, w1, h1⟩ := q1
  obtain ⟨od, I2⟩ := I1.lock upd_same trivial
  rw [upd_upd] at I2
  exact ⟨.ref p, _, I2, r1, h1 μ1 _ (Nx.fresh hp) (w1.fresh hp) _ (RP.lst_iff.mpr ⟨p, xs, rfl, ImL.of upd_same, RPs.keep (Keep.new _ hp) _ _ rr⟩)⟩
theorem g_new {l : L} {e : Expr} (h1 : PE X e (rdL C W (evL cf l))) : PE X e (rdE C W (evE cf (.new l))) := by
  refine weak h1 fun σ H Q ⟨μ, st, r, w, hr, h⟩ => ?_
  rw [evE] at h
  refine step w hr h fun l st1 μ1 H1 n1 w1 hr1 h1 p xs hp rr => ?_
  refine h1 (μ1 ++ [p]) _ (Nx.push hp) (w1.push hp ⟨xs, upd_same, RPs.keep (Keep.new _ hp) _ _ rr⟩) (.ref p) ⟨p, ?_, rfl⟩
  rw [← w1.len, List.getElem?_append_right (Nat.le_refl _), Nat.sub_self]; rfl
theorem g_frzM {m : Ev.M} {e : Expr} (h1 : PE X e (rdM C W (evM cf m))) : PE X e (rdE C W (evE cf (.frzM m))) := by
  refine ⟨fun pins s σ H Q I ⟨μ, st, r, w, hr, h⟩ => ?_⟩
  rw [evE] at h
  refine thn (h1.run pins s σ H (fun v H2 => ∃ p u kv μ1 st1 H1, v = .ref p ∧ H1 p = none ∧ H2 = upd H1 p u ∧ Mut (some u) ∧ RDc C H1 p kv.1 kv.2 u ∧ Wd C H1 μ1 st1 ∧ post C W σ μ1 H1 (.ok (.p (.dct kv.1 kv.2)) st1) (okD C Q)) I (step w hr h fun kv st1 μ1 H1 n1 w1 hr1 h1 p u hp mu rr => ⟨p, u, kv, μ1, st1, H1, rfl, hp, rfl, mu, rr, w1, h1⟩)) fun v s1 ⟨x, H2, I1, r1, q1⟩ => ?_
  obtain ⟨p, u, kv, μ1, st1, H1, rfl, hp, rfl, mu, rr, w1, h1⟩ := q1
  obtain ⟨od, I2⟩ := I1.lock upd_same mu
  rw [upd_upd] at I2
  exact ⟨.ref p, _, I2, r1, h1 μ1 _ (Nx.fresh hp) (w1.fresh hp) _ (RP.dct_iff.mpr ⟨p, od, u, rfl, upd_same, rr.keep (Keep.new _ hp)⟩)⟩
theorem g_newM {m : Ev.M} {e : Expr} (h1 : PE X e (rdM C W (evM cf m))) : PE X e (rdE C W (evE cf (.newM m))) := by
  refine weak h1 fun σ H Q ⟨μ, st, r, w, hr, h⟩ => ?_
  rw [evE] at h
  refine step w hr h fun kv st1 μ1 H1 n1 w1 hr1 h1 p u hp mu rr => ?_
  refine h1 (μ1 ++ [p]) _ (Nx.push hp) (w1.push hp ⟨u, upd_same, rr.keep (Keep.new _ hp)⟩) (.ref p) ⟨p, ?_, rfl⟩
  rw [← w1.len, List.getElem?_append_right (Nat.le_refl _), Nat.sub_self]; rfl
end
end Ev

set_option Elab.async false
set_option linter.all false
set_option maxRecDepth 100000
set_option maxHeartbeats 1000000
/-! ### sorting lists of tuples of which some are empty -/
namespace Ev.Srt
open PySem PyProof PySem.Calls PyProof.Rows PySem.SeqAt PySem.W
section
variable {prog : Program} {w : World} {A : Around} {E : Value → Shared → Prop} {s : Shared}
theorem call_tuple_lt {Q : Value → Shared → Prop} {l b : Addr} {items items2 : Array Value} {e r : Nat → Bool} (hl : s.heap.IsTuple l items) (hb : s.heap.IsTuple b items2)
    (he : ∀ j (h1 : j < items.size) (h2 : j < items2.size), EqAt A.in1 s items[j] items2[j] (e j)) (hr : ∀ j (h1 : j < items.size) (h2 : j < items2.size), e j = false → RcLt A.in1 s items[j] items2[j] (r j))
    (h : Q (.bool (firstLt e r (decide (items.size < items2.size)) (List.range (min items.size items2.size)))) s) : wpAny (model prog w) A (call (.builtin "tuple.__lt__") [.ref l, .ref b]) Q E s := by
  obtain ⟨⟨cls, dd, data, sl⟩, ho, hc, n, hd⟩ := id hl
  obtain ⟨⟨cls2, dd2, data2, sl2⟩, ho2, hc2, n2, hd2⟩ := id hb
  simp only at hc hd hc2 hd2
  subst hc hd hc2 hd2
  exact call_meets F.slot_tuple_lt ⟨_, ho, rfl⟩ F.entry_tuple_lt (F.args_tuple_lt_2 _ _) (tuple_ltAt l b items items2 n n2 dd dd2 sl sl2 e r) ⟨ho, ho2, he, hr, h⟩
theorem oneLt_tup {f : Bool} {xs ys : List PyData} {a b : Value} {as bs : List Addr} {Q : Bool → Shared → Prop} (ra : Reads s.heap a (.tuple xs) as) (rb : Reads s.heap b (.tuple ys) bs) (h : alike (.tuple xs) (.tuple ys) = true)
    (hu : A.units + min (PyData.tuple xs).depth (PyData.tuple ys).depth < cLine) (hq : Q (dataLt (.tuple xs) (.tuple ys)) s) : wpAny (model prog w) A (oneLt' f a b) Q E s := by
  cases f with
  | false => exact oneLt_alike (fun z => by cases z) ra rb h (fun z => by cases z) hu hq
  | true =>
    have hal : alikeAll xs ys = true := by simpa [alike] using h
    cases ra with
    | @tuple l o vs n _ as₁ h1 h2 h3 h4 =>
      cases rb with
      | @tuple l' o' vs' n' _ bs₁ k1 k2 k3 k4 =>
        have n1 : vs.size = xs.length := by simpa using ReadsAll.length _ _ _ h4
        have n2 : vs'.size = ys.length := by simpa using ReadsAll.length _ _ _ k4
        rw [dataLt_tuple, ← firstLt_toks xs ys hal, ← n1, ← n2] at hq
        rw [oneLt'_eq]
        simp only [if_true]
        refine wpAny_bind (wpAny_cRoomFor (PySem.SeqAt.room_here hu) ?_)
        refine wpAny_bind (wpAny_callSpecialIfBound?_slot (T := "tuple") ⟨_, h1, h2⟩ F.slot_tuple_lt (call_tuple_lt (e := pairEq xs ys) (r := fun j => dataLt (xs.getD j .none) (ys.getD j .none)) ⟨_, h1, h2, _, h3⟩ ⟨_, k1, k2, _, k3⟩ (fun j j1 j2 => ?_) (fun j j1 j2 hj => ?_) ?_))
        · have := eqAt_alikeAll xs ys A.in1 s vs.toList vs'.toList _ _ h4 k4 hal (PySem.SeqAt.room_in hu) j (by simpa using j1) (by simpa using j2)
          simpa using this
        · have := rcLt_alikeAll xs ys A.in1 s vs.toList vs'.toList _ _ h4 k4 hal (PySem.SeqAt.room_in hu) j (by simpa using j1) (by simpa using j2) hj
          simpa using this
        · exact wpAny_truthy_bool hq
def isT0 : PyData → Bool
  | .tuple [] => true
  | _ => false
theorem keyLt'_general (x y : Value) : keyLt' general' x y = oneLt' false x y := rfl
/-- the first items of tuples, where there is one -/
theorem firsts_any {M : Model} : ∀ (vs : List Value) {ds : List PyData} {Q : List (Option Value) → Shared → Prop}, EachIs (fun v d => ∃ as, Reads s.heap v d as) vs ds → (∀ d ∈ ds, ∃ xs, d = .tuple xs) →
    (∀ os : List (Option Value), EachIs (fun o d => o.isSome = !isT0 d) os ds → Q os s) → wpAny M A (vs.mapM firstOfTuple') Q E s
  | [], ds, Q, e, ht, h => by
    cases e
    rw [List.mapM_nil]
    exact wpAny_pure (h [] .nil)
  | v :: vs, ds, Q, e, ht, h => by
    cases e with
    | @cons _ d _ ds r e =>
      obtain ⟨as, r⟩ := r
      obtain ⟨xs, rfl⟩ := ht d List.mem_cons_self
      cases r with
      | @tuple a o ys n _ _ ho hc hd hr =>
        rw [List.mapM_cons]
        refine wpAny_bind ?_
        rw [kas_first_eq]
        refine wpAny_bind (Looks.here (show Looks M s.heap (typeOf (.ref a)) o.cls from (Looks.ld ho).andThen .now) ?_)
        rw [hc, if_neg (by first | decide | simp)]
        refine wpAny_bind (listItems_at ho hd (wpAny_pure ?_))
        refine wpAny_bind (firsts_any vs (Q := fun bs s' => wpAny M A (pure (ys[0]? :: bs)) Q E s') e (fun d hd => ht d (List.mem_cons_of_mem _ hd)) fun os eo => wpAny_pure (h _ (.cons ?_ eo)))
        cases xs with
        | nil =>
          generalize hy : ys.toList = yl at hr
          cases hr
          have : ys = #[] := by rw [← Array.toArray_toList (xs := ys), hy]
          subst this
          rfl
        | cons x r =>
          generalize hy : ys.toList = yl at hr
          cases hr with
          | cons r1 r2 =>
            rename_i v0 _ _ _
            have hf : ys[0]? = some v0 := by rw [← Array.getElem?_toList, hy]; rfl
            rw [hf]; rfl
theorem mixed_sorts {vs : List Value} {ds : List PyData} (e : EachIs (fun v d => ∃ as, Reads s.heap v d as) vs ds) (hal : AllAlike ds) (ht : ∀ d ∈ ds, ∃ xs, d = .tuple xs) (hn : PyData.tuple [] ∈ ds) (hu : ∀ d, d ∈ ds → A.units + d.depth < cLine) : SortsAt prog w A s (dataKind s.heap ds) vs := by
  have room : ∀ {d d' : PyData}, d ∈ ds → A.units + min d.depth d'.depth < cLine := fun {d d'} hd => Nat.lt_of_le_of_lt (Nat.add_le_add_left (Nat.min_le_left _ _) _) (hu d hd)
  have lt_at : ∀ (f : Bool) (E : Value → Shared → Prop) x y a b (Q : Bool → Shared → Prop), (dataKind s.heap ds).keyOf x = some a → (dataKind s.heap ds).keyOf y = some b → Q (lexLt itemOrd a b) s → wpAny (model prog w) A (oneLt' f x y) Q E s := by
    intro f E x y a b Q ha hb hq
    obtain ⟨d, as, hd, ra, rfl⟩ := dataKind_inv ha
    obtain ⟨d', as', hd', rb, rfl⟩ := dataKind_inv hb
    obtain ⟨xs, rfl⟩ := ht d hd
    obtain ⟨ys, rfl⟩ := ht d' hd'
    exact oneLt_tup ra rb (hal _ hd _ hd') (room hd) hq
  refine ⟨fun v hv => ?_, ?_⟩
  · obtain ⟨d, hd, as, r⟩ := e.left v hv
    exact ⟨_, dataKind_some hal hd r⟩
  · by_cases h0 : ∃ r, ds = .tuple [] :: r
    · refine ⟨oneType', fun E x y a b Q ha hb hq => by rw [keyLt'_oneType]; exact lt_at true E x y a b Q ha hb hq, fun h2 E Q hq => ?_⟩
      obtain ⟨r, rfl⟩ := h0
      rw [kat_kind_eq, List.mapM_toArray, map_eq_pure_bind]
      refine wpAny_bind (wpAny_bind (firsts_any vs e ht fun os eo => wpAny_pure ?_))
      cases eo with
      | @cons o _ os _ h1 h2 =>
        have ho : o = none := by cases o with
          | none => rfl
          | some z => cases h1
        subst ho
        have hall : ((none :: os).toArray.all fun x : Option Value => x.isSome) = false := by simp
        rw [if_neg (by rw [hall]; exact Bool.false_ne_true)]
        have h0' : ((none :: os).toArray[0]?.bind id : Option Value).isSome = false := by simp
        rw [if_neg (by rw [h0']; exact Bool.false_ne_true)]
        rw [oneTypeOnly'_eq, List.mapM_toArray, map_eq_pure_bind]
        refine wpAny_bind (wpAny_bind (wpAny_bind (kas_mapM (r := Value.type "tuple") _ (fun v hv Q' hq' => ?_) (wpAny_pure ?_))))
        · obtain ⟨d, hd, as, rd⟩ := e.left v hv
          obtain ⟨xs, rfl⟩ := ht d hd
          exact (looks_reads rd).here hq'
        · have hall2 : ((List.map (fun _ => Value.type "tuple") vs).toArray.all fun x => x == Value.type "tuple") = true := by
            simp only [List.all_toArray, List.all_map, List.all_eq_true]
            intro _ _
            exact beq_self_eq_true _
          cases vs with
          | nil => cases e
          | cons v vs =>
            have h0 : (List.map (fun _ => Value.type "tuple") (v :: vs)).toArray[0]? = some (Value.type "tuple") := by simp
            rw [h0]
            simp only [hall2, if_true]
            exact wpAny_pure (wpAny_pure hq)
    · refine ⟨general', fun E x y a b Q ha hb hq => by rw [keyLt'_general]; exact lt_at false E x y a b Q ha hb hq, fun h2 E Q hq => ?_⟩
      rw [kat_kind_eq, List.mapM_toArray, map_eq_pure_bind]
      refine wpAny_bind (wpAny_bind (firsts_any vs e ht fun os eo => wpAny_pure ?_))
      have hall : (os.toArray.all fun x : Option Value => x.isSome) = false := by
        have : ∃ o ∈ os, o = none := by
          have go : ∀ {os : List (Option Value)} {ds : List PyData}, EachIs (fun o d => o.isSome = !isT0 d) os ds → PyData.tuple [] ∈ ds → ∃ o ∈ os, o = none := by
            intro os ds eo
            induction eo with
            | nil => intro hn; cases hn
            | @cons o d os ds h1 h2 ih =>
              intro hn
              rcases List.mem_cons.mp hn with rfl | hn
              · refine ⟨o, List.mem_cons_self, ?_⟩
                cases o with
                | none => rfl
                | some z => cases h1
              · obtain ⟨o', h3, h4⟩ := ih hn
                exact ⟨o', List.mem_cons_of_mem _ h3, h4⟩
          exact go eo hn
        obtain ⟨o, ho, rfl⟩ := this
        simp only [List.all_toArray]
        refine List.all_eq_false.mpr ⟨none, ho, by simp⟩
      rw [if_neg (by rw [hall]; exact Bool.false_ne_true)]
      have h1 : (os.toArray[0]?.bind id).isSome = true := by
        cases eo with
        | nil => cases hn
        | @cons o d os ds k1 k2 =>
          obtain ⟨xs, rfl⟩ := ht d List.mem_cons_self
          cases xs with
          | nil => exact absurd ⟨ds, rfl⟩ h0
          | cons x r =>
            cases o with
            | none => cases k1
            | some z => simp
      rw [if_pos h1]
      exact wpAny_pure hq
end
end Ev.Srt

set_option Elab.async false
set_option linter.all false
set_option maxRecDepth 100000
set_option maxHeartbeats 1000000
namespace Ev
open PySem PySem.Spec PyProof.Rows L2

mutual
theorem has_py : ∀ (t : Ty) (x : P), P.has t x = true → ∃ d, x.py = some d ∧ d.depth ≤ t.deep
  | .int, x, h => by
    cases x <;> first | exact ⟨_, rfl, Nat.le_refl _⟩ | cases h
  | .str, x, h => by
    cases x <;> first | exact ⟨_, rfl, Nat.le_refl _⟩ | cases h
  | .seq t, x, h => by
    cases x with
    | tup l =>
      obtain ⟨ds, e, d⟩ := hasAll_py t l h
      exact ⟨.tuple ds, by rw [P.py, e], by rw [PyData.depth, Ty.deep]; omega⟩
    | _ => cases h
  | .nil, x, h => by
    cases x with
    | tup l =>
      cases l with
      | nil => exact ⟨.tuple [], rfl, by simp [PyData.depth, PyData.depthAll, Ty.deep]⟩
      | cons a l => cases h
    | _ => cases h
  | .cons t r, x, h => by
    cases x with
    | tup l =>
      cases l with
      | nil => cases h
      | cons a l =>
        have h : (P.has t a && P.hasEach r l) = true := h
        rw [Bool.and_eq_true] at h
        obtain ⟨d, e1, d1⟩ := has_py t a h.1
        obtain ⟨ds, e2, d2⟩ := hasEach_py r l h.2
        refine ⟨.tuple (d :: ds), by rw [P.py, P.pys, e1, e2], ?_⟩
        rw [PyData.depth, PyData.depthAll, Ty.deep]
        omega
    | _ => cases h
theorem hasAll_py : ∀ (t : Ty) (l : List P), P.hasAll t l = true → ∃ ds, P.pys l = some ds ∧ PyData.depthAll ds ≤ t.deep
  | t, [], h => ⟨[], rfl, Nat.zero_le _⟩
  | t, a :: l, h => by
    rw [P.hasAll, Bool.and_eq_true] at h
    obtain ⟨d, e1, d1⟩ := has_py t a h.1
    obtain ⟨ds, e2, d2⟩ := hasAll_py t l h.2
    refine ⟨d :: ds, by rw [P.pys, e1, e2], ?_⟩
    rw [PyData.depthAll]
    omega
theorem hasEach_py : ∀ (t : Ty) (l : List P), P.hasEach t l = true → ∃ ds, P.pys l = some ds ∧ PyData.depthAll ds + 1 ≤ t.deep
  | .nil, l, h => by
    cases l with
    | nil => exact ⟨[], rfl, by simp [PyData.depthAll, Ty.deep]⟩
    | cons a l => cases h
  | .cons t r, l, h => by
    cases l with
    | nil => cases h
    | cons a l =>
      have h : (P.has t a && P.hasEach r l) = true := h
      rw [Bool.and_eq_true] at h
      obtain ⟨d, e1, d1⟩ := has_py t a h.1
      obtain ⟨ds, e2, d2⟩ := hasEach_py r l h.2
      refine ⟨d :: ds, by rw [P.pys, e1, e2], ?_⟩
      rw [PyData.depthAll, Ty.deep]
      omega
  | .int, l, h => by cases l <;> cases h
  | .str, l, h => by cases l <;> cases h
  | .seq _, l, h => by cases l <;> cases h
end
mutual
theorem has_alike : ∀ (t : Ty) (x y : P) (d d' : PyData), P.has t x = true → P.has t y = true → x.py = some d → y.py = some d' → PySem.W.alike d d' = true
  | .int, x, y, d, d', h, h', e, e' => by
    cases x <;> first | (cases h; done) | skip
    cases y <;> first | (cases h'; done) | skip
    cases e; cases e'; rfl
  | .str, x, y, d, d', h, h', e, e' => by
    cases x <;> first | (cases h; done) | skip
    cases y <;> first | (cases h'; done) | skip
    cases e; cases e'; rfl
  | .seq t, x, y, d, d', h, h', e, e' => by
    cases x with
    | tup l =>
      cases y with
      | tup m =>
        obtain ⟨ds, q, rfl⟩ := py_tup e
        obtain ⟨ds', q', rfl⟩ := py_tup e'
        rw [PySem.W.alike]
        exact hasAll_alike t l m ds ds' h h' q q'
      | _ => cases h'
    | _ => cases h
  | .nil, x, y, d, d', h, h', e, e' => by
    cases x with
    | tup l =>
      cases y with
      | tup m =>
        obtain ⟨ds, q, rfl⟩ := py_tup e
        obtain ⟨ds', q', rfl⟩ := py_tup e'
        rw [PySem.W.alike]
        cases l with
        | nil => cases q; simp [PySem.W.alikeAll]
        | cons a l => cases h
      | _ => cases h'
    | _ => cases h
  | .cons t r, x, y, d, d', h, h', e, e' => by
    cases x with
    | tup l =>
      cases y with
      | tup m =>
        obtain ⟨ds, q, rfl⟩ := py_tup e
        obtain ⟨ds', q', rfl⟩ := py_tup e'
        rw [PySem.W.alike]
        cases l with
        | nil => cases h
        | cons a l =>
          cases m with
          | nil => cases h'
          | cons b m =>
            have h : (P.has t a && P.hasEach r l) = true := h
            have h' : (P.has t b && P.hasEach r m) = true := h'
            rw [Bool.and_eq_true] at h h'
            obtain ⟨d1, r1, a1, a2, rfl⟩ := pys_cons q
            obtain ⟨d2, r2, b1, b2, rfl⟩ := pys_cons q'
            rw [PySem.W.alikeAll, has_alike t a b _ _ h.1 h'.1 a1 b1, hasEach_alike r l m _ _ h.2 h'.2 a2 b2]; rfl
      | _ => cases h'
    | _ => cases h
theorem hasAll_alike : ∀ (t : Ty) (l m : List P) (d d' : List PyData), P.hasAll t l = true → P.hasAll t m = true → P.pys l = some d → P.pys m = some d' → PySem.W.alikeAll d d' = true
  | t, [], m, d, d', h, h', e, e' => by cases e; simp [PySem.W.alikeAll]
  | t, a :: l, [], d, d', h, h', e, e' => by
    cases e'
    obtain ⟨d1, r1, a1, a2, rfl⟩ := pys_cons e
    simp [PySem.W.alikeAll]
  | t, a :: l, b :: m, d, d', h, h', e, e' => by
    rw [P.hasAll, Bool.and_eq_true] at h h'
    obtain ⟨d1, r1, a1, a2, rfl⟩ := pys_cons e
    obtain ⟨d2, r2, b1, b2, rfl⟩ := pys_cons e'
    rw [PySem.W.alikeAll, has_alike t a b _ _ h.1 h'.1 a1 b1, hasAll_alike t l m _ _ h.2 h'.2 a2 b2]; rfl
theorem hasEach_alike : ∀ (t : Ty) (l m : List P) (d d' : List PyData), P.hasEach t l = true → P.hasEach t m = true → P.pys l = some d → P.pys m = some d' → PySem.W.alikeAll d d' = true
  | .nil, l, m, d, d', h, h', e, e' => by
    cases l with
    | nil => cases e; simp [PySem.W.alikeAll]
    | cons a l => cases h
  | .cons t r, l, m, d, d', h, h', e, e' => by
    cases l with
    | nil => cases h
    | cons a l =>
      cases m with
      | nil => cases h'
      | cons b m =>
        have h : (P.has t a && P.hasEach r l) = true := h
        have h' : (P.has t b && P.hasEach r m) = true := h'
        rw [Bool.and_eq_true] at h h'
        obtain ⟨d1, r1, a1, a2, rfl⟩ := pys_cons e
        obtain ⟨d2, r2, b1, b2, rfl⟩ := pys_cons e'
        rw [PySem.W.alikeAll, has_alike t a b _ _ h.1 h'.1 a1 b1, hasEach_alike r l m _ _ h.2 h'.2 a2 b2]; rfl
  | .int, l, m, d, d', h, h', e, e' => by cases l <;> cases h
  | .str, l, m, d, d', h, h', e, e' => by cases l <;> cases h
  | .seq _, l, m, d, d', h, h', e, e' => by cases l <;> cases h
end
/-- a value's datum -/
def P.dat (x : P) : PyData := x.py.getD .none
theorem dat_of {x : P} {d : PyData} (h : x.py = some d) : x.dat = d := by unfold P.dat; rw [h]; rfl
theorem pys_dat : ∀ {l : List P} {ds : List PyData}, P.pys l = some ds → ds = l.map P.dat
  | [], ds, h => by cases h; rfl
  | x :: l, ds, h => by
    obtain ⟨d, r, e1, e2, rfl⟩ := pys_cons h
    rw [List.map_cons, dat_of e1, pys_dat e2]
theorem all_of {t : Ty} : ∀ {l : List P}, P.hasAll t l = true → ∀ x ∈ l, P.has t x = true
  | [], _, x, h => by cases h
  | a :: l, h, x, hx => by
    rw [P.hasAll, Bool.and_eq_true] at h
    rcases List.mem_cons.mp hx with rfl | hx
    · exact h.1
    · exact all_of h.2 x hx
theorem has_kind {t : Ty} {x : P} {d : PyData} (h : P.has t x = true) (e : x.py = some d) : match t with
    | .int => ∃ i, d = .int i | .str => ∃ i, d = .str i | _ => ∃ ds, d = .tuple ds := by
  cases t <;> cases x <;> first
    | (cases h; done)
    | (cases e; exact ⟨_, rfl⟩)
    | (obtain ⟨ds, _, rfl⟩ := py_tup e; exact ⟨_, rfl⟩)
theorem tup_or (t : Ty) : (∀ x d, P.has t x = true → x.py = some d → d ≠ .none ∧ ∀ xs, d ≠ .tuple xs) ∨ (∀ x d, P.has t x = true → x.py = some d → ∃ xs, d = .tuple xs) := by
  cases t with
  | int => exact .inl fun x d h e => by obtain ⟨i, rfl⟩ := has_kind h e; exact ⟨fun z => (by cases z), fun xs z => (by cases z)⟩
  | str => exact .inl fun x d h e => by obtain ⟨i, rfl⟩ := has_kind h e; exact ⟨fun z => (by cases z), fun xs z => (by cases z)⟩
  | seq t => exact .inr fun x d h e => has_kind h e
  | nil => exact .inr fun x d h e => has_kind h e
  | cons t r => exact .inr fun x d h e => has_kind h e
section
variable {C : Gc} {X : Cx} {pins : List (Addr × Obj)} {σ : L2.St} {H : Hp} {s : Shared}
theorem each_reads (I : Inv X pins σ H s) (hK : X.K = C.K) {t : Ty} : ∀ {l : List P} {xs : List V} {us : List Value}, RPs C H l xs → Vals xs us → P.hasAll t l = true → PySem.W.EachIs (fun v b => ∃ as, Reads s.heap v (P.dat b) as) us l
  | [], xs, us, r, rv, h => by
    rw [r.of_nil] at rv
    cases rv
    exact .nil
  | x :: l, xs, us, r, rv, h => by
    obtain ⟨v, w, rfl, h1, h2⟩ := r.of_cons
    rw [P.hasAll, Bool.and_eq_true] at h
    cases rv with
    | cons r1 r2 =>
      refine .cons ?_ (each_reads I hK h2 r2 h.2)
      obtain ⟨d, e, _⟩ := has_py t x h.1
      rw [dat_of e]
      exact Dp.reads I d v _ (by rw [hK]; exact dp_of x v d h1 e) r1
theorem each_rp {l : List P} : ∀ {xs : List V} {us : List Value}, RPs C H l xs → Vals xs us → PySem.W.EachIs (fun v b => ∃ z, RelV z v ∧ RP C H b z) us l := by
  induction l with
  | nil =>
    intro xs us r rv
    rw [r.of_nil] at rv
    cases rv
    exact .nil
  | cons x l ih =>
    intro xs us r rv
    obtain ⟨v, w, rfl, h1, h2⟩ := r.of_cons
    cases rv with
    | cons r1 r2 => exact .cons ⟨v, r1, h1⟩ (ih h2 r2)
theorem rp_each {l : List P} : ∀ {us : List Value}, PySem.W.EachIs (fun v b => ∃ z, RelV z v ∧ RP C H b z) us l → ∃ xs, Vals xs us ∧ RPs C H l xs := by
  induction l with
  | nil => intro us e; cases e; exact ⟨[], .nil, .nil⟩
  | cons x l ih =>
    intro us e
    cases e with
    | cons h e =>
      obtain ⟨z, r1, r2⟩ := h
      obtain ⟨xs, a, b⟩ := ih e
      exact ⟨z :: xs, .cons r1 a, .cons r2 b⟩
theorem sortP_eq {t : Ty} {l : List P} (h : P.hasAll t l = true) : l.mergeSort (PySem.W.dataLe false P.dat) = sortP l := by
  have q := List.map_mergeSort (r := PySem.W.dataLe false P.dat) (s := fun a b => !P.ltb b a) (f := id) (l := l) fun a ha b hb => by
    have h1 := all_of h a ha
    have h2 := all_of h b hb
    obtain ⟨d1, e1, _⟩ := has_py t a h1
    obtain ⟨d2, e2, _⟩ := has_py t b h2
    rw [PySem.W.dataLe_eq]
    show (!PySem.W.dataLt b.dat a.dat) = !P.ltb b a
    rw [dat_of e1, dat_of e2, ltb_data b a d2 d1 e2 e1 (has_alike t b a d2 d1 h2 h1 e2 e1)]
  rw [List.map_id, List.map_id] at q
  exact q.trans (sortP_merge h).symm
theorem sorts_at {prog : Program} {w : World} {A : Around} {t : Ty} {l : List P} {us : List Value} (e : PySem.W.EachIs (fun v d => ∃ as, Reads s.heap v d as) us (l.map P.dat)) (h : P.hasAll t l = true) (hu : A.units + t.deep < cLine) : PySem.W.SortsAt prog w A s (PySem.W.dataKind s.heap (l.map P.dat)) us := by
  have hal : PySem.W.AllAlike (l.map P.dat) := by
    intro d hd d' hd'
    obtain ⟨x, hx, rfl⟩ := List.mem_map.mp hd
    obtain ⟨y, hy, rfl⟩ := List.mem_map.mp hd'
    obtain ⟨d1, e1, _⟩ := has_py t x (all_of h x hx)
    obtain ⟨d2, e2, _⟩ := has_py t y (all_of h y hy)
    rw [dat_of e1, dat_of e2]
    exact has_alike t x y d1 d2 (all_of h x hx) (all_of h y hy) e1 e2
  have hdp : ∀ d, d ∈ l.map P.dat → A.units + d.depth < cLine := by
    intro d hd
    obtain ⟨x, hx, rfl⟩ := List.mem_map.mp hd
    obtain ⟨d1, e1, q⟩ := has_py t x (all_of h x hx)
    rw [dat_of e1]
    omega
  rcases tup_or t with hn | ht
  · refine PySem.W.SortsAt.data e hal (.inr fun d hd => ?_) hdp
    obtain ⟨x, hx, rfl⟩ := List.mem_map.mp hd
    obtain ⟨d1, e1, _⟩ := has_py t x (all_of h x hx)
    rw [dat_of e1]
    exact hn x d1 (all_of h x hx) e1
  · have ht' : ∀ d ∈ l.map P.dat, ∃ xs, d = .tuple xs := by
      intro d hd
      obtain ⟨x, hx, rfl⟩ := List.mem_map.mp hd
      obtain ⟨d1, e1, _⟩ := has_py t x (all_of h x hx)
      rw [dat_of e1]
      exact ht x d1 (all_of h x hx) e1
    by_cases hm : PyData.tuple [] ∈ l.map P.dat
    · exact Srt.mixed_sorts e hal ht' hm hdp
    · refine PySem.W.SortsAt.data e hal (.inl fun d hd => ?_) hdp
      obtain ⟨xs, rfl⟩ := ht' d hd
      cases xs with
      | nil => exact absurd hd hm
      | cons x r => exact ⟨x, r, rfl⟩
/-- sorted(l) -/
theorem cr_sorted (hK : X.K = C.K) (hu : X.A.units + 65 < cLine) : CallR X (.builtin "sorted") (fun vs H Q => ∃ v t l, vs = [v] ∧ VP C H (.lst l) v ∧ P.hasAll t l = true ∧ srtOk t = true ∧ ∀ p xs, H p = none → RPs C H (sortP l) xs → Q (.ref p) (upd H p (.lst xs))) := by
  intro pins s σ H vs us Q I r h
  obtain ⟨v, t, l, rfl, vp, ht, hok, q⟩ := h
  obtain ⟨u, rfl, ru⟩ := vals1 r
  obtain ⟨a, xs, rfl, e3, rr⟩ := vp
  cases ru
  obtain ⟨its, rv, pl, hz⟩ := I.list (.inl e3)
  have hd := of_decide_eq_true hok
  have er := each_reads I hK rr rv ht
  have er2 : PySem.W.EachIs (fun v d => ∃ as, Reads (PySem.W.sortingHeap (PySem.W.copyHeap s.heap its) (s.heap.objs.size + 1) its) v d as) its (l.map P.dat) :=
    PySem.W.each_map (R := fun v d => ∃ as, Reads (PySem.W.sortingHeap (PySem.W.copyHeap s.heap its) (s.heap.objs.size + 1) its) v d as) P.dat (er.mono fun _ _ ⟨as, r⟩ => ⟨as, PyProof.Rows.Reads.keeps (fun _ _ => PySem.W.sorting_copy_old) r⟩)
  have hlen := rv.length
  refine PySem.W.sorted_vals pl.isList (sorts_at (s := { s with heap := PySem.W.sortingHeap (PySem.W.copyHeap s.heap its) (s.heap.objs.size + 1) its }) er2 ht (by show X.A.units + 1 + 1 + _ < _; omega)) (by omega) ?_
  have hal : PySem.W.AllAlike (l.map P.dat) := by
    intro d hd d' hd'
    obtain ⟨x, hx, rfl⟩ := List.mem_map.mp hd
    obtain ⟨y, hy, rfl⟩ := List.mem_map.mp hd'
    obtain ⟨d1, e1, _⟩ := has_py t x (all_of ht x hx)
    obtain ⟨d2, e2, _⟩ := has_py t y (all_of ht y hy)
    rw [dat_of e1, dat_of e2]
    exact has_alike t x y d1 d2 (all_of ht x hx) (all_of ht y hy) e1 e2
  have out := PySem.W.sortVals_data (h' := PySem.W.sortingHeap (PySem.W.copyHeap s.heap its) (s.heap.objs.size + 1) its) (R := fun v b => ∃ z, RelV z v ∧ RP C H b z) (enc := P.dat) false (each_rp rr rv) (er.mono fun _ _ ⟨as, r⟩ => ⟨as, PyProof.Rows.Reads.keeps (fun _ _ => PySem.W.sorting_copy_old) r⟩) hal
  rw [sortP_eq ht] at out
  generalize hos : PySem.W.sortVals (PySem.W.dataKind (PySem.W.sortingHeap (PySem.W.copyHeap s.heap its) (s.heap.objs.size + 1) its) (l.map P.dat)) false its its = os at out ⊢
  have hol : os.length = its.length := by rw [← hos]; exact PySem.W.sortVals_length false rfl
  obtain ⟨zs, rz, rp⟩ := rp_each out
  have hz2 : zs.length ≤ sizeLine := by rw [rz.length, hol]; omega
  obtain ⟨ep, hat⟩ := sortedAll_at s.heap its os.toArray
  have hp : H (s.heap.objs.size + 1) = none := I.hok.fresh (Nat.le_succ _)
  exact ⟨.ref (s.heap.objs.size + 1), _, I.laid (t' := s.toks) (o := .lst zs) (h' := sortedAll s.heap its os.toArray) (fun b o e => sortedAll_old e) (Nat.le_succ _) ⟨hz2, os, ep, rz, hat⟩, rfl, q _ zs hp rp⟩
/-- min(l), max(l) -/
theorem first_min {t : Ty} (mn : Bool) : ∀ {l : List P} {m : P}, P.has t m = true → P.hasAll t l = true →
    (firstMin mn m l).dat = (l.map P.dat).foldl (fun a y => if (if mn = true then PySem.W.dataLt y a else PySem.W.dataLt a y) = true then y else a) m.dat ∧ (firstMin mn m l = m ∨ firstMin mn m l ∈ l)
  | [], m, hm, h => ⟨rfl, .inl rfl⟩
  | x :: l, m, hm, h => by
    rw [P.hasAll, Bool.and_eq_true] at h
    obtain ⟨d1, e1, _⟩ := has_py t m hm
    obtain ⟨d2, e2, _⟩ := has_py t x h.1
    have q1 := ltb_data x m d2 d1 e2 e1 (has_alike t x m d2 d1 h.1 hm e2 e1)
    have q2 := ltb_data m x d1 d2 e1 e2 (has_alike t m x d1 d2 hm h.1 e1 e2)
    rw [firstMin, List.map_cons, List.foldl_cons, dat_of e2, dat_of e1, q1, q2]
    by_cases hc : (if mn = true then P.ltb x m else P.ltb m x) = true
    · rw [if_pos hc, if_pos hc]
      obtain ⟨a, b⟩ := first_min mn h.1 h.2
      rw [dat_of e2] at a
      exact ⟨a, .inr (b.elim (fun z => by rw [z]; exact List.mem_cons_self) fun z => List.mem_cons_of_mem _ z)⟩
    · rw [if_neg hc, if_neg hc]
      obtain ⟨a, b⟩ := first_min mn hm h.2
      rw [dat_of e1] at a
      exact ⟨a, b.imp id fun z => List.mem_cons_of_mem _ z⟩
end
end Ev

set_option Elab.async false
set_option linter.all false
set_option maxRecDepth 100000
set_option maxHeartbeats 1000000
namespace Ev
open PySem PySem.Spec PyProof.Rows L2

theorem dat_inj {t : Ty} {x y : P} (h : P.has t x = true) (h' : P.has t y = true) (e : x.dat = y.dat) : x = y := by
  obtain ⟨d1, e1, _⟩ := has_py t x h
  obtain ⟨d2, e2, _⟩ := has_py t y h'
  rw [dat_of e1, dat_of e2] at e
  subst e
  have q1 := alike_beq x y d1 d1 e1 e2 (has_alike t x y _ _ h h' e1 e2)
  have q2 := alike_beq x x d1 d1 e1 e1 (has_alike t x x _ _ h h e1 e1)
  exact P.eq_of_beq x y (by rw [← q1, q2]; exact P.beq_self x)
section
variable {C : Gc} {M : Md} {F : Fr} {cf : Cf} {k : Nat} {W : XW} {X : Cx}
theorem depth_all : ∀ {t : Ty} {l : List P}, P.hasAll t l = true → PyData.depthAll (l.map P.dat) ≤ t.deep
  | t, l, h => by
    obtain ⟨ds, e, d⟩ := hasAll_py t l h
    rw [← pys_dat e]; exact d
theorem fold_mem {α : Type} (f : α → α → Bool) : ∀ (l : List α) (m : α), l.foldl (fun a y => if f a y = true then y else a) m = m ∨ l.foldl (fun a y => if f a y = true then y else a) m ∈ l
  | [], m => .inl rfl
  | x :: l, m => by
    rw [List.foldl_cons]
    by_cases h : f m x = true
    · rw [if_pos h]
      rcases fold_mem f l x with e | e
      · rw [e]; exact .inr List.mem_cons_self
      · exact .inr (List.mem_cons_of_mem _ e)
    · rw [if_neg h]
      rcases fold_mem f l m with e | e
      · rw [e]; exact .inl rfl
      · exact .inr (List.mem_cons_of_mem _ e)
theorem cr_mx (mn : Bool) (hK : X.K = C.K) (hc : X.calm = true) (hu : X.A.units + 65 < cLine) : CallR X (.builtin (if mn = true then "min" else "max")) (fun vs H Q => ∃ v t x l, vs = [v] ∧ (VP C H (.lst (x :: l)) v ∨ VP C H (.tup (x :: l)) v) ∧ P.hasAll t (x :: l) = true ∧ srtOk t = true ∧ ∀ z, RP C H (firstMin mn x l) z → Q z H) := by
  intro pins s σ H vs us Q I r h
  obtain ⟨v, t, x, l, rfl, vp, ht, hok, q⟩ := h
  obtain ⟨u, rfl, ru⟩ := vals1 r
  obtain ⟨a, xs, its, rfl, rr, rv, pl⟩ : ∃ a xs its, u = Value.ref a ∧ RPs C H (x :: l) xs ∧ Vals xs its ∧ (s.heap.IsList a its.toArray ∨ s.heap.IsTuple a its.toArray) := by
    rcases vp with vp | vp
    · obtain ⟨a, xs, rfl, e3, rr⟩ := vp
      cases ru
      obtain ⟨its, rv, pl, hz⟩ := I.list (.inl e3)
      exact ⟨a, xs, its, rfl, rr, rv, .inl pl.isList⟩
    · obtain ⟨a, xs, rfl, e3, rr⟩ := vp.tup
      cases ru
      obtain ⟨its, rv, pl, hz⟩ := I.tuple (SqT.of e3)
      exact ⟨a, xs, its, rfl, rr, rv, .inr pl⟩
  have hd := of_decide_eq_true hok
  have er := each_reads I hK rr rv ht
  obtain ⟨as, ra⟩ := PySem.W.each_readsAll P.dat er
  have hal : PySem.W.AllAlike ((x :: l).map P.dat) := by
    intro d hd d' hd'
    obtain ⟨x, hx, rfl⟩ := List.mem_map.mp hd
    obtain ⟨y, hy, rfl⟩ := List.mem_map.mp hd'
    obtain ⟨d1, e1, _⟩ := has_py t x (all_of ht x hx)
    obtain ⟨d2, e2, _⟩ := has_py t y (all_of ht y hy)
    rw [dat_of e1, dat_of e2]
    exact has_alike t x y d1 d2 (all_of ht x hx) (all_of ht y hy) e1 e2
  have hal2 : PySem.W.AlikeAll ((x :: l).map P.dat) := by
    refine ⟨hal, fun d hd => ?_⟩
    obtain ⟨x, hx, rfl⟩ := List.mem_map.mp hd
    obtain ⟨d1, e1, _⟩ := has_py t x (all_of ht x hx)
    rw [dat_of e1]
    rcases tup_or t with hn | hn
    · exact (hn x d1 (all_of ht x hx) e1).1
    · obtain ⟨xs, rfl⟩ := hn x d1 (all_of ht x hx) e1
      exact fun z => by cases z
  have hdp := depth_all ht
  have h2 := ht
  rw [P.hasAll, Bool.and_eq_true] at h2
  obtain ⟨hb, hmem⟩ := first_min (t := t) mn h2.1 h2.2
  have hm : firstMin mn x l ∈ x :: l := hmem.elim (fun z => by rw [z]; exact List.mem_cons_self) fun z => List.mem_cons_of_mem _ z
  have fin : ∀ (i : Nat) v h' tk bs, its.toArray[i]? = some v → Reads h' v (firstMin mn x l).dat bs → (∀ b o, s.heap.get? b = some o → h'.get? b = some o) → EP X pins σ Q v { s with heap := h', toks := tk } := by
    intro i v h' tk bs hi rb kp
    have hi' : its[i]? = some v := by simpa using hi
    -- the item at i
    have hlen : (x :: l).length = its.length := by rw [rr.length]; exact rv.length
    have hil : i < (x :: l).length := by rw [hlen]; exact (List.getElem?_eq_some_iff.mp hi').1
    have hy : (x :: l)[i]? = some (x :: l)[i] := List.getElem?_eq_getElem hil
    generalize (x :: l)[i] = y at hy
    obtain ⟨z, hz1, hz2⟩ := rr.get hy
    obtain ⟨w, hw1, hw2⟩ := Vals.get rv hz1
    rw [hi'] at hw1
    obtain rfl := Option.some.inj hw1
    have hym : y ∈ x :: l := List.mem_of_getElem? hy
    obtain ⟨d1, e1, _⟩ := has_py t y (all_of ht y hym)
    obtain ⟨as1, r1⟩ := Dp.reads I d1 z v (by rw [hK]; exact dp_of y z d1 hz2 e1) hw2
    have r1' := PyProof.Rows.Reads.keeps kp r1
    obtain ⟨d2, e2, _⟩ := has_py t (firstMin mn x l) (all_of ht _ hm)
    rw [dat_of e2] at rb
    have := PySem.W.alike_unique d1 d2 v _ _ (has_alike t y _ d1 d2 (all_of ht y hym) (all_of ht _ hm) e1 e2) r1' rb
    have ey : y = firstMin mn x l := dat_inj (all_of ht y hym) (all_of ht _ hm) (by rw [dat_of e1, dat_of e2, this])
    exact ⟨z, H, I.kept (t' := tk) kp, hw2, q z (by rw [← ey]; exact hz2)⟩
  cases mn with
  | true =>
    rcases pl with pl | pl
    · refine PySem.W.min_list_data (x := x.dat) (xs := l.map P.dat) (I.ok.hd hc) pl (by simpa using ra) hal2 (by rw [List.map_cons] at hdp; omega) fun i v h' tk bs hi rb kp => fin i v h' tk bs hi ?_ kp
      rw [hb]; exact rb
    · refine PySem.W.min_tuple_data (x := x.dat) (xs := l.map P.dat) (I.ok.hd hc) pl (by simpa using ra) hal2 (by rw [List.map_cons] at hdp; omega) fun i v h' tk bs hi rb kp => fin i v h' tk bs hi ?_ kp
      rw [hb]; exact rb
  | false =>
    rcases pl with pl | pl
    · refine PySem.W.max_list_data (x := x.dat) (xs := l.map P.dat) (I.ok.hd hc) pl (by simpa using ra) hal2 (by rw [List.map_cons] at hdp; omega) fun i v h' tk bs hi rb kp => fin i v h' tk bs hi ?_ kp
      rw [hb]; exact rb
    · refine PySem.W.max_tuple_data (x := x.dat) (xs := l.map P.dat) (I.ok.hd hc) pl (by simpa using ra) hal2 (by rw [List.map_cons] at hdp; omega) fun i v h' tk bs hi rb kp => fin i v h' tk bs hi ?_ kp
      rw [hb]; exact rb
theorem g_mx {mn : Bool} {t : Ty} {a : E} {e : Expr} {x : Str} {p pos : Pos} (o : XOk C M F cf k W X) (hs : notStar e = true) (hx : x ∈ bltNames) (hn : nmB x = true) (hg : glB F.sc x = true) (hv : bootBuiltins x = some (.builtin (if mn = true then "min" else "max"))) (h1 : PE X e (rdE C W (evE cf a))) : PE X (.Call (.Name x p) [e] [] pos) (rdE C W (evE cf (.mx mn t a))) := by
  obtain ⟨n1, n2, n3⟩ := nmB_of hn
  refine weak (pe_callB (cr_mx mn o.K o.calm o.units) (glB_of o.sc hg) (o.blt x hx) hv (pa_cons h1 pa_nil (star_cons hs)) n3 n1 (star_cons hs) rfl) fun σ H Q ⟨μ, st, r, w, hr, h⟩ => ?_
  rw [evE] at h
  refine step w hr h fun d st1 μ1 H1 n1 w1 hr1 h1 v rv => ?_
  split at h1
  · rename_i y l ev
    split at h1
    · rename_i hh
      rw [Bool.and_eq_true] at hh
      exact ⟨v, t, y, l, rfl, .inl (view_ok w1 rv ev), hh.1, hh.2, fun z hz => hereD h1 w1 hz⟩
    · exact h1.elim
  · rename_i y l ev
    split at h1
    · rename_i hh
      rw [Bool.and_eq_true] at hh
      exact ⟨v, t, y, l, rfl, .inr (view_ok w1 rv ev), hh.1, hh.2, fun z hz => hereD h1 w1 hz⟩
    · exact h1.elim
  · exact h1.elim
/-! ### lists -/
theorem listL {l : List P} {st : St} {σ : L2.St} {H : Hp} {Q : VK} {μ : List Addr} (w : Wd C H μ st) (h : post C W σ μ H (.ok l st) (okL C Q)) {p : Addr} (hp : H p = none) {xs : List V} (r : RPs C H l xs) : Q (.ref p) (upd H p (.lst xs)) :=
  post.here h w p xs hp r
theorem g_disp {as : Es} {es : List Expr} {pos : Pos} (hl : es.length ≤ 1000) (hl2 : as.len = es.length) (h1 : PA X es (rdA C W (evEs cf as))) : PE X (.List es pos) (rdL C W (evL cf (.disp as))) := by
  refine weak (pe_lst h1) fun σ H Q ⟨μ, st, r, w, hr, h⟩ => ?_
  rw [evL] at h
  refine ⟨μ, st, r, w, hr, ?_⟩
  cases e : evEs cf as r st with
  | bad => rw [e] at h; exact h
  | exc c fs st1 => rw [e] at h; exact h
  | ok ds st1 =>
    rw [e] at h
    intro μ1 H1 n1 w1 vs rvs
    have h : post C W σ μ H (match perss ds with | some xs => R.ok xs st1 | none => .bad) (okL C Q) := h
    split at h
    · rename_i xs q
      have hz := sizeLine_eq
      have l := evEs_len e
      have l2 := Paired.length rvs
      exact ⟨by omega, fun p hp => listL w1 (h.nx n1) hp (perss_rp rvs q)⟩
    · exact h.elim
/-- list + list -/
theorem rd_lst {pins : List (Addr × Obj)} {σ : L2.St} {H : Hp} {s : Shared} {a : Addr} {xs : List V} (I : Inv X pins σ H s) (h : Rd H a (.lst xs)) : xs.length ≤ sizeLine ∧ ∃ (its : List Value) (n : Nat), Vals xs its ∧ s.heap.get? a = some { cls := .type "list", data := .seq its.toArray n } := h.ok I.hok
theorem op_catR : OpR X (binaryOp .Add) (fun x y H Q => ∃ l b xs zs, x = .ref l ∧ y = .ref b ∧ Rd H l (.lst xs) ∧ Rd H b (.lst zs) ∧ xs.length + zs.length ≤ sizeLine ∧ ∀ p, H p = none → Q (.ref p) (upd H p (.lst (xs ++ zs)))) := by
  intro pins s σ H x y v u Q I rx ry h
  obtain ⟨l, b, xs, zs, rfl, rfl, hH, hB, hz, q⟩ := h
  cases rx
  cases ry
  obtain ⟨z, its, n, r, e⟩ := rd_lst I hH
  obtain ⟨z2, its2, n2, r2, e2⟩ := rd_lst I hB
  have hl := r.length
  have hl2 := r2.length
  refine PySem.P.add_list e e2 ?_ (by rw [List.size_toArray, List.size_toArray]; omega)
  have ea : its.toArray ++ its2.toArray = (its ++ its2).toArray := by simp
  rw [ea]
  exact ⟨.ref _, _, I.lnew (t' := s.toks) (r.append r2) (by rw [List.length_append]; omega), rfl, q _ I.fresh⟩
theorem op_repR : OpR X (binaryOp .Mult) (fun x y H Q => ∃ l k xs, x = .ref l ∧ y = .int k ∧ Rd H l (.lst xs) ∧ -(2 ^ 63) ≤ k ∧ k < 2 ^ 63 ∧ xs.length * k.toNat ≤ sizeLine ∧ ∀ p, H p = none → Q (.ref p) (upd H p (.lst (List.replicate k.toNat xs).flatten))) := by
  intro pins s σ H x y v u Q I rx ry h
  obtain ⟨l, k, xs, rfl, rfl, hH, h1, h2, hz, q⟩ := h
  cases rx
  obtain ⟨t, rfl⟩ := ry
  obtain ⟨z, its, n, r, e⟩ := rd_lst I hH
  have hl := r.length
  have hlen : its.toArray.size * k.toNat ≤ sizeLine := by rw [List.size_toArray, ← hl]; exact hz
  have hcap : ¬ its.toArray.size * k.toNat > (2 ^ 63 - 1) / 8 := by
    have : (sizeLine : Nat) ≤ (2 ^ 63 - 1) / 8 := by decide
    omega
  have hfit : ¬ (!Builtin.List.listFitsIndex k) = true := by
    rw [fitsIndex_both h1 h2]
    exact Bool.false_ne_true
  have hlong : ¬ Builtin.List.listTooLong (its.toArray.size * k.toNat) = true := by
    rw [notLongL hlen]
    exact Bool.false_ne_true
  have hnew : List.foldl (fun x1 x2 => x1 ++ x2) #[] (List.replicate (if its.toArray.isEmpty = true then 0 else k.toNat) its.toArray) = (List.replicate k.toNat its).flatten.toArray := by
    have f0 : ∀ m : Nat, List.foldl (fun x1 x2 => x1 ++ x2) #[] (List.replicate m its.toArray) = (List.replicate m its).flatten.toArray := fun m => by
      have := foldl_rep its m []
      rw [List.nil_append] at this
      exact this
    rw [f0]
    cases its with
    | nil => simp
    | cons a r' => rw [if_neg (by simp)]
  refine wpAny_binaryOp_repeat_ref (T := "list") (U := "int") (by decide) ⟨_, e, rfl⟩ (fun s' => typeIs_int s' k t) noFill_list_mul F.fills_int_mul F.slot_int_rmul repeat_list F.slot_int_index.lookup
    (call_meets F.slot_int_rmul (typeIs_int s k t) F.entry_int_rmul (F.args_int_rmul_2 _ _) (int___rmul___int_list k t l its.toArray n)
      ⟨e, rfl, ⟨_, e, rfl⟩, call_meets F.slot_list_mul ⟨_, e, rfl⟩ F.entry_list_mul (F.args_list_mul_2 _ _) (AutoListH.list___mul___list_int_3 l its.toArray n k t hfit hcap hlong) ⟨e, ?_⟩⟩)
  rw [hnew]
  exact ⟨.ref _, _, I.lnew (t' := s.toks) (r.rep k.toNat) (by rw [PyProof.Rows.lm_len_rep_flat, Nat.mul_comm]; exact hz), rfl, q _ I.fresh⟩
theorem g_cat {a b : E} {e e' : Expr} {pos : Pos} (h1 : PE X e (rdE C W (evE cf a))) (h2 : PE X e' (rdE C W (evE cf b))) : PE X (.BinOp e .Add e' pos) (rdL C W (evL cf (.cat a b))) := by
  refine weak (pe_op op_catR h1 h2) fun σ H Q ⟨μ, st, r, w, hr, h⟩ => ?_
  rw [evL] at h
  refine step w hr h fun d st1 μ1 H1 n1 w1 hr1 h1 v rv => ?_
  refine step w1 hr1 h1 fun d' st2 μ2 H2 n2 w2 hr2 h2 v' rv' => ?_
  split at h2
  · rename_i l m e1 e2
    split at h2
    · rename_i hz
      have hz := of_decide_eq_true hz
      obtain ⟨a, xs, rfl, a1, a2⟩ := view_ok w2 (rv.nx n2) e1
      obtain ⟨b, ys, rfl, b1, b2⟩ := view_ok w2 rv' e2
      exact ⟨a, b, xs, ys, rfl, rfl, a1, b1, by rw [← a2.length, ← b2.length, ← big_line]; exact hz, fun p hp => listL w2 h2 hp (a2.append b2)⟩
    · exact h2.elim
  · exact h2.elim
theorem g_rep {a b : E} {e e' : Expr} {pos : Pos} (h1 : PE X e (rdE C W (evE cf a))) (h2 : PE X e' (rdE C W (evE cf b))) : PE X (.BinOp e .Mult e' pos) (rdL C W (evL cf (.rep a b))) := by
  refine weak (pe_op op_repR h1 h2) fun σ H Q ⟨μ, st, r, w, hr, h⟩ => ?_
  rw [evL] at h
  refine step w hr h fun d st1 μ1 H1 n1 w1 hr1 h1 v rv => ?_
  refine step w1 hr1 h1 fun d' st2 μ2 H2 n2 w2 hr2 h2 v' rv' => ?_
  split at h2
  · rename_i l k e1
    split at h2
    · rename_i hz
      simp only [Bool.and_eq_true, decide_eq_true_eq] at hz
      obtain ⟨a, xs, rfl, a1, a2⟩ := view_ok w2 (rv.nx n2) e1
      have hl := a2.length
      have hs := sizeLine_eq
      refine ⟨a, k, xs, rfl, RP.int_iff.mp (show RP C H2 (.int k) v' from rv'), a1, by omega, by omega, ?_, fun p hp => listL w2 h2 hp (rep_rps a2 _)⟩
      have : xs.length * k.toNat ≤ 1000 * 1000 := Nat.mul_le_mul (by omega) (by omega)
      omega
    · exact h2.elim
  · exact h2.elim
end
end Ev

set_option Elab.async false
set_option linter.all false
set_option maxRecDepth 100000
set_option maxHeartbeats 1000000
namespace Ev
open PySem PySem.Spec PyProof.Rows L2

section
variable {C : Gc} {M : Md} {F : Fr} {cf : Cf} {k : Nat} {W : XW} {X : Cx} {pins : List (Addr × Obj)} {σ : L2.St} {H : Hp} {s : Shared}
theorem keyLen {es : Array DictEntry} {kV : List V} (h : Vals kV (es.toList.map (·.key))) (z : es.size ≤ sizeLine) : kV.length ≤ sizeLine := by
  have l := h.length
  simp at l
  omega
structure RawD (C : Gc) (H : Hp) (h : Heap) (a : Addr) (ks vs : List P) (o : Obj) (es : Array DictEntry) (ep : Nat) (kV vV : List V) : Prop where
  get : h.get? a = some o
  ex : o.ExactDict
  dat : o.data = .dict es ep
  nsys : (a == sysModules) = false
  size : es.size ≤ sizeLine
  kv : Vals kV (es.toList.map (·.key))
  kr : RPs C H ks kV
  vv : Vals vV (es.toList.map (·.val))
  vr : RPs C H vs vV
theorem pairs_raw {P : Program} {w : World} : ∀ {es : List DictEntry} {vs : List (Key × Value)} {kvs : List (Key × V)} {ks ws : List Ev.P}, Pairs (mixKind P w) es vs → KV kvs vs → Paired RK ks (kvs.map (·.1)) → RPs C H ws (kvs.map (·.2)) →
    Vals (kvs.map fun p => kV p.1) (es.map (·.key)) ∧ RPs C H ks (kvs.map fun p => kV p.1) ∧ Vals (kvs.map (·.2)) (es.map (·.val))
  | [], _, kvs, ks, ws, p, r, e, _ => by
    cases p
    cases r
    cases e
    exact ⟨.nil, .nil, .nil⟩
  | en :: es, _, kvs, ks, ws, p, r, e, rv => by
    cases p with
    | cons p1 p2 p3 =>
      cases r with
      | @cons q _ kvs _ r1 r2 =>
        rw [List.map_cons] at e rv
        cases e with
        | @cons x _ ks _ e1 e2 =>
          obtain ⟨y, l, rfl, v1, v2⟩ : ∃ y l, ws = y :: l ∧ RP C H y q.2 ∧ RPs C H l (kvs.map (·.2)) := by
            cases ws with
            | nil => exact absurd rv.length (by simp)
            | cons y l =>
              obtain ⟨v', w', e', h1, h2⟩ := rv.of_cons
              obtain ⟨rfl, rfl⟩ := List.cons.inj e'
              exact ⟨y, l, rfl, h1, h2⟩
          obtain ⟨a1, a2, a3⟩ := pairs_raw p3 r2 e2 v2
          refine ⟨.cons ?_ a1, .cons ?_ a2, .cons ?_ a3⟩
          · have : keyIs q.1 en.key = true := by rw [r1.1]; exact p1
            exact keyIs_rel this
          · have hk := e1.key
            cases x with
            | int i =>
              show RP C H (.int i) (kV q.1)
              rw [← Option.some.inj hk]; exact RP.int_iff.mpr rfl
            | str i =>
              show RP C H (.str i) (kV q.1)
              rw [← Option.some.inj hk]; exact RP.str_iff.mpr rfl
            | _ => cases hk
          · show RelV q.2 en.val
            rw [p2]; exact r1.2
theorem raw_of (I : Inv X pins σ H s) {a : Addr} {u : HO} {ks vs : List P} (hd : Rd H a u) (r : RDc C H a ks vs u) : ∃ o es ep kV vV, RawD C H s.heap a ks vs o es ep kV vV := by
  rcases r with ⟨kvs, rfl, e1, e2⟩ | ⟨xs, ws, _, rfl, h1, h2, h3, h4, h5, h6, h7, h8⟩
  · obtain ⟨z, hs, vs', rel, o, es, ep, q1, q2, q3, q4, q5, q6⟩ := dk_rd I.hok hd
    obtain ⟨a1, a2, a3⟩ := pairs_raw q5 rel e1 e2
    have l1 := q5.length
    have l2 := Paired.length rel
    exact ⟨o, es, ep, _, _, q1, q2, q3, hs, by rw [← Array.length_toList, l1, ← l2]; exact z, a1, a2, a3, e2⟩
  · obtain ⟨o, es, ep, q1, q2, q3, q4⟩ := dx_rd I hd
    refine ⟨o, es, ep, _, ws, q1, q2, q3, h2, by rw [← Array.length_toList, q4, List.length_map]; exact h1, ?_, h7, ?_, h8⟩
    · rw [q4]
      have go : ∀ l : List (NestedKey × Addr × Value), Vals (l.map fun x => V.ref x.2.1) ((l.map (entryOfKey (nestedKind C.P C.w))).map (·.key)) := fun l => by
        induction l with
        | nil => exact .nil
        | cons x l ih => exact .cons rfl ih
      exact go xs
    · rw [q4, List.map_map]
      exact h4
/-- the items that were collected -/
theorem items_keys {es : Array DictEntry} {acc : Array Value} (h : ItemsOf (fun i v => ∃ en : DictEntry, es[i]? = some en ∧ v = en.key) acc es.size) : acc.toList = es.toList.map (·.key) := by
  apply List.ext_getElem?
  intro j
  rw [List.getElem?_map]
  cases hj : acc.toList[j]? with
  | none =>
    have h1 := List.getElem?_eq_none_iff.mp hj
    rw [Array.length_toList, h.1] at h1
    rw [List.getElem?_eq_none (by rw [Array.length_toList]; exact h1)]
    rfl
  | some v =>
    obtain ⟨en, hen, hv⟩ := h.2 j v (by rw [← Array.getElem?_toList]; exact hj)
    rw [Array.getElem?_toList, hen, hv]
    rfl
/-- sorted(d) -/
theorem cr_sortedM (hK : X.K = C.K) (hc : X.calm = true) (hu : X.A.units + 65 < cLine) : CallR X (.builtin "sorted") (fun vs H Q => ∃ v t ks ws, vs = [v] ∧ VP C H (.dct ks ws) v ∧ P.hasAll t ks = true ∧ srtOk t = true ∧ ∀ p xs, H p = none → RPs C H (sortP ks) xs → Q (.ref p) (upd H p (.lst xs))) := by
  intro pins s σ H vs us Q I r h
  obtain ⟨v, t, l, ws, rfl, vp, ht, hok, q⟩ := h
  obtain ⟨u, rfl, ru⟩ := vals1 r
  obtain ⟨a, uu, rfl, e3, rr⟩ := vp
  cases ru
  obtain ⟨o, es, ep, kV, vV, D⟩ := raw_of I e3 rr
  have hd := of_decide_eq_true hok
  refine Calls.call_function_entry kind_sorted plain_sorted entry_sorted (args_sorted1 _) ?_
  unfold Builtin.«sorted»
  refine wpAny_bind (m := checkCount "sorted" 1 1 _) (wpAny_pure ?_)
  refine wpAny_bind (PySem.W.kdu_collect (A := X.A.in1) (kdl_raw D.nsys D.ex D.dat) (I.ok.hd hc) D.get D.size fun h' tk acc hk hacc => ?_)
  rw [items_keys hacc]
  have rv := D.kv
  generalize es.toList.map (·.key) = its at rv
  have I1 : Inv X pins σ H { s with heap := h', toks := tk } := I.kept hk
  have hlen := rv.length
  have hkl := D.kr.length
  have hz : kV.length ≤ sizeLine := keyLen D.kv D.size
  refine wpAny_bind (wpAny_newList ?_ (by omega))
  have hoL : (h'.push (seqObj "list" its.toArray 0)).get? h'.objs.size = some (seqObj "list" its.toArray 0) := Heap.get?_push_size _ rfl
  show wpAny _ _ _ _ _ { s with heap := h'.push (seqObj "list" its.toArray 0), toks := tk }
  have I2 : Inv X pins σ H { s with heap := h'.push (seqObj "list" its.toArray 0), toks := tk } := I1.kept (t' := tk) fun b o e => Heap.get?_push_of_some _ e
  have keepS : ∀ b o, s.heap.get? b = some o → (PySem.W.sortingHeap (h'.push (seqObj "list" its.toArray 0)) h'.objs.size its).get? b = some o := fun b o e =>
    PySem.W.sortingHeap_old (Nat.ne_of_lt (Heap.lt_size (hk b o e))) (Heap.get?_push_of_some _ (hk b o e))
  have er := each_reads I hK D.kr rv ht
  have er1 := er.mono (R' := fun v d => ∃ as, Reads (PySem.W.sortingHeap (h'.push (seqObj "list" its.toArray 0)) h'.objs.size its) v (P.dat d) as) fun _ _ ⟨as, r⟩ => ⟨as, PyProof.Rows.Reads.keeps (fun b o e => keepS b o e) r⟩
  have er2 : PySem.W.EachIs (fun v d => ∃ as, Reads (PySem.W.sortingHeap (h'.push (seqObj "list" its.toArray 0)) h'.objs.size its) v d as) its (l.map P.dat) := PySem.W.each_map (R := fun v d => ∃ as, Reads (PySem.W.sortingHeap (h'.push (seqObj "list" its.toArray 0)) h'.objs.size its) v d as) P.dat er1
  have hal : PySem.W.AllAlike (l.map P.dat) := by
    intro d hd d' hd'
    obtain ⟨x, hx, rfl⟩ := List.mem_map.mp hd
    obtain ⟨y, hy, rfl⟩ := List.mem_map.mp hd'
    obtain ⟨d1, e1, _⟩ := has_py t x (all_of ht x hx)
    obtain ⟨d2, e2, _⟩ := has_py t y (all_of ht y hy)
    rw [dat_of e1, dat_of e2]
    exact has_alike t x y d1 d2 (all_of ht x hx) (all_of ht y hy) e1 e2
  have out := PySem.W.sortVals_data (h' := PySem.W.sortingHeap (h'.push (seqObj "list" its.toArray 0)) h'.objs.size its) (R := fun v b => ∃ z, RelV z v ∧ RP C H b z) (enc := P.dat) false (each_rp D.kr rv) er1 hal
  rw [sortP_eq ht] at out
  refine wpAny_bind (wpAny_holding (wpAny_call_entry slot_list_sort ⟨_, hoL, rfl⟩ entry_list_sort
    (PySem.W.list_sort_vals (s := { s with heap := h'.push (seqObj "list" its.toArray 0), toks := tk }) hoL (sorts_at (s := { s with heap := PySem.W.sortingHeap (h'.push (seqObj "list" its.toArray 0)) h'.objs.size its, toks := tk }) er2 ht (by show X.A.units + 1 + 1 + _ < _; omega)) (by omega) ⟨_, rfl, ?_⟩) (args_list_sort _)))
  show wpAny _ _ _ _ _ { s with heap := sortedHeap (h'.push (seqObj "list" its.toArray 0)) h'.objs.size its (PySem.W.sortVals (PySem.W.dataKind (PySem.W.sortingHeap (h'.push (seqObj "list" its.toArray 0)) h'.objs.size its) (l.map P.dat)) false its its).toArray, toks := tk }
  generalize hos : PySem.W.sortVals (PySem.W.dataKind (PySem.W.sortingHeap (h'.push (seqObj "list" its.toArray 0)) h'.objs.size its) (l.map P.dat)) false its its = os at out ⊢
  have hol : os.length = its.length := by rw [← hos]; exact PySem.W.sortVals_length false rfl
  obtain ⟨zs, rz, rp⟩ := rp_each out
  have hz2 : zs.length ≤ sizeLine := by rw [rz.length, hol]; omega
  obtain ⟨e', he'⟩ := sortedHeap_at (vs := its) (out := os.toArray) hoL
  refine wpAny_pure ⟨_, rfl, .ref h'.objs.size, upd H h'.objs.size (.lst zs), I1.laid (t' := tk) (fun b u e => ?_) (Nat.le_refl _) ⟨hz2, os, e', rz, he'⟩, rfl, q _ zs (I1.hok.fresh (Nat.le_refl _)) rp⟩
  have hb : b < h'.objs.size := Heap.lt_size e
  rw [sortedHeap_old (Nat.ne_of_lt hb) (by rw [size_push']; exact Nat.lt_succ_of_lt hb)]
  exact Heap.get?_push_of_some _ e
/-- list(d) -/
theorem cr_listM (hc : X.calm = true) : CallR X (.type "list") (fun vs H Q => ∃ v ks ws, vs = [v] ∧ VP C H (.dct ks ws) v ∧ ∀ p xs, H p = none → RPs C H ks xs → Q (.ref p) (upd H p (.lst xs))) := by
  intro pins s σ H vs us Q I r h
  obtain ⟨v, l, ws, rfl, vp, q⟩ := h
  obtain ⟨u, rfl, ru⟩ := vals1 r
  obtain ⟨a, uu, rfl, e3, rr⟩ := vp
  cases ru
  obtain ⟨o, es, ep, kV, vV, D⟩ := raw_of I e3 rr
  refine PySem.W.kdl_call (kdl_raw D.nsys D.ex D.dat) (I.ok.hd hc) D.get D.size fun h' tk acc' c' kp e it => ?_
  have ea := items_keys it
  have hz : kV.length ≤ sizeLine := keyLen D.kv D.size
  exact ⟨.ref s.heap.objs.size, _, I.laid (t' := tk) (o := .lst kV) kp (Nat.le_refl _) ⟨hz, acc'.toList, c', by rw [ea]; exact D.kv, by rw [Array.toArray_toList]; exact e⟩, rfl, q _ _ (I.hok.fresh (Nat.le_refl _)) D.kr⟩
theorem g_sorted {t : Ty} {a : E} {e : Expr} {p pos : Pos} (o : XOk C M F cf k W X) (hs : notStar e = true) (hg : glB F.sc "sorted" = true) (h1 : PE X e (rdE C W (evE cf a))) : PE X (.Call (.Name "sorted" p) [e] [] pos) (rdL C W (evL cf (.sorted t a))) := by
  refine weak (pe_callB ((cr_sorted (C := C) o.K o.units).or (cr_sortedM (C := C) o.K o.calm o.units)) (glB_of o.sc hg) (o.blt _ (by decide +kernel)) (by decide +kernel) (pa_cons h1 pa_nil (star_cons hs)) (by decide +kernel) (by decide +kernel) (star_cons hs) rfl) fun σ H Q ⟨μ, st, r, w, hr, h⟩ => ?_
  rw [evL] at h
  refine step w hr h fun d st1 μ1 H1 n1 w1 hr1 h1 v rv => ?_
  split at h1
  · rename_i l ev
    split at h1
    · rename_i hh
      rw [Bool.and_eq_true] at hh
      exact .inl ⟨v, t, l, rfl, view_ok w1 rv ev, hh.1, hh.2, fun p xs hp rx => listL w1 h1 hp rx⟩
    · exact h1.elim
  · rename_i l l2 ev
    split at h1
    · rename_i hh
      rw [Bool.and_eq_true] at hh
      exact .inr ⟨v, t, l, l2, rfl, view_ok w1 rv ev, hh.1, hh.2, fun p xs hp rx => listL w1 h1 hp rx⟩
    · exact h1.elim
  · exact h1.elim
theorem g_ofE {a : E} {e : Expr} {p pos : Pos} (o : XOk C M F cf k W X) (hs : notStar e = true) (hg : glB F.sc "list" = true) (h1 : PE X e (rdE C W (evE cf a))) : PE X (.Call (.Name "list" p) [e] [] pos) (rdL C W (evL cf (.ofE a))) := by
  refine weak (pe_callTy (call_list_of.or (cr_listM (C := C) o.calm)) (glB_of o.sc hg) (o.blt _ (by decide +kernel)) (by decide +kernel) (pa_cons h1 pa_nil (star_cons hs)) (by decide +kernel) (by decide +kernel) (star_cons hs) rfl) fun σ H Q ⟨μ, st, r, w, hr, h⟩ => ?_
  rw [evL] at h
  refine step w hr h fun d st1 μ1 H1 n1 w1 hr1 h1 v rv => ?_
  split at h1
  · rename_i l ev
    obtain ⟨a, xs, rfl, e3, rr⟩ := view_ok w1 rv ev
    exact .inl ⟨a, xs, rfl, .inl (.inl e3), fun p hp => listL w1 h1 hp rr⟩
  · rename_i l ev
    obtain ⟨a, xs, rfl, e3, rr⟩ := (view_ok w1 rv ev).tup
    exact .inl ⟨a, xs, rfl, .inr (SqT.of e3), fun p hp => listL w1 h1 hp rr⟩
  · rename_i l l2 ev
    exact .inr ⟨v, l, l2, rfl, view_ok w1 rv ev, fun p xs hp rx => listL w1 h1 hp rx⟩
  · exact h1.elim
end
end Ev

set_option Elab.async false
set_option linter.all false
set_option maxRecDepth 100000
set_option maxHeartbeats 2000000
/-! zip of a tuple and a list -/
namespace Ev
open PySem PySem.Spec PyProof.Rows L2

/-- the tuple at a and the list at b, n turns -/
def ItzM (K : PySem.W.Frag) (a b : Addr) (n : Nat) : It :=
  ⟨fun i H => i < n ∧ ∃ (xs ys : List V) (x y : V), SqT K H a xs ∧ SqL K H b ys ∧ xs[i]? = some x ∧ ys[i]? = some y ∧ min xs.length ys.length = n,
    fun i H v H' => ∃ T x y, v = .ref T ∧ H T = none ∧ H' = upd H T (.tup [x, y]) ∧ (∀ xs, SqT K H a xs → xs[i]? = some x) ∧ ∀ ys, SqL K H b ys → ys[i]? = some y,
    fun i H => n ≤ i ∧ ∃ xs ys : List V, SqT K H a xs ∧ SqL K H b ys ∧ min xs.length ys.length = n⟩
def tnM (a b z TI TO i1 i2 : Addr) (n : Nat) : Nat → Heap → Prop := fun i h => i ≤ n ∧ IsZip h z TI TO .none ∧ IsTupOf2 h TI (.ref i1) (.ref i2) ∧ (∃ x y, IsTupOf2 h TO x y) ∧ h.IsTupleIter i1 a i ∧ h.IsListIter i2 b i
theorem turn_zipM {P : Program} {w : World} {K : PySem.W.Frag} {elts : List Expr} {kk : Nat} {tpos : Pos} {a b z TI TO i1 i2 : Addr} {n : Nat} (S : ZipSep2 z TI TO i1 i2 [i1, a] [i2, b]) (n1 : a ≠ i1) (n2 : b ≠ i2) :
    Turn P w K (.Tuple elts kk tpos) (ItzM K a b n) [z, TI, TO, i1, i2] z (tnM a b z TI TO i1 i2 n) where
  mem := by simp
  obj := fun i h st c hc => by
    obtain ⟨_, hz, hTI, ⟨x, y, hTO⟩, ⟨o1, e1, _, d1⟩, ⟨o2, e2, _, d2⟩⟩ := st
    have e' : c = z ∨ c = TI ∨ c = TO ∨ c = i1 ∨ c = i2 := by simpa using hc
    rcases e' with q | q | q | q | q
    · rw [q]; exact ⟨_, hz, fun v q => nomatch q⟩
    · rw [q]; exact ⟨_, hTI, fun v q => nomatch q⟩
    · rw [q]; exact ⟨_, hTO, fun v q => nomatch q⟩
    · rw [q]; exact ⟨o1, e1, fun v q => by rw [d1] at q; cases q⟩
    · rw [q]; exact ⟨o2, e2, fun v q => by rw [d2] at q; cases q⟩
  keep := fun i h h' st k => by
    obtain ⟨hn, hz, hTI, ⟨x, y, hTO⟩, h1, h2⟩ := st
    exact ⟨hn, k z (by simp) _ hz, k TI (by simp) _ hTI, ⟨x, y, k TO (by simp) _ hTO⟩, h1.at fun o q => k i1 (by simp) o q, h2.at fun o q => k i2 (by simp) o q⟩
  item := by
    intro X hP hw hK hc i pins s σ H E I hf st hg
    subst hP hw hK
    obtain ⟨hn, hz, hTI, hTO, h1, h2⟩ := st
    obtain ⟨hlt, xs, ys, x, y, hqx, hqy, hx, hy, hmin⟩ := hg
    obtain ⟨its, rv, p, _⟩ := I.tuple hqx
    obtain ⟨its2, rv2, p2, _⟩ := I.list hqy
    obtain ⟨u, hu, ru⟩ := rv.get hx
    obtain ⟨u2, hu2, ru2⟩ := rv2.get hy
    have D1 := Draws.tuple (prog := X.prog) (w := X.w) (A := X.A.in1) (I.ok.hd hc) i1 a n1 its.toArray
    have D2 := Draws.list (prog := X.prog) (w := X.w) (A := X.A.in1) (I.ok.hd hc) i2 b n2 its2.toArray
    have G := GoesN.zip2 (elts := elts) (x1 := kk) (pos := tpos) S D1 D2
    have l1 := rv.length
    have l2 := rv2.length
    refine G.goes i s _ E (by simp; omega) ⟨hz, hTI, hTO, ⟨h1, p⟩, ⟨h2, p2.isList⟩⟩ fun v h' tk ⟨T, u', u2', ev, hT, e1, e2, hTu⟩ st' hk _ => ?_
    have e1 : u' = u := by
      have e1 : its.toArray[i]? = some u' := e1
      rw [List.getElem?_toArray, hu] at e1
      exact (Option.some.inj e1).symm
    have e2 : u2' = u2 := by
      have e2 : its2.toArray[i]? = some u2' := e2
      rw [List.getElem?_toArray, hu2] at e2
      exact (Option.some.inj e2).symm
    subst e1 e2 ev
    obtain ⟨oT, hoT, hcT, mT, hdT⟩ := hTu
    have new : ObjOk X.prog X.w (upd H T (.tup [x, y])) h' T (.tup [x, y]) :=
      ⟨by show 2 ≤ sizeLine; decide, [u', u2'], .cons ru (.cons ru2 .nil), ⟨oT, hoT, hcT, mT, hdT⟩⟩
    have I1 : Inv X pins σ (upd H T (.tup [x, y])) { s with heap := h', toks := tk } :=
      I.turnedNew (t' := tk) (ch := [z, TI, TO, i1, i2]) (fun c o hb q => hk c o (fun q' => hb (by simp at q' ⊢; rcases q' with q' | q' | q' | q' <;> simp [q'])) q) hf hT new
    obtain ⟨hz', hTI', hTO', ⟨h1', _⟩, ⟨h2', _⟩⟩ := st'
    refine ⟨.ref T, _, I1, rfl, ⟨T, x, y, rfl, I.hok.fresh hT, rfl, fun l hl => by rw [I.tuple_inj hl hqx]; exact hx, fun l hl => by rw [I.list_inj hl hqy]; exact hy⟩, ⟨by omega, hz', hTI', hTO', h1', h2'⟩, fun c hcm => ?_⟩
    have hlt : c < s.heap.objs.size := by
      obtain ⟨_, _, hTO0⟩ := hTO
      have e' : c = z ∨ c = TI ∨ c = TO ∨ c = i1 ∨ c = i2 := by simpa using hcm
      rcases e' with q | q | q | q | q
      · rw [q]; exact Heap.lt_size hz
      · rw [q]; exact Heap.lt_size hTI
      · rw [q]; exact Heap.lt_size hTO0
      · rw [q]; obtain ⟨_, e1, _⟩ := h1; exact Heap.lt_size e1
      · rw [q]; obtain ⟨_, e2, _⟩ := h2; exact Heap.lt_size e2
    rw [upd_ne (Nat.ne_of_lt (Nat.lt_of_lt_of_le hlt hT))]
    exact (hf c hcm).1
  done := by
    intro X hP hw hK hc i pins s σ H E I hf st hg
    subst hP hw hK
    obtain ⟨hn, hz, hTI, hTO, h1, h2⟩ := st
    obtain ⟨hge, xs, ys, hqx, hqy, hmin⟩ := hg
    obtain ⟨its, rv, p, _⟩ := I.tuple hqx
    obtain ⟨its2, rv2, p2, _⟩ := I.list hqy
    have D1 := Draws.tuple (prog := X.prog) (w := X.w) (A := X.A.in1) (I.ok.hd hc) i1 a n1 its.toArray
    have D2 := Draws.list (prog := X.prog) (w := X.w) (A := X.A.in1) (I.ok.hd hc) i2 b n2 its2.toArray
    have G := GoesN.zip2 (elts := elts) (x1 := kk) (pos := tpos) S D1 D2
    have l1 := rv.length
    have l2 := rv2.length
    have hi : i = min its.toArray.size its2.toArray.size := by simp; omega
    refine G.stops s _ E (by rw [← hi]; exact ⟨hz, hTI, hTO, ⟨h1, p⟩, ⟨h2, p2.isList⟩⟩) fun h' tk hk _ => ?_
    exact I.turnedL (t' := tk) (ch := [z, TI, TO, i1, i2]) (fun c o hb q => hk c o (fun q' => hb (by simp at q' ⊢; rcases q' with q' | q' | q' | q' <;> simp [q'])) q) hf
  self := fun A i s Q E st h => wpAny_pyIter_zip st.2.1 h
def iZipB (K : PySem.W.Frag) (ta : TA) : TI := fun σ H R => ta σ H fun vs H1 => ∃ a b xs ys, vs = [.ref a, .ref b] ∧ ((SqL K H1 a xs ∧ SqL K H1 b ys ∧ R (Itz K a b) H1) ∨ (SqT K H1 a xs ∧ SqT K H1 b ys ∧ R (RZ.ItzT K a b) H1) ∨ (SqT K H1 a xs ∧ SqL K H1 b ys ∧ R (ItzM K a b (min xs.length ys.length)) H1))
theorem pi_zipB {X : Cx} {e e2 : Expr} {ta : TA} {p pos tpos : Pos} {elts : List Expr} {kk : Nat} (hg : Gl X "zip") (hm : X.mg "zip" = none) (ha : PA X [e, e2] ta)
    (hs : starEach [e, e2] X.env = (false, eval e X.env) :: starEach [e2] X.env) (hpl : (backTo pos (starEach [e2] X.env)).any (·.1) = false) :
    PI X (.Tuple elts kk tpos) (.Call (.Name "zip" p) [e, e2] [] pos) (iZipB X.K ta) := by
  refine ⟨fun pins s σ H R I h => ?_⟩
  refine PyProof.Rows.Call_ (ld_blt I hg hm PyProof.Rows.boot_zip (PyProof.Rows.callWith_type1 (thn (ha.run pos pins s σ H _ I h) fun us s1 ⟨vs, H1, I1, r1, q1⟩ => ?_) hs hpl))
  obtain ⟨a, b, xs, ys, ex, q1⟩ := q1
  subst ex
  cases r1 with
  | cons r rr =>
    cases rr with
    | cons r' rr =>
      cases rr
      cases r
      cases r'
      have fresh5 : ∀ c, c ∈ [s1.heap.objs.size + 4, s1.heap.objs.size + 2, s1.heap.objs.size + 3, s1.heap.objs.size, s1.heap.objs.size + 1] → FpOk X pins H1 c := fun c hcm => by
        have e' : c = s1.heap.objs.size + 4 ∨ c = s1.heap.objs.size + 2 ∨ c = s1.heap.objs.size + 3 ∨ c = s1.heap.objs.size ∨ c = s1.heap.objs.size + 1 := by simpa using hcm
        have hle : s1.heap.objs.size ≤ c := by
          rcases e' with z | z | z | z | z <;> (rw [z]; first | exact Nat.le_add_right _ _ | exact Nat.le_refl _)
        exact I1.fpOk hle (I1.hok.fresh hle)
      rcases q1 with ⟨hqx, hqy, q⟩ | ⟨hqx, hqy, q⟩ | ⟨hqx, hqy, q⟩
      · obtain ⟨its, rv, p1, _⟩ := I1.list hqx
        obtain ⟨its2, rv2, p2, _⟩ := I1.list hqy
        refine call_zip_2 p1.isList p2.isList fun h' hz hTI hTO h1 h2 hsz hk => wpAny_pyIter_zip hz ?_
        have I2 : Inv X pins σ H1 { s1 with heap := h' } := I1.kept (t' := s1.toks) hk
        exact ⟨s1.heap.objs.size + 4, [s1.heap.objs.size + 4, s1.heap.objs.size + 2, s1.heap.objs.size + 3, s1.heap.objs.size, s1.heap.objs.size + 1], _, _, H1, rfl, I2, turn_zip (PySem.W.ktu_apart s1.heap.objs.size a b p1.lt p2.lt), ⟨hz, hTI, ⟨_, _, hTO⟩, h1, h2⟩, fresh5, q⟩
      · obtain ⟨its, rv, p1, _⟩ := I1.tuple hqx
        obtain ⟨its2, rv2, p2, _⟩ := I1.tuple hqy
        obtain ⟨o1, ho1, _⟩ := id p1
        obtain ⟨o2, ho2, _⟩ := id p2
        refine RZ.call_zipT (show s1.heap.IsTuple a its.toArray from p1) (show s1.heap.IsTuple b its2.toArray from p2) fun h' hz hTI hTO h1 h2 hsz hk => wpAny_pyIter_zip hz ?_
        have I2 : Inv X pins σ H1 { s1 with heap := h' } := I1.kept (t' := s1.toks) hk
        exact ⟨s1.heap.objs.size + 4, [s1.heap.objs.size + 4, s1.heap.objs.size + 2, s1.heap.objs.size + 3, s1.heap.objs.size, s1.heap.objs.size + 1], _, _, H1, rfl, I2, RZ.turn_zipT (PySem.W.ktu_apart s1.heap.objs.size a b (Heap.lt_size ho1) (Heap.lt_size ho2)), ⟨hz, hTI, ⟨_, _, hTO⟩, h1, h2⟩, fresh5, q⟩
      · obtain ⟨its, rv, p1, _⟩ := I1.tuple hqx
        obtain ⟨its2, rv2, p2, _⟩ := I1.list hqy
        obtain ⟨o1, ho1, _⟩ := id p1
        have la : a < s1.heap.objs.size := Heap.lt_size ho1
        have lb : b < s1.heap.objs.size := p2.lt
        refine zip_begins2 (begins_tuple a its.toArray) (begins_list b its2.toArray) p1 p2.isList fun h' hz hTI hTO h1 h2 hsz hk => wpAny_pyIter_zip hz ?_
        have I2 : Inv X pins σ H1 { s1 with heap := h' } := I1.kept (t' := s1.toks) hk
        have S := zip_sep2 (N := s1.heap.objs.size) (fp1 := [a]) (fp2 := [b]) (fun c hc => by rw [List.mem_singleton.mp hc]; exact la) (fun c hc => by rw [List.mem_singleton.mp hc]; exact lb)
        exact ⟨s1.heap.objs.size + 4, [s1.heap.objs.size + 4, s1.heap.objs.size + 2, s1.heap.objs.size + 3, s1.heap.objs.size, s1.heap.objs.size + 1], _, _, H1, rfl, I2, turn_zipM S (Nat.ne_of_lt la) (Nat.ne_of_lt (Nat.lt_of_lt_of_le lb (Nat.le_succ _))), ⟨Nat.zero_le _, hz, hTI, ⟨_, _, hTO⟩, ⟨_, h1, rfl, rfl⟩, ⟨_, h2, rfl, rfl⟩⟩, fresh5, q⟩
end Ev

set_option Elab.async false
set_option linter.all false
set_option maxRecDepth 100000
set_option maxHeartbeats 1000000
namespace Ev
open PySem PySem.Spec PyProof.Rows L2

/-- the walk of J gives l, at any later heap -/
def Yields (C : Gc) (J : It) (l : List P) (H : Hp) : Prop := ∀ H', Keep H H' → (∀ i, l.length ≤ i → J.stop i H') ∧ ∀ i x, l[i]? = some x → J.go i H' ∧ ∀ v H2, J.yld i H' v H2 → Same H' H2 ∧ RP C H2 x v
theorem Yields.keep {C : Gc} {J : It} {l : List P} {H H1 : Hp} (h : Yields C J l H) (k : Keep H H1) : Yields C J l H1 := fun H' k' => h H' (k.trans k')
def okI (C : Gc) (R : It → Hp → Prop) : List P → St → List Addr → Hp → Prop := fun l _ _ H => ∀ J, Yields C J l H → R J H
def rdI (C : Gc) (W : XW) (ev : En → St → R (List P)) : TI := fun σ H R => rdG C W ev (okI C R) σ H
theorem weakI {X : Cx} {tg e : Expr} {t t' : TI} (h : PI X tg e t) (f : ∀ σ H R, t' σ H R → t σ H R) : PI X tg e t' := ⟨fun pins s σ H R I q => h.run pins s σ H R I (f σ H R q)⟩
section
variable {C : Gc} {M : Md} {F : Fr} {cf : Cf} {k : Nat} {W : XW} {X : Cx}
theorem yields_list {K : PySem.W.Frag} {H : Hp} {a : Addr} {l : List P} {xs : List V} {o : Obj} (h : H a = some (.frz o (.lst xs))) (r : RPs C H l xs) : Yields C (Itl K a) l H := by
  intro H' k
  have h' : SqL K H' a xs := .inl (.inr ⟨o, k _ _ h trivial⟩)
  have r' := r.keep k
  refine ⟨fun i hi => ⟨xs, h', by rw [← r'.length]; exact hi⟩, fun i x hx => ?_⟩
  obtain ⟨v, h1, h2⟩ := r'.get hx
  refine ⟨⟨xs, v, h', h1⟩, fun v' H2 hy => ?_⟩
  obtain ⟨rfl, hy⟩ := hy
  have := hy xs h'
  rw [h1] at this
  cases this
  exact ⟨Same.refl _, h2⟩
theorem yields_tup {K : PySem.W.Frag} {H : Hp} {a : Addr} {l : List P} {xs : List V} (h : H a = some (.tup xs)) (r : RPs C H l xs) : Yields C (Itt K a) l H := by
  intro H' k
  have h' : SqT K H' a xs := SqT.of (k _ _ h trivial)
  have r' := r.keep k
  refine ⟨fun i hi => ⟨xs, h', by rw [← r'.length]; exact hi⟩, fun i x hx => ?_⟩
  obtain ⟨v, h1, h2⟩ := r'.get hx
  refine ⟨⟨xs, v, h', h1⟩, fun v' H2 hy => ?_⟩
  obtain ⟨rfl, hy⟩ := hy
  have := hy xs h'
  rw [h1] at this
  cases this
  exact ⟨Same.refl _, h2⟩
theorem yields_rng {H : Hp} {lo hi : Int} : Yields C (Itr lo (hi - lo).toNat) (rngP lo hi) H := by
  intro H' k
  refine ⟨fun i hi => ?_, fun i x hx => ?_⟩
  · rw [rngP, List.length_map, List.length_range] at hi; exact hi
  · rw [rngP, List.getElem?_map] at hx
    have hl : i < (hi - lo).toNat := by
      by_cases z : i < (hi - lo).toNat
      · exact z
      · rw [List.getElem?_eq_none (by rw [List.length_range]; omega)] at hx; cases hx
    rw [List.getElem?_range hl] at hx
    cases hx
    refine ⟨hl, fun v H2 hy => ?_⟩
    obtain ⟨rfl, rfl⟩ := hy
    exact ⟨Same.refl _, RP.int_iff.mpr rfl⟩
theorem enumP_get : ∀ {l : List P} {j i : Nat} {x : P}, (enumP j l)[i]? = some x → ∃ a, l[i]? = some a ∧ x = .tup [.int ((j + i : Nat) : Int), a]
  | [], j, i, x, h => by simp [enumP] at h
  | a :: l, j, 0, x, h => by simp [enumP] at h; exact ⟨a, rfl, by rw [← h]; simp⟩
  | a :: l, j, i + 1, x, h => by
    rw [enumP, List.getElem?_cons_succ] at h
    obtain ⟨b, h1, h2⟩ := enumP_get h
    exact ⟨b, by simpa using h1, by rw [h2]; congr 3; omega⟩
theorem enumP_len : ∀ {l : List P} {j : Nat}, (enumP j l).length = l.length
  | [], _ => rfl
  | a :: l, j => by rw [enumP, List.length_cons, List.length_cons, enumP_len]
theorem pairsP_get : ∀ {l m : List P} {i : Nat} {x : P}, (pairsP l m)[i]? = some x → ∃ a b, l[i]? = some a ∧ m[i]? = some b ∧ x = .tup [a, b]
  | [], m, i, x, h => by simp [pairsP] at h
  | a :: l, [], i, x, h => by simp [pairsP] at h
  | a :: l, b :: m, 0, x, h => by simp [pairsP] at h; exact ⟨a, b, rfl, rfl, h.symm⟩
  | a :: l, b :: m, i + 1, x, h => by
    rw [pairsP, List.getElem?_cons_succ] at h
    obtain ⟨c, d, h1, h2, h3⟩ := pairsP_get h
    exact ⟨c, d, by simpa using h1, by simpa using h2, h3⟩
theorem pairsP_len : ∀ {l m : List P}, (pairsP l m).length = min l.length m.length
  | [], m => by simp [pairsP]
  | a :: l, [] => by simp [pairsP]
  | a :: l, b :: m => by rw [pairsP, List.length_cons, List.length_cons, List.length_cons, pairsP_len]; omega
theorem pair_rp {H : Hp} {p : Addr} {a b : P} {v w : V} (hp : H p = none) (h1 : RP C H a v) (h2 : RP C H b w) : RP C (upd H p (.tup [v, w])) (.tup [a, b]) (.ref p) := tupOf hp (.cons h1 (.cons h2 .nil))
theorem yields_enum {K : PySem.W.Frag} {H : Hp} {a : Addr} {l : List P} {xs : List V} {o : Obj} (h : H a = some (.frz o (.lst xs))) (r : RPs C H l xs) : Yields C (Ite K a) (enumP 0 l) H := by
  intro H' k
  have h' : SqL K H' a xs := .inl (.inr ⟨o, k _ _ h trivial⟩)
  have r' := r.keep k
  refine ⟨fun i hi => ⟨xs, h', by rw [enumP_len] at hi; rw [← r'.length]; exact hi⟩, fun i x hx => ?_⟩
  obtain ⟨y, hy, rfl⟩ := enumP_get hx
  obtain ⟨v, h1, h2⟩ := r'.get hy
  refine ⟨⟨xs, v, h', h1⟩, fun v' H2 hy => ?_⟩
  obtain ⟨T, z, rfl, hT, rfl, hz⟩ := hy
  have := hz xs h'
  rw [h1] at this
  cases this
  refine ⟨Same.new hT, pair_rp hT ?_ h2⟩
  rw [Nat.zero_add]; exact RP.int_iff.mpr rfl
theorem yields_zipL {K : PySem.W.Frag} {H : Hp} {a b : Addr} {l m : List P} {xs ys : List V} {o o' : Obj} (h : H a = some (.frz o (.lst xs))) (r : RPs C H l xs) (g : H b = some (.frz o' (.lst ys))) (q : RPs C H m ys) : Yields C (Itz K a b) (pairsP l m) H := by
  intro H' k
  have h' : SqL K H' a xs := .inl (.inr ⟨o, k _ _ h trivial⟩)
  have g' : SqL K H' b ys := .inl (.inr ⟨o', k _ _ g trivial⟩)
  have r' := r.keep k
  have q' := q.keep k
  refine ⟨fun i hi => ⟨xs, ys, h', g', by rw [pairsP_len] at hi; rw [← r'.length, ← q'.length]; omega⟩, fun i x hx => ?_⟩
  obtain ⟨y, z, hy, hz, rfl⟩ := pairsP_get hx
  obtain ⟨v, h1, h2⟩ := r'.get hy
  obtain ⟨w, g1, g2⟩ := q'.get hz
  refine ⟨⟨xs, ys, v, w, h', g', h1, g1⟩, fun v' H2 hy => ?_⟩
  obtain ⟨T, v1, w1, rfl, hT, rfl, hv, hw⟩ := hy
  have e1 := hv xs h'
  have e2 := hw ys g'
  rw [h1] at e1
  rw [g1] at e2
  cases e1
  cases e2
  exact ⟨Same.new hT, pair_rp hT h2 g2⟩
theorem yields_zipT {K : PySem.W.Frag} {H : Hp} {a b : Addr} {l m : List P} {xs ys : List V} (h : H a = some (.tup xs)) (r : RPs C H l xs) (g : H b = some (.tup ys)) (q : RPs C H m ys) : Yields C (RZ.ItzT K a b) (pairsP l m) H := by
  intro H' k
  have h' : SqT K H' a xs := SqT.of (k _ _ h trivial)
  have g' : SqT K H' b ys := SqT.of (k _ _ g trivial)
  have r' := r.keep k
  have q' := q.keep k
  refine ⟨fun i hi => ⟨xs, ys, h', g', by rw [pairsP_len] at hi; rw [← r'.length, ← q'.length]; omega⟩, fun i x hx => ?_⟩
  obtain ⟨y, z, hy, hz, rfl⟩ := pairsP_get hx
  obtain ⟨v, h1, h2⟩ := r'.get hy
  obtain ⟨w, g1, g2⟩ := q'.get hz
  refine ⟨⟨xs, ys, v, w, h', g', h1, g1⟩, fun v' H2 hy => ?_⟩
  obtain ⟨T, v1, w1, rfl, hT, rfl, hv, hw⟩ := hy
  have e1 := hv xs h'
  have e2 := hw ys g'
  rw [h1] at e1
  rw [g1] at e2
  cases e1
  cases e2
  exact ⟨Same.new hT, pair_rp hT h2 g2⟩
theorem yields_zipM {K : PySem.W.Frag} {H : Hp} {a b : Addr} {l m : List P} {xs ys : List V} (h : H a = some (.tup xs)) (r : RPs C H l xs) {o : Obj} (g : H b = some (.frz o (.lst ys))) (q : RPs C H m ys) : Yields C (ItzM K a b (min xs.length ys.length)) (pairsP l m) H := by
  intro H' k
  have h' : SqT K H' a xs := SqT.of (k _ _ h trivial)
  have g' : SqL K H' b ys := .inl (.inr ⟨o, k _ _ g trivial⟩)
  have r' := r.keep k
  have q' := q.keep k
  refine ⟨fun i hi => ⟨by rw [pairsP_len] at hi; rw [← r'.length, ← q'.length]; omega, xs, ys, h', g', rfl⟩, fun i x hx => ?_⟩
  obtain ⟨y, z, hy, hz, rfl⟩ := pairsP_get hx
  obtain ⟨v, h1, h2⟩ := r'.get hy
  obtain ⟨w, g1, g2⟩ := q'.get hz
  refine ⟨⟨by have := (List.getElem?_eq_some_iff.mp h1).1; have := (List.getElem?_eq_some_iff.mp g1).1; omega, xs, ys, v, w, h', g', h1, g1, rfl⟩, fun v' H2 hy => ?_⟩
  obtain ⟨T, v1, w1, rfl, hT, rfl, hv, hw⟩ := hy
  have e1 := hv xs h'
  have e2 := hw ys g'
  rw [h1] at e1
  rw [g1] at e2
  cases e1
  cases e2
  exact ⟨Same.new hT, pair_rp hT h2 g2⟩
/-- an expression that is walked: a list, a tuple -/
theorem pi_seq {tg l : Expr} {tl : TE} (hl : PE X l tl) : PI X tg l (fun σ H R => tl σ H fun x H1 => ∃ a, x = .ref a ∧ (((∃ xs, SqL X.K H1 a xs) ∧ R (Itl X.K a) H1) ∨ ((∃ xs, SqT X.K H1 a xs) ∧ R (Itt X.K a) H1) ∨ ∃ lo hi, H1 a = some (.rng lo hi) ∧ rngOk lo hi = true ∧ R (Itr lo (hi - lo).toNat) H1)) := by
  refine ⟨fun pins s σ H R I h => ?_⟩
  refine thn (hl.run pins s σ H _ I h) fun v s1 ⟨x, H1, I1, r1, q1⟩ => ?_
  obtain ⟨a, rfl, q1⟩ := q1
  cases r1
  have fp : ∀ b ∈ [s1.heap.objs.size], FpOk X pins H1 b := fun b hb => by
    have e : b = s1.heap.objs.size := by simpa using hb
    subst e
    exact I1.fpOk (Nat.le_refl _) (I1.hok.fresh (Nat.le_refl _))
  rcases q1 with ⟨⟨xs, hq⟩, q⟩ | ⟨⟨xs, hq⟩, q⟩ | ⟨lo, hi, hq, hok, q⟩
  · obtain ⟨its, rv, p, hz⟩ := I1.list hq
    refine wpAny_pyIter_list p.isList ?_
    exact ⟨s1.heap.objs.size, [s1.heap.objs.size], _, _, H1, rfl, I1.kept (t' := s1.toks) fun b o e => Heap.get?_push_of_some _ e, turn_list a _, ⟨_, Heap.get?_push_size _ rfl, rfl, rfl⟩, fp, q⟩
  · obtain ⟨its, rv, p, hz⟩ := I1.tuple hq
    refine wpAny_pyIter_tuple (show s1.heap.IsTuple a its.toArray from p) ?_
    exact ⟨s1.heap.objs.size, [s1.heap.objs.size], _, _, H1, rfl, I1.kept (t' := s1.toks) fun b o e => Heap.get?_push_of_some _ e, turn_tuple a _, ⟨_, Heap.get?_push_size _ rfl, rfl, rfl⟩, fp, q⟩
  · obtain ⟨t, u, v, hr⟩ := I1.hok a _ hq
    have hb := hok
    unfold rngOk at hb
    simp only [Bool.and_eq_true, decide_eq_true_eq] at hb
    refine wpAny_pyIter_range (show IsRange s1.heap a lo hi 1 t u v from hr) (small_one hb.1.1.1.1 hb.1.1.1.2 hb.1.1.2 hb.1.2) ?_
    refine ⟨s1.heap.objs.size, [s1.heap.objs.size], _, _, H1, rfl, I1.kept (t' := s1.toks) fun b o e => Heap.get?_push_of_some _ e, turn_range _ lo (hi - lo).toNat, ?_, fp, q⟩
    have e1 : lo + ((0 : Nat) : Int) * 1 = lo := by simp
    have e2 : (((hi - lo).toNat : Nat) : Int) - ((0 : Nat) : Int) = Builtin.Range.rangeSize lo hi 1 := by rw [rangeSize_one]; split <;> omega
    show IsRangeIter _ _ (lo + ((0 : Nat) : Int) * 1) ((((hi - lo).toNat : Nat) : Int) - ((0 : Nat) : Int)) 1
    rw [e1, e2]
    exact Heap.get?_push_size _ rfl
theorem g_ex {a : E} {tg e : Expr} (h1 : PE X e (rdE C W (evE cf a))) : PI X tg e (rdI C W (evI cf (.ex a))) := by
  refine weakI (pi_seq h1) fun σ H Q ⟨μ, st, r, w, hr, h⟩ => ?_
  rw [evI] at h
  refine step w hr h fun d st1 μ1 H1 n1 w1 hr1 h1 v rv => ?_
  split at h1
  · rename_i x
    have rv : RP C H1 x v := rv
    split at h1
    · rename_i l e
      cases x with
      | tup m =>
        cases e
        obtain ⟨a, xs, rfl, e3, rr⟩ := RP.tup_iff.mp rv
        exact ⟨a, rfl, .inr (.inl ⟨⟨xs, SqT.of e3⟩, post.here h1 w1 _ (yields_tup e3 rr)⟩)⟩
      | lst m =>
        cases e
        obtain ⟨a, xs, rfl, ⟨o, e3⟩, rr⟩ := RP.lst_iff.mp rv
        exact ⟨a, rfl, .inl ⟨⟨xs, .inl (.inr ⟨o, e3⟩)⟩, post.here h1 w1 _ (yields_list e3 rr)⟩⟩
      | rng lo hi =>
        rw [itemsOf] at e
        split at e
        · rename_i hok
          cases e
          obtain ⟨a, rfl, e3⟩ := RP.rng_iff.mp rv
          exact ⟨a, rfl, .inr (.inr ⟨lo, hi, e3, hok, post.here h1 w1 _ yields_rng⟩)⟩
        · cases e
      | _ => cases e
    · exact h1.elim
  · exact h1.elim
theorem rngOk_of {lo hi : Int} (h : rngOk lo hi = true) : -(2 ^ 62) ≤ lo ∧ lo < 2 ^ 62 ∧ -(2 ^ 62) ≤ hi ∧ hi < 2 ^ 62 := by
  unfold rngOk at h
  simp only [Bool.and_eq_true, decide_eq_true_eq] at h
  exact ⟨h.1.1.1.1, h.1.1.1.2, h.1.1.2, h.1.2⟩
theorem g_rng1 (o : XOk C M F cf k W X) {a : E} {tg e : Expr} {p pos : Pos} (hs : notStar e = true) (hg : glB F.sc "range" = true) (h1 : PE X e (rdE C W (evE cf a))) : PI X tg (.Call (.Name "range" p) [e] [] pos) (rdI C W (evI cf (.rng1 a))) := by
  refine weakI (pi_range1 (glB_of o.sc hg) (o.blt _ (by decide +kernel)) (pa_cons h1 pa_nil (star_cons hs)) (star_cons hs)) fun σ H Q ⟨μ, st, r, w, hr, h⟩ => ?_
  rw [evI] at h
  refine step w hr h fun d st1 μ1 H1 n1 w1 hr1 h1 v rv => ?_
  split at h1
  · rename_i n
    have rv : RP C H1 (.int n) v := rv
    split at h1
    · rename_i hok
      obtain ⟨_, _, k3, k4⟩ := rngOk_of hok
      have y := yields_rng (C := C) (lo := 0) (hi := n) (H := H1)
      rw [Int.sub_zero] at y
      exact ⟨n, by rw [RP.int_iff.mp rv], k3, k4, post.here h1 w1 _ y⟩
    · exact h1.elim
  · exact h1.elim
theorem g_rng2 (o : XOk C M F cf k W X) {a b : E} {tg e e' : Expr} {p pos : Pos} (hs : notStar e = true) (hs' : notStar e' = true) (hg : glB F.sc "range" = true) (h1 : PE X e (rdE C W (evE cf a))) (h2 : PE X e' (rdE C W (evE cf b))) : PI X tg (.Call (.Name "range" p) [e, e'] [] pos) (rdI C W (evI cf (.rng2 a b))) := by
  refine weakI (pi_range2 (glB_of o.sc hg) (o.blt _ (by decide +kernel)) (pa_cons h1 (pa_cons h2 pa_nil (star_cons hs')) (star_cons hs)) (by rw [star_cons hs, star_cons hs']; rfl) (star_cons hs')) fun σ H Q ⟨μ, st, r, w, hr, h⟩ => ?_
  rw [evI] at h
  refine step w hr h fun d st1 μ1 H1 n1 w1 hr1 h1 v rv => ?_
  refine step w1 hr1 h1 fun d' st2 μ2 H2 n2 w2 hr2 h2 v' rv' => ?_
  split at h2
  · rename_i i j
    have rv : RP C H2 (.int i) v := rv.nx n2
    have rv' : RP C H2 (.int j) v' := rv'
    split at h2
    · rename_i hok
      exact ⟨i, j, by rw [RP.int_iff.mp rv, RP.int_iff.mp rv'], rngOk_of hok, post.here h2 w2 _ yields_rng⟩
    · exact h2.elim
  · exact h2.elim
theorem g_zip (o : XOk C M F cf k W X) {a b : E} {e e' : Expr} {elts : List Expr} {kk : Nat} {p pos tpos : Pos} (hs : notStar e = true) (hs' : notStar e' = true) (hg : glB F.sc "zip" = true) (h1 : PE X e (rdE C W (evE cf a))) (h2 : PE X e' (rdE C W (evE cf b))) : PI X (.Tuple elts kk tpos) (.Call (.Name "zip" p) [e, e'] [] pos) (rdI C W (evI cf (.zip a b))) := by
  refine weakI (pi_zipB (glB_of o.sc hg) (o.blt _ (by decide +kernel)) (pa_cons h1 (pa_cons h2 pa_nil (star_cons hs')) (star_cons hs)) (star_cons hs) (star_any (by simp [hs']))) fun σ H Q ⟨μ, st, r, w, hr, h⟩ => ?_
  rw [evI] at h
  refine step w hr h fun d st1 μ1 H1 n1 w1 hr1 h1 v rv => ?_
  refine step w1 hr1 h1 fun d' st2 μ2 H2 n2 w2 hr2 h2 v' rv' => ?_
  split at h2
  · rename_i l m
    have rv : RP C H2 (.lst l) v := rv.nx n2
    have rv' : RP C H2 (.lst m) v' := rv'
    obtain ⟨a, xs, rfl, ⟨o, e3⟩, rr⟩ := RP.lst_iff.mp rv
    obtain ⟨b, ys, rfl, ⟨o', e4⟩, rr'⟩ := RP.lst_iff.mp rv'
    exact ⟨a, b, xs, ys, rfl, .inl ⟨.inl (.inr ⟨o, e3⟩), .inl (.inr ⟨o', e4⟩), post.here h2 w2 _ (yields_zipL e3 rr e4 rr')⟩⟩
  · rename_i l m
    have rv : RP C H2 (.tup l) v := rv.nx n2
    have rv' : RP C H2 (.tup m) v' := rv'
    obtain ⟨a, xs, rfl, e3, rr⟩ := RP.tup_iff.mp rv
    obtain ⟨b, ys, rfl, e4, rr'⟩ := RP.tup_iff.mp rv'
    exact ⟨a, b, xs, ys, rfl, .inr (.inl ⟨SqT.of e3, SqT.of e4, post.here h2 w2 _ (yields_zipT e3 rr e4 rr')⟩)⟩
  · rename_i l m
    have rv : RP C H2 (.tup l) v := rv.nx n2
    have rv' : RP C H2 (.lst m) v' := rv'
    obtain ⟨a, xs, rfl, e3, rr⟩ := RP.tup_iff.mp rv
    obtain ⟨b, ys, rfl, ⟨o', e4⟩, rr'⟩ := RP.lst_iff.mp rv'
    exact ⟨a, b, xs, ys, rfl, .inr (.inr ⟨SqT.of e3, .inl (.inr ⟨o', e4⟩), post.here h2 w2 _ (yields_zipM e3 rr e4 rr')⟩)⟩
  · exact h2.elim
end
end Ev

set_option Elab.async false
set_option linter.all false
set_option maxRecDepth 100000
set_option maxHeartbeats 1000000
namespace Ev
open PySem PySem.Spec PyProof.Rows L2

/-! ### targets -/
mutual
def G.slots : G → List Nat
  | .name i => [i]
  | .tup gs => Gs.slots gs
def Gs.slots : Gs → List Nat
  | .nil => []
  | .cons g gs => G.slots g ++ Gs.slots gs
end
/-- a local or a cell of one's own -/
def locB (F : Fr) (x : Str) : Bool := match F.sc.names.lookup x with
  | some .local => true
  | some .cell => F.fl x
  | _ => false
mutual
def ckG (F : Fr) : G → Expr → Bool
  | .name i, e => match asName e with
    | some x => decide (F.N[i]? = some x) && locB F x
    | none => false
  | .tup gs, e => match asTup e with
    | some es => ckGs F gs es
    | none => false
def ckGs (F : Fr) : Gs → List Expr → Bool
  | .nil, [] => true
  | .cons g gs, e :: es => notStar e && ckG F g e && ckGs F gs es
  | _, _ => false
end
/-- the slots at l may differ -/
def Off (l : List Nat) (σ σ' : L2.St) : Prop := σ'.length = σ.length ∧ ∀ i, i ∉ l → σ'[i]? = σ[i]?
theorem Off.trans {l m : List Nat} {a b c : L2.St} (h : Off l a b) (g : Off m b c) : Off (l ++ m) a c := ⟨g.1.trans h.1, fun i hi => (g.2 i fun z => hi (List.mem_append_right _ z)).trans (h.2 i fun z => hi (List.mem_append_left _ z))⟩
theorem Off.refl (l : List Nat) (a : L2.St) : Off l a a := ⟨rfl, fun _ _ => rfl⟩
theorem Off.set {i : Nat} {v : Option V} {a : L2.St} : Off [i] a (a.set i v) := ⟨List.length_set, fun j hj => List.getElem?_set_ne (fun z => hj (by simp [z]))⟩
def gRd (C : Gc) (tg : G) : TG := fun v σ H Q => ∃ μ x r r1, REn C H μ r σ ∧ RP C H x v ∧ asgG tg x r = some r1 ∧ ∀ σ', REn C H μ r1 σ' → Off tg.slots σ σ' → Q σ' H
def gsRd (C : Gc) (tg : Gs) : TGs := fun vs σ H Q => ∃ μ xs r r1, REn C H μ r σ ∧ RPs C H xs vs ∧ asgGs tg xs r = some r1 ∧ ∀ σ', REn C H μ r1 σ' → Off tg.slots σ σ' → Q σ' H
theorem weakG {X : Cx} {e : Expr} {t t' : TG} (h : PG X e t) (f : ∀ v σ H Q, t' v σ H Q → t v σ H Q) : PG X e t' := ⟨fun pins s σ H v u Q I r q => h.run pins s σ H v u Q I r (f v σ H Q q)⟩
theorem weakGs {X : Cx} {e : List Expr} {t t' : TGs} (h : PGs X e t) (f : ∀ v σ H Q, t' v σ H Q → t v σ H Q) : PGs X e t' := ⟨fun pins s σ H v u Q I r q => h.run pins s σ H v u Q I r (f v σ H Q q)⟩
theorem asg_cons {e : Expr} {es : List Expr} {env : Env} (h : notStar e = true) : (assignEach (e :: es) env).map (·.2) = assign e env :: (assignEach es env).map (·.2) := by
  cases e <;> first | rfl | cases h
theorem asg_len {env : Env} : ∀ {es : List Expr}, es.all notStar = true → (assignEach es env).length = es.length ∧ (assignEach es env).findIdx? (·.1) = none
  | [], _ => ⟨rfl, rfl⟩
  | e :: es, h => by
    rw [List.all_cons, Bool.and_eq_true] at h
    obtain ⟨h1, h2⟩ := asg_len (env := env) h.2
    have e1 : assignEach (e :: es) env = (false, assign e env) :: assignEach es env := by
      have := h.1
      cases e <;> first | rfl | cases this
    rw [e1]
    refine ⟨by rw [List.length_cons, List.length_cons, h1], ?_⟩
    rw [List.findIdx?_cons, h2]
    rfl
theorem ckGs_star {F : Fr} : ∀ {gs : Gs} {es : List Expr}, ckGs F gs es = true → es.all notStar = true
  | .nil, [], _ => rfl
  | .nil, _ :: _, h => by cases h
  | .cons g gs, [], h => by cases h
  | .cons g gs, e :: es, h => by
    rw [ckGs, Bool.and_eq_true, Bool.and_eq_true] at h
    rw [List.all_cons, h.1.1, ckGs_star h.2]; rfl
theorem asgGs_len : ∀ {gs : Gs} {xs : List P} {r r1 : En} {F : Fr} {es : List Expr}, ckGs F gs es = true → asgGs gs xs r = some r1 → xs.length = es.length
  | .nil, [], r, r1, F, [], _, _ => rfl
  | .nil, _ :: _, r, r1, F, es, _, h => by cases h
  | .nil, [], r, r1, F, _ :: _, h, _ => by cases h
  | .cons g gs, [], r, r1, F, es, _, h => by cases h
  | .cons g gs, x :: xs, r, r1, F, [], h, _ => by cases h
  | .cons g gs, x :: xs, r, r1, F, e :: es, h, q => by
    rw [ckGs, Bool.and_eq_true] at h
    rw [asgGs] at q
    split at q
    · rw [List.length_cons, List.length_cons, asgGs_len h.2 q]
    · cases q
section
variable {C : Gc} {M : Md} {F : Fr} {cf : Cf} {k : Nat} {W : XW} {X : Cx}
theorem XOk.loc (o : XOk C M F cf k W X) {x : Str} (h : locB F x = true) : Loc X.env.scope x ∧ (X.fn x = true ∨ X.env.scope.names.lookup x = some .local) := by
  unfold locB at h
  rw [o.sc]
  split at h
  · rename_i e; exact ⟨.inl e, .inr e⟩
  · rename_i e; exact ⟨.inr e, .inl (o.fl x h)⟩
  · cases h
mutual
theorem g_tg (o : XOk C M F cf k W X) : ∀ (tg : G) (e : Expr), ckG F tg e = true → PG X e (gRd C tg)
  | .name i, e, h => by
    rw [ckG] at h
    split at h
    · rename_i x hx
      obtain ⟨p, rfl⟩ := asName_of hx
      rw [Bool.and_eq_true, decide_eq_true_eq] at h
      obtain ⟨l1, l2⟩ := o.loc h.2
      refine weakG (pg_name o.nd (by rw [o.N]; exact h.1) l1 l2) fun v σ H Q ⟨μ, x, r, r1, hr, rx, ha, q⟩ => ?_
      rw [asgG] at ha
      split at ha
      · cases ha
        exact q _ (hr.set (d := .p x) rx) Off.set
      · cases ha
    · cases h
  | .tup gs, e, h => by
    rw [ckG] at h
    split at h
    · rename_i es hx
      obtain ⟨kk, p, rfl⟩ := asTup_of hx
      have hst := ckGs_star h
      refine weakG (pg_tup (n := es.length) o.calm (g_tgs o gs es h) (asg_len hst).1 (asg_len hst).2) fun v σ H Q ⟨μ, x, r, r1, hr, rx, ha, q⟩ => ?_
      cases x with
      | tup l =>
        have ha : asgGs gs l r = some r1 := ha
        obtain ⟨a, xs, rfl, e3, rr⟩ := RP.tup_iff.mp rx
        exact ⟨a, xs, rfl, SqT.of e3, by rw [← rr.length]; exact asgGs_len h ha, μ, l, r, r1, hr, rr, ha, q⟩
      | _ => cases ha
    · cases h
theorem g_tgs (o : XOk C M F cf k W X) : ∀ (tg : Gs) (es : List Expr), ckGs F tg es = true → PGs X es (gsRd C tg)
  | .nil, [], _ => weakGs pgs_nil fun vs σ H Q ⟨μ, xs, r, r1, hr, rx, ha, q⟩ => by
      cases xs with
      | nil =>
        cases ha
        exact ⟨rx.of_nil, q _ hr (Off.refl _ _)⟩
      | cons x xs => cases ha
  | .nil, _ :: _, h => by cases h
  | .cons g gs, [], h => by cases h
  | .cons g gs, e :: es, h => by
    rw [ckGs, Bool.and_eq_true, Bool.and_eq_true] at h
    refine weakGs (pgs_cons (g_tg o g e h.1.2) (g_tgs o gs es h.2) (asg_cons h.1.1)) fun vs σ H Q ⟨μ, xs, r, r1, hr, rx, ha, q⟩ => ?_
    cases xs with
    | nil => cases ha
    | cons x xs =>
      rw [asgGs] at ha
      split at ha
      · rename_i r' e1
        obtain ⟨v, w, rfl, h1, h2⟩ := rx.of_cons
        exact ⟨v, w, rfl, μ, x, r, r', hr, h1, e1, fun σ' hr' o1 => ⟨μ, xs, r', r1, hr', h2, ha, fun σ2 hr2 o2 => q σ2 hr2 (o1.trans o2)⟩⟩
      · cases ha
end
/-! ### a comprehension's block -/
def Fr.blk (F : Fr) (scope : Scope) : Fr := ⟨F.N, relS scope F.sc, fun x => scope.names.lookup x == some .cell, F.lam⟩
/-- nothing is raised -/
def WF : XW := fun _ _ _ _ _ _ => False
theorem XOk.blk (o : XOk C M F cf k W X) {scope : Scope} (s : Shared) (H : Hp) (c : Addr) (cl : List (Str × Addr)) (fp : List Addr) : XOk C M (F.blk scope) cf k WF (X.blk s H scope (compEnvC scope cl c X.env) fp) where
  prog := o.prog
  w := o.w
  K := o.K
  calm := o.calm
  N := o.N
  nd := o.nd
  sc := by show relabel scope X.env = relS scope F.sc; rw [← o.sc]; rfl
  fl := fun _ h => h
  room := o.room
  blt := o.blt
  fns := o.fns
  fok := o.fok
  fnf := o.fnf
  far := o.far
  gcs := o.gcs
  pass := fun σ pins H s e s' I ⟨a, B, H', cls, d, _, _, _, _, _, _, _, c, fs, st, μ, A, _, _, _, _, w⟩ => w.elim
  lam := o.lam
  ctc := o.ctc
theorem wipe_off {vs : List Nat} {σ σ2 : L2.St} {l : List Nat} (hl : ∀ i ∈ l, i ∈ vs) (h : Off l (L2.wipe σ vs) σ2) : L2.wipe σ2 vs = L2.wipe σ vs := by
  have get : ∀ (vs : List Nat) (σ : L2.St) (i : Nat), (L2.wipe σ vs)[i]? = if i ∈ vs then (if i < σ.length then some none else none) else σ[i]? := by
    intro vs
    induction vs with
    | nil => intro σ i; simp [L2.wipe]
    | cons v vs ih =>
      intro σ i
      show ((L2.wipe σ vs).set v none)[i]? = _
      by_cases hv : v = i
      · subst hv
        rw [if_pos List.mem_cons_self]
        by_cases hl : v < σ.length
        · rw [List.getElem?_set_self (by rw [wipe_length]; exact hl), if_pos hl]
        · rw [List.getElem?_eq_none (by rw [List.length_set, wipe_length]; omega), if_neg hl]
      · rw [List.getElem?_set_ne hv, ih]
        by_cases hm : i ∈ vs
        · rw [if_pos hm, if_pos (List.mem_cons_of_mem _ hm)]
        · rw [if_neg hm, if_neg (by simp only [List.mem_cons, not_or]; exact ⟨fun z => hv z.symm, hm⟩)]
  have ln : σ2.length = σ.length := by rw [h.1, wipe_length]
  apply List.ext_getElem?
  intro i
  rw [get vs σ2 i, get vs σ i, ln]
  by_cases hm : i ∈ vs
  · rw [if_pos hm, if_pos hm]
  · rw [if_neg hm, if_neg hm, h.2 i (fun z => hm (hl i z)), get vs σ i, if_neg hm]
end
end Ev

set_option Elab.async false
set_option linter.all false
set_option maxRecDepth 100000
set_option maxHeartbeats 1000000
namespace Ev
open PySem PySem.Spec PyProof.Rows L2

theorem bind_assoc {α β γ : Type} (a : R α) (f : α → St → R β) (g : β → St → R γ) : (a.bind f).bind g = a.bind fun x s => (f x s).bind g := by
  cases a <;> rfl
/-- never an exception -/
def NoX {α : Type} (r : R α) : Prop := ∀ c fs s, r ≠ .exc c fs s
theorem nox_no {α : Type} (r : R α) : NoX (R.noexc r) := fun c fs s h => by cases r <;> cases h
theorem NoX.bind {α β : Type} {r : R α} {f : α → St → R β} (h : NoX r) (g : ∀ a s, NoX (f a s)) : NoX (r.bind f) := fun c fs s e => by
  cases r with
  | ok a s1 => exact g a s1 c fs s e
  | exc c' fs' s1 => exact h c' fs' s1 rfl
  | bad => cases e
theorem NoX.ok {α : Type} {a : α} {s : St} : NoX (.ok a s : R α) := fun _ _ _ h => by cases h
theorem NoX.bad {α : Type} : NoX (.bad : R α) := fun _ _ _ h => by cases h
theorem compGo_nox {f : P → St → R (List P)} (hf : ∀ x s, NoX (f x s)) : ∀ (l : List P) (s : St), NoX (compGo f l s)
  | [], s => .ok
  | x :: l, s => by
    rw [compGo]
    exact (hf x s).bind fun o s1 => (compGo_nox hf l s1).bind fun m s2 => .ok
/-! ### the object that is being made -/
def del (H : Hp) (D : Addr) : Hp := fun b => if b = D then none else H b
theorem del_same {H : Hp} {D : Addr} : del H D D = none := by unfold del; rw [if_pos rfl]
theorem del_ne {H : Hp} {D b : Addr} (h : b ≠ D) : del H D b = H b := by unfold del; rw [if_neg h]
theorem del_none {H : Hp} {D : Addr} (h : H D = none) : del H D = H := by
  funext b
  by_cases e : b = D
  · rw [e, del_same, h]
  · exact del_ne e
theorem del_upd {H : Hp} {D : Addr} {o : HO} : del (upd H D o) D = del H D := by
  funext b
  by_cases e : b = D
  · rw [e, del_same, del_same]
  · rw [del_ne e, del_ne e, upd_ne e]
theorem upd_del {H : Hp} {D : Addr} {o : HO} (h : H D = some o) : upd (del H D) D o = H := by
  funext b
  by_cases e : b = D
  · rw [e, upd_same, h]
  · rw [upd_ne e, del_ne e]
theorem same_del {H : Hp} {D : Addr} : Same (del H D) H := fun b o e => by
  by_cases z : b = D
  · rw [z, del_same] at e; cases e
  · rwa [del_ne z] at e
theorem keep_del {H : Hp} {D : Addr} {u : HO} (h : H D = some u) (ni : ¬ Im u) : Keep H (del H D) := fun b o e i => by
  have : b ≠ D := fun z => by rw [z, h] at e; cases e; exact ni i
  rw [del_ne this]; exact e
theorem mut_nt {u : HO} (h : Mut (some u)) : NT u := fun ps z => by subst z; exact h
/-- a dict is no code object -/
theorem dx_nc {C : Gc} {D : Addr} {q : Str} {xs : List (NestedKey × Addr × Value)} : DX C D xs ≠ LamX.CodeO D q := fun z => by
  have e := HO.ext.inj z
  let ob : Obj := { cls := .none, data := .fields #[.none, .str q default] }
  let h : Heap := Heap.push ⟨Array.replicate D ob, {}⟩ ob
  have hg : h.get? D = some ob := by
    have := Heap.get?_push_size (⟨Array.replicate D ob, {}⟩ : Heap) (o := ob) rfl
    rwa [show (⟨Array.replicate D ob, {}⟩ : Heap).objs.size = D from Array.size_replicate] at this
  have y : ∃ (oc : Obj) (vs : Array Value) (t : Tok), h.get? D = some oc ∧ oc.data = .fields vs ∧ vs[1]? = some (.str q t) := ⟨ob, #[.none, .str q default], default, hg, rfl, rfl⟩
  have e2 := congrFun e h
  obtain ⟨o, es, ep, h1, _, h3, _⟩ := e2.mpr y
  rw [hg] at h1
  cases h1
  cases h3
/-- no code object is made -/
def NC (D : Addr) (u : HO) : Prop := ∀ q, u ≠ LamX.CodeO D q
theorem nc_dct {C : Gc} {H : Hp} {D : Addr} {ks vs : List P} {u : HO} (h : RDc C H D ks vs u) : NC D u := fun q => by
  rcases h with ⟨kvs, rfl, _⟩ | ⟨_, _, _, rfl, _⟩
  · exact fun z => by cases z
  · exact dx_nc
theorem nc_lst {D : Addr} {xs : List V} : NC D (.lst xs) := fun q z => by cases z
theorem tab_del {C : Gc} {μ : List Addr} {H : Hp} {D : Addr} {u : HO} (T : TabO C H μ) (h : H D = some u) (nt : NT u) (nc : NC D u) : TabO C (del H D) μ := fun p hp => by
  obtain ⟨ps, h1, h2, h3, h4⟩ := T p hp
  refine ⟨ps, by rw [del_ne fun z => by rw [z, h] at h1; cases h1; exact nt ps rfl]; exact h1, h2, h3, fun pos cv hc => ?_⟩
  obtain ⟨c, e1, e2, e3⟩ := h4 pos cv hc
  exact ⟨c, e1, by rw [del_ne fun z => by rw [z, h] at e2; exact nc _ (Option.some.inj e2)]; exact e2, e3⟩
theorem tab_put {C : Gc} {μ : List Addr} {H : Hp} {D : Addr} {u u' : HO} (T : TabO C H μ) (h : H D = some u) (nt : NT u) (nc : NC D u) : TabO C (upd H D u') μ := fun p hp => by
  obtain ⟨ps, h1, h2, h3, h4⟩ := T p hp
  refine ⟨ps, by rw [upd_ne fun z => by rw [z, h] at h1; cases h1; exact nt ps rfl]; exact h1, h2, h3, fun pos cv hc => ?_⟩
  obtain ⟨c, e1, e2, e3⟩ := h4 pos cv hc
  exact ⟨c, e1, by rw [upd_ne fun z => by rw [z, h] at e2; exact nc _ (Option.some.inj e2)]; exact e2, e3⟩
theorem nx_del {μ μ' : List Addr} {H H' : Hp} {D : Addr} {u : HO} (h : H D = some u) (ni : ¬ Im u) (nt : NT u) (hm : D ∉ μ) (n : Nx μ H μ' H') : H' D = some u ∧ D ∉ μ' ∧ Nx μ (del H D) μ' (del H' D) := by
  have hD : D ∉ μ' := fun z => (n.new D z hm).elim (fun e => by rw [h] at e; cases e) fun ⟨ps, e⟩ => by rw [h] at e; cases e; exact nt ps rfl
  refine ⟨n.rest D u h hm nt, hD, n.pre, fun b o e i => ?_, fun b o e m nt' => ?_, fun b m z => ?_⟩
  · by_cases q : b = D
    · rw [q, del_same] at e; cases e
    · rw [del_ne q] at e ⊢; exact n.keep b o e i
  · by_cases q : b = D
    · rw [q, del_same] at e; cases e
    · rw [del_ne q] at e ⊢; exact n.rest b o e m nt'
  · by_cases q : b = D
    · rw [q, del_same]; exact .inl rfl
    · rw [del_ne q]; exact n.new b m z
/-- what is made may change -/
def obMut : Ob → Prop
  | .lst _ => True
  | .dct _ _ => True
  | _ => False
structure LS (C : Gc) (μ1 : List Addr) (H1 : Hp) (D : Addr) (ob : Ob) (μ : List Addr) (st : St) (H : Hp) (u : HO) : Prop where
  at_ : H D = some u
  mu : Mut (some u)
  nc : NC D u
  ob : ∀ H', Keep H H' → H' D = some u → ObR C H' D ob
  nx : Nx μ1 H1 μ (del H D)
  wd : Wd C H μ st
  nm : D ∉ μ
theorem mut_im {u : HO} (h : Mut (some u)) : ¬ Im u := by cases u <;> first | exact fun z => z | exact h.elim
section
variable {C : Gc} {μ1 μ : List Addr} {H1 H : Hp} {D : Addr} {ob : Ob} {st : St} {u : HO}
theorem LS.keep1 (L : LS C μ1 H1 D ob μ st H u) : Keep H1 H := L.nx.keep.trans fun b o e _ => same_del b o e
theorem LS.nx1 (L : LS C μ1 H1 D ob μ st H u) : Nx μ1 H1 μ H := L.nx.trans (Nx.same same_del)
theorem LS.start {st1 : St} (w : Wd C H1 μ1 st1) (hD : H1 D = none) (mu : Mut (some u)) (nc : NC D u) (q : ∀ H', Keep (upd H1 D u) H' → H' D = some u → ObR C H' D ob) : LS C μ1 H1 D ob μ1 st1 (upd H1 D u) u :=
  ⟨upd_same, mu, nc, q, by rw [del_upd, del_none hD]; exact Nx.refl _ _, w.fresh hD, fun z => w.has z hD⟩
theorem LS.go {μ' : List Addr} {st' : St} {H' : Hp} (L : LS C μ1 H1 D ob μ st H u) (n : Nx μ H μ' H') (w : Wd C H' μ' st') : LS C μ1 H1 D ob μ' st' H' u := by
  obtain ⟨a, b, c⟩ := nx_del L.at_ (mut_im L.mu) (mut_nt L.mu) L.nm n
  exact ⟨a, L.mu, L.nc, fun H2 k e => L.ob H2 (n.keep.trans k) e, L.nx.trans c, w, b⟩
theorem LS.same {H' : Hp} (L : LS C μ1 H1 D ob μ st H u) (g : Same H H') : LS C μ1 H1 D ob μ st H' u := L.go (Nx.same g) (L.wd.same g)
/-- it is written -/
theorem LS.put {ob' : Ob} {u' : HO} (L : LS C μ1 H1 D ob μ st H u) (mu : Mut (some u')) (nc : NC D u') (q : ∀ H', Keep (upd H D u') H' → H' D = some u' → ObR C H' D ob') : LS C μ1 H1 D ob' μ st (upd H D u') u' :=
  ⟨upd_same, mu, nc, q, by rw [del_upd]; exact L.nx, L.wd.keep (Keep.mut _ L.at_ (mut_im L.mu)) (fun a m => upd_ne fun z => L.nm (z ▸ m)) (tab_put L.wd.tab L.at_ (mut_nt L.mu) L.nc), L.nm⟩
theorem LS.fin (L : LS C μ1 H1 D ob μ st H u) : Wd C (del H D) μ st := L.wd.keep (keep_del L.at_ (mut_im L.mu)) (fun a m => del_ne fun z => L.nm (z ▸ m)) (tab_del L.wd.tab L.at_ (mut_nt L.mu) L.nc)
end
section
variable {C : Gc} {M : Md} {F : Fr} {cf : Cf} {k : Nat} {W : XW} {X : Cx}
/-! ### a clause's tests -/
theorem weakTs {X : Cx} {e : List Expr} {t t' : TT} (h : PTs X e t) (f : ∀ σ H Q, t' σ H Q → t σ H Q) : PTs X e t' := ⟨fun pins s σ H Q I q => h.run pins s σ H Q I (f σ H Q q)⟩
theorem g_yes : PTs X [] (rdT C W (evTo cf .yes)) := weakTs pts_nil fun σ H Q ⟨μ, st, r, w, hr, h⟩ => by
  rw [evTo] at h
  exact hereT h w
theorem g_if1 {t : T} {e : Expr} (h1 : Both C W X e (evT cf t)) : PTs X [e] (rdT C W (evTo cf (.if1 t))) := weakTs (pts_one h1.1) fun σ H Q ⟨μ, st, r, w, hr, h⟩ => by
  rw [evTo] at h
  exact ⟨μ, st, r, w, hr, h⟩
/-- an evaluation that is known, as a reading -/
theorem rd_known {α : Type} {ev : En → St → R α} {ok : α → St → List Addr → Hp → Prop} {σ : L2.St} {H : Hp} {μ : List Addr} {st st' : St} {r : En} {a : α} (w : Wd C H μ st) (hr : REn C H μ r σ) (e : ev r st = .ok a st')
    (h : ∀ μ' H', Nx μ H μ' H' → Wd C H' μ' st' → ok a st' μ' H') : rdG C W ev ok σ H := ⟨μ, st, r, w, hr, by rw [e]; exact h⟩
/-! ### [elt for tg in it if ..] -/
def compF (cf : Cf) (vs : List Nat) (tg : G) (ifs : To) (elt : E) (r : En) : P → St → R (List P) := fun x s2 => match asgG tg x (wipeE r vs) with
  | some r1 => (R.noexc (evTo cf ifs r1 s2)).bind fun c s3 => if c then (R.noexc (evE cf elt r1 s3)).bind fun d s4 => (match d with | .p y => .ok [y] s4 | _ => .bad) else .ok [] s3
  | none => .bad
theorem evL_comp {vs : List Nat} {tg : G} {it : I} {ifs : To} {elt : E} {r : En} {s : St} : evL cf (.comp vs tg it ifs elt) r s = ((evI cf it r s).bind fun xs s1 => compGo (compF cf vs tg ifs elt r) xs s1).bind fun l s2 => if decide (l.length ≤ big) then .ok l s2 else .bad := by
  rw [evL]; rfl
theorem compF_nox {vs : List Nat} {tg : G} {ifs : To} {elt : E} {r : En} (x : P) (s : St) : NoX (compF cf vs tg ifs elt r x s) := by
  unfold compF
  split
  · refine (nox_no _).bind fun c s3 => ?_
    cases c with
    | true =>
      rw [if_pos rfl]
      refine (nox_no _).bind fun d s4 => ?_
      split
      · exact .ok
      · exact .bad
    | false => rw [if_neg Bool.false_ne_true]; exact .ok
  · exact .bad
theorem compF_ok {vs : List Nat} {tg : G} {ifs : To} {elt : E} {r : En} {x : P} {s s' : St} {o : List P} (h : compF cf vs tg ifs elt r x s = .ok o s') :
    ∃ r1 c s3, asgG tg x (wipeE r vs) = some r1 ∧ evTo cf ifs r1 s = .ok c s3 ∧ ((c = true ∧ ∃ y, evE cf elt r1 s3 = .ok (.p y) s' ∧ o = [y]) ∨ (c = false ∧ o = [] ∧ s' = s3)) := by
  unfold compF at h
  split at h
  · rename_i r1 e1
    obtain ⟨c, s3, h1, h2⟩ := bind_ok h
    refine ⟨r1, c, s3, e1, noexc_ok h1, ?_⟩
    cases c with
    | true =>
      rw [if_pos rfl] at h2
      obtain ⟨d, s4, h3, h4⟩ := bind_ok h2
      split at h4
      · rename_i y
        cases h4
        exact .inl ⟨rfl, y, noexc_ok h3, rfl⟩
      · cases h4
    | false =>
      rw [if_neg Bool.false_ne_true] at h2
      cases h2
      exact .inr ⟨rfl, rfl, rfl⟩
  · cases h
theorem compGo_ok {f : P → St → R (List P)} {x : P} {l : List P} {s s' : St} {out : List P} (h : compGo f (x :: l) s = .ok out s') : ∃ o s1 m, f x s = .ok o s1 ∧ compGo f l s1 = .ok m s' ∧ out = o ++ m := by
  rw [compGo] at h
  obtain ⟨o, s1, h1, h2⟩ := bind_ok h
  obtain ⟨m, s2, h3, h4⟩ := bind_ok h2
  cases h4
  exact ⟨o, s1, m, h1, h3, rfl⟩
theorem drop_at {l : List P} {i : Nat} (h : i < l.length) : ∃ x, l[i]? = some x ∧ l.drop i = x :: l.drop (i + 1) := ⟨l[i], List.getElem?_eq_getElem h, List.drop_eq_getElem_cons h⟩
/-- one item, from its equations -/
theorem item_rd {vs : List Nat} {tg : G} {ifs : To} {elt : E} {r : En} {σ : L2.St} {μ1 μ : List Addr} {H1 H : Hp} {D : Addr} {acc : List P} {st s' : St} {u : HO} {x : P} {v : V} {o : List P} {N : Hp → Prop} (hsl : ∀ i ∈ tg.slots, i ∈ vs)
    (L : LS C μ1 H1 D (.lst acc) μ st H u) (hr1 : REn C H1 μ1 r σ) (rx : RP C H x v) (e : compF cf vs tg ifs elt r x st = .ok o s') (hz : acc.length + o.length ≤ sizeLine)
    (hN : ∀ μ' H' u', LS C μ1 H1 D (.lst (acc ++ o)) μ' s' H' u' → N H') :
    gRd C tg v (L2.wipe σ vs) H fun σ2 H2 => L2.wipe σ2 vs = L2.wipe σ vs ∧ rdT C WF (evTo cf ifs) σ2 H2 fun b H3 =>
      if b = true then rdE C WF (evE cf elt) σ2 H3 fun y H4 => ∃ acc, H4 D = some (.lst acc) ∧ acc.length < sizeLine ∧ N (upd H4 D (.lst (acc ++ [y]))) else N H3 := by
  obtain ⟨r1, c, s3, e1, e2, e3⟩ := compF_ok e
  refine ⟨μ, x, wipeE r vs, r1, (hr1.nx L.nx1).wipe vs, rx, e1, fun σ2 hr2 off => ⟨wipe_off hsl off, ?_⟩⟩
  refine rd_known L.wd hr2 e2 fun μ' H3 n3 w3 => ?_
  have L3 := L.go n3 w3
  have hr3 := hr2.nx n3
  show if c = true then _ else _
  rcases e3 with ⟨rfl, y, e4, rfl⟩ | ⟨rfl, rfl, rfl⟩
  · rw [if_pos rfl]
    refine rd_known w3 hr3 e4 fun μ'' H4 n4 w4 v' rv => ?_
    have L4 := L3.go n4 w4
    obtain ⟨xs, q1, q2⟩ := L4.ob H4 (Keep.refl _) L4.at_
    refine ⟨xs, q1, ?_, hN _ _ _ (L4.put (u' := .lst (xs ++ [v'])) trivial nc_lst fun H' k e => ⟨xs ++ [v'], e, ?_⟩)⟩
    · have := q2.length
      simp at hz
      omega
    · have kk : Keep H4 H' := (Keep.mut _ L4.at_ (mut_im L4.mu)).trans k
      exact (q2.keep kk).append (.cons (RP.keep kk _ _ (show RP C H4 y v' from rv)) .nil)
  · rw [if_neg Bool.false_ne_true]
    rw [List.append_nil] at hN
    exact hN _ _ _ L3
theorem okL_fin {σ : L2.St} {Q : VK} {μ1 μ : List Addr} {H1 H : Hp} {D : Addr} {out : List P} {stn : St} {u : HO} (L : LS C μ1 H1 D (.lst out) μ stn H u) (h : post C W σ μ1 H1 (.ok out stn) (okL C Q)) : Q (.ref D) H := by
  obtain ⟨xs, q1, q2⟩ := L.ob H (Keep.refl _) L.at_
  have := h μ (del H D) L.nx L.fin D xs del_same (q2.keep (keep_del q1 fun z => z))
  rw [upd_del q1] at this
  exact this
theorem chk_ok {σ : L2.St} {μ : List Addr} {H : Hp} {res : R (List P)} {ok : List P → St → List Addr → Hp → Prop} (nx : NoX res) (h : post C W σ μ H (res.bind fun l s2 => if decide (l.length ≤ big) then .ok l s2 else .bad) ok) :
    ∃ out stn, res = .ok out stn ∧ out.length ≤ sizeLine ∧ post C W σ μ H (.ok out stn) ok := by
  cases res with
  | ok out stn =>
    have h : post C W σ μ H (if decide (out.length ≤ big) then .ok out stn else .bad) ok := h
    split at h
    · rename_i hz
      exact ⟨out, stn, rfl, by rw [← big_line]; exact of_decide_eq_true hz, h⟩
    · exact h.elim
  | exc c fs s => exact absurd rfl (nx c fs s)
  | bad => exact h.elim
theorem comp_rd {vs : List Nat} {tg : G} {it : I} {ifs : To} {elt : E} (hsl : ∀ i ∈ tg.slots, i ∈ vs) {σ : L2.St} {H : Hp} {Q : VK} (h : rdL C W (evL cf (.comp vs tg it ifs elt)) σ H Q) :
    tLc (rdI C W (evI cf it)) (gRd C tg) (rdT C WF (evTo cf ifs)) (rdE C WF (evE cf elt)) vs σ H Q := by
  obtain ⟨μ, st, r, w, hr, h⟩ := h
  rw [evL_comp, bind_assoc] at h
  refine step w hr h fun l st1 μ1 H1 n1 w1 hr1 h1 J hJ D hD => ?_
  obtain ⟨out, stn, e, hz, h2⟩ := chk_ok (compGo_nox (fun x s => compF_nox x s) l st1) h1
  refine ⟨fun i m H => m = l.length - i ∧ i ≤ l.length ∧ ∃ acc μ st' u rest, LS C μ1 H1 D (.lst acc) μ st' H u ∧ compGo (compF cf vs tg ifs elt r) (l.drop i) st' = .ok rest stn ∧ out = acc ++ rest,
    ⟨l.length, by simp, Nat.zero_le _, [], μ1, st1, .lst [], out, LS.start w1 hD trivial nc_lst fun H' k e => ⟨[], e, .nil⟩, by rw [List.drop_zero]; exact e, rfl⟩, ?_⟩
  rintro i m H ⟨rfl, hi, acc, μ2, st2, u, rest, L, er, eo⟩
  obtain ⟨y1, y2⟩ := hJ H L.keep1
  by_cases hlt : i < l.length
  · obtain ⟨x, hx, hd⟩ := drop_at hlt
    rw [hd] at er
    obtain ⟨o, s3, m, f1, f2, f3⟩ := compGo_ok er
    obtain ⟨go, y3⟩ := y2 i x hx
    refine .inr ⟨go, fun H' => i + 1 ≤ l.length ∧ ∃ acc μ st' u rest, LS C μ1 H1 D (.lst acc) μ st' H' u ∧ compGo (compF cf vs tg ifs elt r) (l.drop (i + 1)) st' = .ok rest stn ∧ out = acc ++ rest, fun H' q => ⟨l.length - (i + 1), by omega, rfl, q⟩, fun v H' hy => ?_⟩
    obtain ⟨sm, rx⟩ := y3 v H' hy
    subst f3
    refine item_rd hsl (L.same sm) hr1 rx f1 ?_ fun μ' H' u' L' => ⟨hlt, acc ++ o, μ', s3, u', m, L', f2, by rw [eo, List.append_assoc]⟩
    rw [eo] at hz
    simp at hz
    omega
  · have e0 : i = l.length := by omega
    subst e0
    rw [List.drop_length] at er
    cases er
    rw [List.append_nil] at eo
    subst eo
    exact .inl ⟨y1 _ (Nat.le_refl _), okL_fin L h2⟩
end
end Ev

set_option Elab.async false
set_option linter.all false
set_option maxRecDepth 100000
set_option maxHeartbeats 1000000
/-! ### {k: v for .. in ..}: the block's loop, at any depth -/
namespace Ev
open PySem PySem.Spec PyProof.Rows L2

/-- what a turn runs behind its tests -/
abbrev PBod := L2.St → Hp → (Hp → Prop) → Prop
def PB (Y : Cx) (vs : List Nat) (b : Sem PySem.Fin → Sem PySem.Fin) (t : PBod) : Prop := ∀ (pn : List (Addr × Obj)) (s : Shared) (τ : L2.St) (H : Hp) (N : Hp → Prop) (k : Sem PySem.Fin) (Q : PySem.Fin → Shared → Prop) (E : Value → Shared → Prop), Inv Y pn τ H s → t τ H N →
  (∀ s' τ' H', Inv Y pn τ' H' s' → L2.wipe τ' vs = L2.wipe τ vs → N H' → wpAny (model Y.prog Y.w) Y.A k Q E s') → wpAny (model Y.prog Y.w) Y.A (b k) Q E s
/-- one loop of the block -/
def tLoop (J : It) (g : TG) (tt : TT) (tb : PBod) (vs : List Nat) : L2.St → Hp → (Hp → Prop) → Prop := fun τ H Q => ∃ Wn : Nat → Nat → Hp → Prop, (∃ m, Wn 0 m H) ∧ ∀ i m H, Wn i m H →
  (J.stop i H ∧ Q H) ∨ (J.go i H ∧ ∃ N : Hp → Prop, (∀ H', N H' → ∃ m', m' < m ∧ Wn (i + 1) m' H') ∧ ∀ x H', J.yld i H x H' → g x (L2.wipe τ vs) H' fun τ2 H2 => L2.wipe τ2 vs = L2.wipe τ vs ∧ tt τ2 H2 fun b H3 => if b = true then tb τ2 H3 N else N H3)
section
variable {Y : Cx} {kx vx : Expr} {gens : List Comprehension} {scope : Scope} {pos ip : Pos} {t : Expr} {ifs : List Expr} {j : Nat} {it D : Addr} {bod : Sem PySem.Fin → Sem PySem.Fin}
/-- the turn's form -/
def TurnIs (Y : Cx) (kx vx : Expr) (gens : List Comprehension) (scope : Scope) (pos ip : Pos) (t : Expr) (ifs : List Expr) (j : Nat) (it D : Addr) (bod : Sem PySem.Fin → Sem PySem.Fin) : Prop :=
  compTurn (.DictComp kx vx gens scope pos) j (.ref it) (.ref D) Y.env = (do
    standAt ip
    match ← pyNext (.ref it) with
    | none => pure (.done .next)
    | some v =>
      letOwnedTupleGo t (.ref it) v
      assign t Y.env v
      let ok ← forIn ifs true fun c r => if r = true then do let ok ← isTrue c Y.env (eval c Y.env); pure (ForInStep.yield ok) else pure (ForInStep.yield r)
      if ok = true then bod (again (.compLoop (.DictComp kx vx gens scope pos) j (.ref it) (.ref D) Y.env))
      else again (.compLoop (.DictComp kx vx gens scope pos) j (.ref it) (.ref D) Y.env))
theorem loop_run (hform : TurnIs Y kx vx gens scope pos ip t ifs j it D bod) (hx : Y.xe = fun _ _ => False) (hc : Y.calm = true) {g : TG} {tt : TT} {tb : PBod} {vs : List Nat} (pg : PG Y t g) (pt : PTs Y ifs tt) (pb : PB Y vs bod tb)
    {J : It} {fp : List Addr} {tn : Nat → Heap → Prop} (T : Turn Y.prog Y.w Y.K t J fp it tn) {pn : List (Addr × Obj)} {τ : L2.St} {H : Hp} {s : Shared} (I : Inv Y pn τ H s) (s0 : tn 0 s.heap) (f0 : ∀ b ∈ fp, FpOk Y pn H b) {Q : Hp → Prop} (q : tLoop J g tt tb vs τ H Q)
    {R : Result → Shared → Prop} (fin : ∀ s' H', Inv Y pn (L2.wipe τ vs) H' s' → Q H' → R (.ok .next) s') :
    codeAny (model Y.prog Y.w) Y.A (.compLoop (.DictComp kx vx gens scope pos) j (.ref it) (.ref D) Y.env) R s := by
  obtain ⟨Wn, ⟨m0, w0⟩, turn⟩ := q
  have stays : ∀ {H' : Hp}, (∀ b ∈ fp, H' b = none) → ∀ b ∈ fp, FpOk Y pn H' b := fun hn b hb => ⟨hn b hb, (f0 b hb).2⟩
  refine codeAny_loop rfl (fun n s' => ∃ i H', Inv Y pn (L2.wipe τ vs) H' s' ∧ tn i s'.heap ∧ (∀ b ∈ fp, H' b = none) ∧ Wn i n H') ?_ m0
    ⟨0, H, I.weak (wipe_length _ _) fun i v e => (wipe_some e).1, s0, fun b hb => (f0 b hb).1, w0⟩
  rintro n s1 ⟨i, H1, I1, t1, n1, w1⟩
  show wpAny _ Y.A ((compTurn (.DictComp kx vx gens scope pos) j (.ref it) (.ref D) Y.env).onRaise fun x => do noteFrame x Y.env; theTreesLotGoes x) _ _ s1
  refine wpAny_noted ?_
  rw [hform]
  refine wpAny_bind (wpAny_standAt (wpAny_bind ?_))
  rcases turn i n H1 w1 with ⟨stop, qq⟩ | ⟨go, N, hN, step⟩
  · refine thnF (T.done Y rfl rfl rfl hc i pn s1 _ H1 (fun _ _ => False) I1 (stays n1) t1 stop) fun r s2 ⟨hr, I2⟩ => ?_
    subst hr
    exact wpAny_pure (fin s2 H1 I2 qq)
  · refine thnF (T.item Y rfl rfl rfl hc i pn s1 _ H1 (fun _ _ => False) I1 (stays n1) t1 go) fun r s2 ⟨u, hr, h2⟩ => ?_
    subst hr
    refine wpAny_bind (thnF h2 fun _ s3 ⟨x, H3, I3, r3, y3, t3, n3⟩ => ?_)
    have P3 := I3.pinned (stays n3) (T.obj _ _ t3)
    have pgr := pg.run _ s3 _ H3 x u _ P3 r3 (step x H3 y3)
    rw [hx] at pgr
    refine wpAny_bind (thnF pgr fun _ s4 ⟨τ4, H4, I4, hw4, q4⟩ => ?_)
    have ptr := pt.run _ s4 τ4 H4 _ I4 q4
    rw [hx] at ptr
    refine wpAny_bind (thnF ptr fun ok s5 ⟨H5, I5, q5⟩ => ?_)
    have endT : ∀ {s' : Shared} {H' : Hp} {τ' : L2.St}, Inv Y (pn ++ pinsAt fp s3.heap) τ' H' s' → L2.wipe τ' vs = L2.wipe τ vs → N H' → ∃ m, m < n ∧ ∃ i H', Inv Y pn (L2.wipe τ vs) H' s' ∧ tn i s'.heap ∧ (∀ b ∈ fp, H' b = none) ∧ Wn i m H' := fun {s' H' τ'} I' hw nx => by
      obtain ⟨m', hm, w'⟩ := hN H' nx
      have held : ∀ b ∈ fp, ∀ o, s3.heap.get? b = some o → s'.heap.get? b = some o ∧ H' b = none := fun b hb o e =>
        let z := I'.pin (b, o) (List.mem_append_right _ (List.mem_append_right _ (mem_pinsAt hb e)))
        ⟨z.1, z.2.1⟩
      have ln : (L2.wipe τ vs).length = τ'.length := by rw [← hw, wipe_length]
      refine ⟨m', hm, i + 1, H', (I'.unpinned).weak ln (fun k v e => ?_), T.keep _ _ _ t3 fun b hb o e => (held b hb o e).1, fun b hb => ?_, w'⟩
      · rw [← hw] at e
        exact (wipe_some e).1
      · obtain ⟨o, e, _⟩ := T.obj _ _ t3 b hb
        exact (held b hb o e).2
    cases ok with
    | false =>
      simp only [Bool.false_eq_true, if_false] at q5 ⊢
      exact wpAny_pure ⟨rfl, endT I5 hw4 q5⟩
    | true =>
      simp only [if_true] at q5 ⊢
      exact pb _ s5 τ4 H5 N _ _ _ I5 q5 fun s6 τ6 H6 I6 hw6 nx => wpAny_pure ⟨rfl, endT I6 (hw6.trans hw4) nx⟩
end
end Ev

set_option Elab.async false
set_option linter.all false
set_option maxRecDepth 100000
set_option maxHeartbeats 1000000
namespace Ev
open PySem PySem.Spec PyProof.Rows L2

theorem wipe_get : ∀ (vs : List Nat) (σ : L2.St) (i : Nat), (L2.wipe σ vs)[i]? = if i ∈ vs then (if i < σ.length then some none else none) else σ[i]?
  | [], σ, i => by simp [L2.wipe]
  | v :: vs, σ, i => by
    show ((L2.wipe σ vs).set v none)[i]? = _
    by_cases hv : v = i
    · subst hv
      rw [if_pos List.mem_cons_self]
      by_cases hl : v < σ.length
      · rw [List.getElem?_set_self (by rw [wipe_length]; exact hl), if_pos hl]
      · rw [List.getElem?_eq_none (by rw [List.length_set, wipe_length]; omega), if_neg hl]
    · rw [List.getElem?_set_ne hv, wipe_get vs σ i]
      by_cases hm : i ∈ vs
      · rw [if_pos hm, if_pos (List.mem_cons_of_mem _ hm)]
      · rw [if_neg hm, if_neg (by simp only [List.mem_cons, not_or]; exact ⟨fun z => hv z.symm, hm⟩)]
theorem wipe_wipe {vs ws : List Nat} (h : ∀ i ∈ ws, i ∈ vs) (σ : L2.St) : L2.wipe (L2.wipe σ ws) vs = L2.wipe σ vs := by
  apply List.ext_getElem?
  intro i
  rw [wipe_get vs (L2.wipe σ ws), wipe_get vs σ, wipe_length]
  by_cases hm : i ∈ vs
  · simp only [if_pos hm]
  · simp only [if_neg hm, wipe_get, if_neg (fun z => hm (h i z))]
/-- d[y] = z may be done, and gives N -/
def DSt (P : Program) (w : World) (A : Around) (D : Addr) (y z : V) (H : Hp) (N : Hp → Prop) : Prop := ∀ (Y : Cx) (pn : List (Addr × Obj)) (s : Shared) (τ : L2.St) (u r : Value) (E : Value → Shared → Prop) (Q : Unit → Shared → Prop), Y.prog = P → Y.w = w → Y.A = A → Inv Y pn τ H s → RelV y u → RelV z r →
  (∀ s' H', Inv Y pn τ H' s' → N H' → Q () s') → wpAny (model P w) A (dictSet D u r) Q E s
def bEmit (kx vx : Expr) (env : Env) (D : Addr) (k : Sem PySem.Fin) : Sem PySem.Fin := do
  (do
    let kv ← eval kx env
    let vv ← holding [kv] (eval vx env)
    standAt { kx.pos with endLine := vx.pos.endLine, endCol := vx.pos.endCol }
    holding [kv, vv] (dictSet D kv vv))
  k
def tEmit (P : Program) (w : World) (A : Around) (tk tv : TE) (D : Addr) : PBod := fun τ H N => tk τ H fun y H1 => tv τ H1 fun z H2 => DSt P w A D y z H2 N
def bIn (e : Expr) (i1 : Expr) (env : Env) (D : Addr) (k : Sem PySem.Fin) : Sem PySem.Fin := do
  let x ← eval i1 env
  standAt i1.pos
  let x ← foldedSetIterable i1 env x
  let _ ← runOwn (.compStart e 1 (← holding [x] (pyIter x)) (.ref D) env) env
  k
def tIn (wi : TI) (g : TG) (tt : TT) (tb : PBod) (vs : List Nat) : PBod := fun τ H N => wi τ H fun J H1 => tLoop J g tt tb vs τ H1 N
section
variable {Y : Cx} {kx vx : Expr} {scope : Scope} {pos : Pos} {t0 i0 t1 i1 : Expr} {ifs0 ifs1 : List Expr} {it D : Addr} {vs vs1 : List Nat}
theorem turn_emit : TurnIs Y kx vx [⟨t0, i0, ifs0, 0⟩] scope pos i0.pos t0 ifs0 0 it D (bEmit kx vx Y.env D) := by unfold TurnIs bEmit; rfl
theorem turn_out : TurnIs Y kx vx [⟨t0, i0, ifs0, 0⟩, ⟨t1, i1, ifs1, 0⟩] scope pos i0.pos t0 ifs0 0 it D (bIn (.DictComp kx vx [⟨t0, i0, ifs0, 0⟩, ⟨t1, i1, ifs1, 0⟩] scope pos) i1 Y.env D) := by unfold TurnIs bIn; rfl
theorem turn_in : TurnIs Y kx vx [⟨t0, i0, ifs0, 0⟩, ⟨t1, i1, ifs1, 0⟩] scope pos i1.pos t1 ifs1 1 it D (bEmit kx vx Y.env D) := by unfold TurnIs bEmit; rfl
theorem pb_emit (hx : Y.xe = fun _ _ => False) {tk tv : TE} (pk : PE Y kx tk) (pv : PE Y vx tv) : PB Y vs (bEmit kx vx Y.env D) (tEmit Y.prog Y.w Y.A tk tv D) := by
  intro pn s τ H N k Q E I h fin
  have k1 := pk.run pn s τ H _ I h
  rw [hx] at k1
  refine wpAny_bind (wpAny_bind (thnF k1 fun u s1 ⟨y, H1, I1, r1, h1⟩ => ?_))
  have k2 := pv.run pn s1 τ H1 _ I1 h1
  rw [hx] at k2
  refine wpAny_bind (wpAny_holding (thnF k2 fun r s2 ⟨z, H2, I2, r2, h2⟩ => ?_))
  exact wpAny_bind (wpAny_standAt (wpAny_holding (h2 Y pn s2 τ u r _ _ rfl rfl rfl I2 r1 r2 fun s' H' I' n => fin s' τ H' I' rfl n)))
/-- the inner loop begins -/
theorem start_in {R : Result → Shared → Prop} {A : Around} {prog : Program} {w : World} {env : Env} {s : Shared} {itv : Value} (hl : codeAny (model prog w) A (.compLoop (.DictComp kx vx [⟨t0, i0, ifs0, 0⟩, ⟨t1, i1, ifs1, 0⟩] scope pos) 1 itv (.ref D) env) R s)
    (hi : wpAny (model prog w) A (pyIter itv) (fun x s' => codeAny (model prog w) A (.compLoop (.DictComp kx vx [⟨t0, i0, ifs0, 0⟩, ⟨t1, i1, ifs1, 0⟩] scope pos) 1 x (.ref D) env) R s') (notedBy (model prog w) A env fun x s' => R (.error x) s') s) :
    codeAny (model prog w) A (.compStart (.DictComp kx vx [⟨t0, i0, ifs0, 0⟩, ⟨t1, i1, ifs1, 0⟩] scope pos) 1 itv (.ref D) env) R s := by
  refine codeAny_of_tree ?_
  show wpAny _ _ ((compStart (.DictComp kx vx [⟨t0, i0, ifs0, 0⟩, ⟨t1, i1, ifs1, 0⟩] scope pos) 1 itv (.ref D) env).onRaise fun x => do noteFrame x env; standAt theWindowsPlace) _ _ s
  refine wpAny_notedAt ?_
  unfold compStart
  show wpAny _ _ (ask >>= _) _ _ s
  refine wpAny_bind (wpAny_askSetting (wpAny_ite ?_))
  split
  · first
      | exact wpAny_bind (wpAny_pure (wpAny_pure ⟨rfl, hl⟩))
      | exact wpAny_pure ⟨rfl, hl⟩
  · refine wpAny_bind (wpAny_rule ?_)
    first
      | exact wpAny_bind (wpAny_standAt (wpAny_bind (thn hi fun x s' h' => wpAny_pure ⟨rfl, h'⟩)))
      | (show wpAny _ _ (standAt i1.pos >>= _) _ _ s
         exact wpAny_bind (wpAny_standAt (wpAny_bind (thn hi fun x s' h' => wpAny_pure ⟨rfl, h'⟩))))
theorem pb_in (hx : Y.xe = fun _ _ => False) (hc : Y.calm = true) (hs : notSet i1 = true) (hv : ∀ i ∈ vs1, i ∈ vs) {wi : TI} {g : TG} {tt : TT} {tb : PBod} (pi : PI Y t1 i1 wi) (pg : PG Y t1 g) (pt : PTs Y ifs1 tt) (pb : PB Y vs1 (bEmit kx vx Y.env D) tb) :
    PB Y vs (bIn (.DictComp kx vx [⟨t0, i0, ifs0, 0⟩, ⟨t1, i1, ifs1, 0⟩] scope pos) i1 Y.env D) (tIn wi g tt tb vs1) := by
  intro pn s τ H N k Q E I h fin
  have k1 := pi.run pn s τ H _ I h
  rw [hx] at k1
  refine wpAny_bind (thnF k1 fun x s1 h1 => ?_)
  refine wpAny_bind (wpAny_standAt (wpAny_bind (wpAny_of_eq (folded_set hs x) (wpAny_bind (wpAny_holding (thnF h1 fun itv s2 h2 => ?_))))))
  obtain ⟨it, fp, tn, J, H2, rfl, I2, T, t2, f2, q⟩ := h2
  refine wpAny_bind (wpAny_runOwn ?_)
  rw [Around.mark_none]
  have lp := loop_run (turn_in (Y := Y) (kx := kx) (vx := vx) (scope := scope) (pos := pos) (t0 := t0) (i0 := i0) (t1 := t1) (i1 := i1) (ifs0 := ifs0) (ifs1 := ifs1) (it := it) (D := D)) hx hc pg pt pb T I2 t2 f2 q
    (R := fun r s' => match r with
      | .ok f => wpAny (model Y.prog Y.w) Y.A k Q E s'
      | .error e => cameBackBy (model Y.prog Y.w) Y.A Y.env E e s') fun s' H' I' n => fin s' _ H' I' (wipe_wipe hv τ) n
  exact start_in lp (T.self Y.A 0 _ _ _ t2 lp)
end
section
variable {X : Cx}
/-- a dict comprehension: the new dict at D -/
def tDcX (wi : TI) (g : TG) (tt : TT) (tb : Addr → PBod) (vs : List Nat) : TE := fun σ H Q => wi σ H fun J H1 => ∀ D, H1 D = none → tLoop J g tt (tb D) vs σ (upd H1 D (.dK [])) (Q (.ref D))
theorem dcx_core {pn : List (Addr × Obj)} {s : Shared} {σ : L2.St} {H : Hp} {Q : VK} {use : Option (Value → Sem Unit)} {Qf : Value → Shared → Prop} {pos' : Pos} {kx vx tg iter : Expr} {ifs : List Expr} {rest : List Comprehension} {scope : Scope} {own : List (Str × Nat)} {pos : Pos} {wi : TI} {g : TG} {tt : TT} {tb : Addr → PBod} {bod : Env → Addr → Sem PySem.Fin → Sem PySem.Fin} (hc : X.calm = true) (hN : X.N.Nodup) (hi : PI X tg iter wi) (ok : BlkOk X.N X.env.scope scope own) (hs : notSet iter = true)
    (hform : ∀ (Y : Cx) (it D : Addr), TurnIs Y kx vx (⟨tg, iter, ifs, 0⟩ :: rest) scope pos iter.pos tg ifs 0 it D (bod Y.env D))
    (hg : ∀ (s : Shared) (H : Hp) (c : Addr) (cl : List (Str × Addr)) (fp : List Addr), PG (X.blk s H scope (compEnvC scope cl c X.env) fp) tg g)
    (ht : ∀ (s : Shared) (H : Hp) (c : Addr) (cl : List (Str × Addr)) (fp : List Addr), PTs (X.blk s H scope (compEnvC scope cl c X.env) fp) ifs tt)
    (hb : ∀ (s : Shared) (H : Hp) (c : Addr) (cl : List (Str × Addr)) (fp : List Addr) (D : Addr), PB (X.blk s H scope (compEnvC scope cl c X.env) fp) (own.map (·.2)) (bod (compEnvC scope cl c X.env) D) (tb D))
    (I : Inv X pn σ H s) (h : tDcX wi g tt tb (own.map (·.2)) σ H Q)
    (hR : ∀ D c s' m H', Inv X pn σ H' s' → Q (.ref D) H' → s'.heap.Ns c m → FpOk X pn H' c → compPost (model X.prog X.w) X.A X.xe use Qf (.ref D) c (.ok .next) s') :
    wpAny (model X.prog X.w) X.A (comprehension (.DictComp kx vx (⟨tg, iter, ifs, 0⟩ :: rest) scope pos) scope X.env pos' newDict false (eval iter X.env) use) Qf X.xe s := by
  have caught : ∀ y ∈ scope.names, y.2 = .free → ∃ c, X.env.cells.lookup y.1 = some c := fun y hy e => (ok.free y hy e).elim (fun z => I.ok.has _ (.inl z)) fun z => I.ok.has _ (.inr z)
  refine wpAny_comprehension_free (use := use) rfl (folded_set hs) (closure_ok caught) ok.kind (fun y hy e => by rw [ok.uniq y hy, e]) (thn (hi.run pn s σ H _ I h) fun xv s1 hx => thn hx fun itv s2 h2 => ?_)
  obtain ⟨it, fp, tn, J, H2, rfl, I2, T, t2, f2, q⟩ := h2
  refine wpAny_newObj_type (newEnv_comp ?_)
  generalize hD : s2.heap.objs.size = D
  have nD : H2 D = none := I2.hok.fresh (Nat.le_of_eq hD)
  have q := q D nD
  -- the new dict stands
  have Iz : Inv X pn σ (upd H2 D (.dK [])) { s2 with heap := s2.heap.push { cls := .type "dict", data := .dict #[] } } := by
    refine I2.laid (t' := s2.toks) (fun b o e => Heap.get?_push_of_some _ e) (Nat.le_of_eq hD) ?_
    rw [← hD]
    exact dk_empty s2.heap I2.big
  have lt2 : ∀ b ∈ fp, b < s2.heap.objs.size := fun b hb => let ⟨o, e, _⟩ := T.obj _ _ t2 b hb; Heap.lt_size e
  have h3 : (s2.heap.push { cls := .type "dict", data := .dict #[] }).objs.size = s2.heap.objs.size + 1 := Heap.size_push _ _
  have tz : tn 0 (s2.heap.push { cls := .type "dict", data := .dict #[] }) := T.keep _ _ _ t2 fun b _ o e => Heap.get?_push_of_some _ e
  have fz : ∀ b ∈ fp, FpOk X pn (upd H2 D (.dK [])) b ∧ b < (s2.heap.push { cls := .type "dict", data := .dict #[] }).objs.size := fun b hb => by
    have l := lt2 b hb
    refine ⟨⟨?_, (f2 b hb).2⟩, by rw [h3]; exact Nat.lt_succ_of_lt l⟩
    rw [upd_ne (by rw [← hD]; exact Nat.ne_of_lt l)]
    exact (f2 b hb).1
  generalize hH : upd H2 D (.dK []) = Hz at Iz fz q
  generalize hsz : ({ s2 with heap := s2.heap.push { cls := .type "dict", data := .dict #[] } } : Shared) = sz at Iz ⊢
  have hh : sz.heap = s2.heap.push { cls := .type "dict", data := .dict #[] } := by rw [← hsz]
  rw [← hh] at tz fz
  have I4 := block_start Iz ok hN fz
  have pg := hg sz Hz sz.heap.objs.size (cellsFrom (sz.heap.objs.size + 1) scope.names (cloFrom X.env.cells scope.names [])) fp
  have pt := ht sz Hz sz.heap.objs.size (cellsFrom (sz.heap.objs.size + 1) scope.names (cloFrom X.env.cells scope.names [])) fp
  have pb := hb sz Hz sz.heap.objs.size (cellsFrom (sz.heap.objs.size + 1) scope.names (cloFrom X.env.cells scope.names [])) fp D
  show codeAny _ _ (.compStart (.DictComp kx vx (⟨tg, iter, ifs, 0⟩ :: rest) scope pos) 0 (.ref it) (.ref D) (compEnvC scope (cellsFrom (sz.heap.objs.size + 1) scope.names (cloFrom X.env.cells scope.names [])) sz.heap.objs.size X.env)) (compPost (model X.prog X.w) X.A X.xe use Qf (.ref D) sz.heap.objs.size) { sz with heap := pushCells (sz.heap.push { cls := .type "dict", data := .dict #[] }) scope.names }
  generalize hce : compEnvC scope (cellsFrom (sz.heap.objs.size + 1) scope.names (cloFrom X.env.cells scope.names [])) sz.heap.objs.size X.env = ce at I4 pg pt pb ⊢
  have cL : ce.locals = sz.heap.objs.size := by subst hce; rfl
  generalize hs4 : ({ sz with heap := pushCells (sz.heap.push { cls := .type "dict", data := .dict #[] }) scope.names } : Shared) = s4 at I4 ⊢
  have t4 : tn 0 s4.heap := T.keep _ _ _ tz fun b _ o e => by rw [← hs4]; exact pushCells_keeps _ _ _ _ (Heap.get?_push_of_some _ e)
  have f4 : ∀ b ∈ fp, FpOk (X.blk sz Hz scope ce fp) [] Hz b := fun b hb =>
    ⟨(fz b hb).1.1, (I4.ok.exf b hb).1, I4.ok.exfs b hb, .inl hb, fun x c e => (I4.ok.exf b hb).2 x c e, fun p hp => by cases hp⟩
  have I5 : Inv (X.blk sz Hz scope ce fp) [] (L2.wipe σ (own.map (·.2))) Hz s4 := I4
  have q2 : tLoop J g tt (tb D) (own.map (·.2)) (L2.wipe σ (own.map (·.2))) Hz (Q (.ref D)) := by
    unfold tLoop at q ⊢
    rw [wipe_wipe fun i hi => hi]
    exact q
  have lp : codeAny (model X.prog X.w) X.A (.compLoop (.DictComp kx vx (⟨tg, iter, ifs, 0⟩ :: rest) scope pos) 0 (.ref it) (.ref D) ce) (compPost (model X.prog X.w) X.A X.xe use Qf (.ref D) sz.heap.objs.size) s4 := by
    refine loop_run (Y := X.blk sz Hz scope ce fp) (hform _ it D) rfl hc pg pt pb T I5 t4 f4 q2 fun s' H' I' n => ?_
    have I7 : Inv X pn σ H' s' := Iz.call' (ch := fp) I'.os I'.base I'.hok I'.bare fun b hb => ⟨(fz b hb).1.2.2.2.1, (fz b hb).1.2.1, (fz b hb).1.2.2.2.2.1, (fz b hb).1.2.2.2.2.2⟩
    have nC : H' sz.heap.objs.size = none := by
      have z : H' ce.locals = none := I'.free
      rwa [cL] at z
    obtain ⟨m, hn, _⟩ := I'.loc
    have hn : s'.heap.Ns ce.locals m := hn
    rw [cL] at hn
    exact hR D sz.heap.objs.size s' m H' I7 n hn (Iz.fpOk (Nat.le_refl _) nC)
  exact codeAny_compStart_dict lp (T.self X.A 0 _ _ _ t4 lp)
theorem pe_dcx {kx vx tg iter : Expr} {ifs : List Expr} {rest : List Comprehension} {scope : Scope} {own : List (Str × Nat)} {pos : Pos} {wi : TI} {g : TG} {tt : TT} {tb : Addr → PBod} {bod : Env → Addr → Sem PySem.Fin → Sem PySem.Fin} (hc : X.calm = true) (hN : X.N.Nodup) (hi : PI X tg iter wi) (ok : BlkOk X.N X.env.scope scope own) (hs : notSet iter = true)
    (hform : ∀ (Y : Cx) (it D : Addr), TurnIs Y kx vx (⟨tg, iter, ifs, 0⟩ :: rest) scope pos iter.pos tg ifs 0 it D (bod Y.env D))
    (hg : ∀ (s : Shared) (H : Hp) (c : Addr) (cl : List (Str × Addr)) (fp : List Addr), PG (X.blk s H scope (compEnvC scope cl c X.env) fp) tg g)
    (ht : ∀ (s : Shared) (H : Hp) (c : Addr) (cl : List (Str × Addr)) (fp : List Addr), PTs (X.blk s H scope (compEnvC scope cl c X.env) fp) ifs tt)
    (hb : ∀ (s : Shared) (H : Hp) (c : Addr) (cl : List (Str × Addr)) (fp : List Addr) (D : Addr), PB (X.blk s H scope (compEnvC scope cl c X.env) fp) (own.map (·.2)) (bod (compEnvC scope cl c X.env) D) (tb D)) :
    PE X (.DictComp kx vx (⟨tg, iter, ifs, 0⟩ :: rest) scope pos) (tDcX wi g tt tb (own.map (·.2))) := by
  refine ⟨fun pn s σ H Q I h => ?_⟩
  rw [arm_eval_DictComp]
  refine dcx_core hc hN hi ok hs hform hg ht hb I h fun D c s' m H' I' n hn f => ⟨m, hn, fun h'' sb => ?_⟩
  obtain ⟨g0, g1, g2, g3, g4, g5⟩ := f
  exact ⟨.ref D, H', I'.turned (t' := s'.toks) (fun b o hb e => (sb.2 b hb).trans e) g0 g1 g3 g4 g5, rfl, n⟩
/-- name = {..}: the name gets it ahead of the block's end -/
theorem ps_setDcx {i : Nat} {y : Str} {py spos : Pos} {kx vx tg iter : Expr} {ifs : List Expr} {rest : List Comprehension} {scope : Scope} {own : List (Str × Nat)} {pos : Pos} {wi : TI} {g : TG} {tt : TT} {tb : Addr → PBod} {bod : Env → Addr → Sem PySem.Fin → Sem PySem.Fin} (hc : X.calm = true) (hN : X.N.Nodup) (hi : PI X tg iter wi) (ok : BlkOk X.N X.env.scope scope own) (hs : notSet iter = true)
    (hform : ∀ (Y : Cx) (it D : Addr), TurnIs Y kx vx (⟨tg, iter, ifs, 0⟩ :: rest) scope pos iter.pos tg ifs 0 it D (bod Y.env D))
    (hg : ∀ (s : Shared) (H : Hp) (c : Addr) (cl : List (Str × Addr)) (fp : List Addr), PG (X.blk s H scope (compEnvC scope cl c X.env) fp) tg g)
    (ht : ∀ (s : Shared) (H : Hp) (c : Addr) (cl : List (Str × Addr)) (fp : List Addr), PTs (X.blk s H scope (compEnvC scope cl c X.env) fp) ifs tt)
    (hb : ∀ (s : Shared) (H : Hp) (c : Addr) (cl : List (Str × Addr)) (fp : List Addr) (D : Addr), PB (X.blk s H scope (compEnvC scope cl c X.env) fp) (own.map (·.2)) (bod (compEnvC scope cl c X.env) D) (tb D))
    (hy : X.N[i]? = some y) (hl : X.env.scope.names.lookup y = some .local) (hsw : swapsWith (.DictComp kx vx (⟨tg, iter, ifs, 0⟩ :: rest) scope pos) (some (.Name y py)) spos.line X.env = pure true) :
    PS X (.Assign [.Name y py] (.DictComp kx vx (⟨tg, iter, ifs, 0⟩ :: rest) scope pos) spos) (tAsg (tDcX wi g tt tb (own.map (·.2))) (gName i)) := by
  refine ⟨fun pn s σ H D I h => ?_⟩
  rw [exec_Assign_Name_used _ _ _ _ hsw]
  refine wpAny_bind (wpAny_standAt (wpAny_bind ?_))
  have h : tDcX wi g tt tb (own.map (·.2)) σ H (fun x H1 => gName i x σ H1 D.nx) := h
  show wpAny _ X.A (do let _ ← comprehension (.DictComp kx vx (⟨tg, iter, ifs, 0⟩ :: rest) scope pos) scope X.env (firstIterPos (⟨tg, iter, ifs, 0⟩ :: rest) pos) newDict false (eval iter X.env) (some (assign (.Name y py) X.env))) _ _ s
  refine wpAny_bind (thn (dcx_core (Qf := fun _ s' => SP X pn D .next s') hc hN hi ok hs hform hg ht hb I h fun L c s' m H' I' q hn f => ?_) fun _ s' hq => wpAny_pure (wpAny_pure hq))
  show wpAny _ _ (assign (.Name y py) X.env (.ref L)) _ _ _
  obtain ⟨g0, g1, g2, g3, g4, g5⟩ := f
  refine wpAny_assign_Name (store_ok2 (v := V.ref L) I' hN hy (.inl hl) rfl (fun s2 I2 ⟨a, sb, ha⟩ => ?_) (.inr hl))
  have nca : c ≠ a := ha.elim (fun z => by rw [z]; exact g1) fun z e => g4 y a z e.symm
  exact ⟨m, hn.sameBut sb nca, fun h3 sb3 => ⟨_, H', I2.turned (t' := s2.toks) (fun b o hb e => (sb3.2 b hb).trans e) g0 g1 g3 g4 g5, q⟩⟩
end
end Ev

set_option Elab.async false
set_option linter.all false
set_option maxRecDepth 100000
set_option maxHeartbeats 1000000
namespace Ev
open PySem PySem.Spec PyProof.Rows L2

/-! ### a dict is written -/
def putR {κ α : Type} [DecidableEq κ] : List (κ × α) → κ → α → List (κ × α)
  | [], k, v => [(k, v)]
  | p :: r, k, v => if p.1 = k then (p.1, v) :: r else p :: putR r k v
theorem putK_eq {κ : Type} [DecidableEq κ] {k : κ} {v : V} : ∀ {l : List (κ × V)}, (l.map (·.1)).Nodup → L2.putK l k v = putR l k v := by
  have old : ∀ {l : List (κ × V)}, k ∉ l.map (·.1) → l.map (fun kv => if kv.1 = k then (kv.1, v) else kv) = l := fun {l} h => by
    induction l with
    | nil => rfl
    | cons p l ih =>
      rw [List.map_cons, List.mem_cons, not_or] at h
      rw [List.map_cons, if_neg (fun z => h.1 z.symm), ih h.2]
  intro l
  induction l with
  | nil => intro _; simp [L2.putK, putR]
  | cons p l ih =>
    intro h
    rw [List.map_cons, List.nodup_cons] at h
    by_cases e : p.1 = k
    · have : L2.putK (p :: l) k v = (p :: l).map fun kv => if kv.1 = k then (kv.1, v) else kv := by simp [L2.putK, e]
      rw [this, List.map_cons, if_pos e, putR, if_pos e, old (by rw [← e]; exact h.1)]
    · rw [putR, if_neg e, ← ih h.2]
      unfold L2.putK
      rw [List.any_cons, decide_eq_false e, Bool.false_or]
      split
      · rw [List.map_cons, if_neg e]
      · rfl
def putH {K : Type} [DecidableEq K] : List (K × Addr × Value) → K → Addr → Value → List (K × Addr × Value)
  | [], k, a, v => [(k, a, v)]
  | p :: r, k, a, v => if p.1 = k then (p.1, p.2.1, v) :: r else p :: putH r k a v
theorem storedH_eq {K : Type} [DecidableEq K] {k : K} {a : Addr} {v : Value} : ∀ {l : List (K × Addr × Value)}, (l.map (·.1)).Nodup → storedH l k a v = putH l k a v := by
  have old : ∀ {l : List (K × Addr × Value)}, k ∉ l.map (·.1) → l.map (putAt k v) = l := fun {l} h => by
    induction l with
    | nil => rfl
    | cons p l ih =>
      rw [List.map_cons, List.mem_cons, not_or] at h
      rw [List.map_cons, putAt, if_neg (fun z => h.1 z.symm), ih h.2]
  intro l
  induction l with
  | nil => intro _; simp [storedH, putH, atKey]
  | cons p l ih =>
    intro h
    rw [List.map_cons, List.nodup_cons] at h
    by_cases e : p.1 = k
    · have : storedH (p :: l) k a v = (p :: l).map (putAt k v) := by simp [storedH, atKey, e]
      rw [this, List.map_cons, putAt, if_pos e, putH, if_pos e, old (by rw [← e]; exact h.1)]
    · rw [putH, if_neg e, ← ih h.2]
      have q : atKey (p :: l) k = atKey l k := by simp [atKey, e]
      unfold storedH
      rw [q]
      split
      · rw [List.map_cons, putAt, if_neg e]
      · rfl
section
variable {C : Gc} {X : Cx} {pins : List (Addr × Obj)} {σ : L2.St} {H : Hp} {s : Shared}
theorem fd_put {k z : P} {κ : Key} {v : V} (hk : keyP k = some κ) (rz : RP C H z v) : ∀ {ks vs : List P} {kvs : List (Key × V)}, Paired RK ks (kvs.map (·.1)) → RPs C H vs (kvs.map (·.2)) →
    Paired RK (dputK ks k) ((putR kvs κ v).map (·.1)) ∧ RPs C H (dputV ks vs k z) ((putR kvs κ v).map (·.2))
  | [], vs, kvs, e, rv => by
    cases kvs with
    | cons p r => cases e
    | nil =>
      have : vs = [] := by have := rv.length; simpa using this
      subst this
      have rk : RK k κ := by cases k <;> first | (cases hk; rfl) | cases hk
      exact ⟨.cons rk .nil, .cons rz .nil⟩
  | k' :: ks, vs, [], e, rv => by cases e
  | k' :: ks, vs, p :: kvs, e, rv => by
    cases e with
    | cons q1 q2 =>
      rw [List.map_cons] at rv
      cases vs with
      | nil => exact absurd rv.length (by simp)
      | cons y vs =>
        obtain ⟨v', w', e1, h1, h2⟩ := rv.of_cons
        obtain ⟨rfl, rfl⟩ := List.cons.inj e1
        rw [dputK, dputV, putR]
        by_cases hb : P.beq k' k = true
        · have : k' = k := P.eq_of_beq _ _ hb
          subst this
          have e2 := q1.key
          rw [hk] at e2
          have e2 : κ = p.1 := Option.some.inj e2
          rw [if_pos hb, if_pos hb, if_pos e2.symm]
          exact ⟨.cons q1 q2, .cons rz h2⟩
        · have hne : ¬ p.1 = κ := fun z => by
            have e2 : keyP k' = some p.1 := q1.key
            rw [z] at e2
            exact hb (by rw [keyP_inj e2 hk]; exact P.beq_self _)
          obtain ⟨a1, a2⟩ := fd_put hk rz q2 h2
          rw [if_neg hb, if_neg hb, if_neg hne]
          exact ⟨.cons q1 a1, .cons h1 a2⟩
theorem xd_put {k z : P} {κ : NestedKey} {b : Addr} {v : V} {w : Value} (hk : nk k = some κ) (rk : RP C H k (.ref b)) (rz : RP C H z v) (rw' : RelV v w) : ∀ {ks vs : List P} {xs : List (NestedKey × Addr × Value)} {ws : List V}, nks ks = some (xs.map (·.1)) → Vals ws (xs.map (·.2.2)) → RPs C H vs ws → RPs C H ks (xs.map fun x => .ref x.2.1) →
    ∃ ws', nks (dputK ks k) = some ((putH xs κ b w).map (·.1)) ∧ Vals ws' ((putH xs κ b w).map (·.2.2)) ∧ RPs C H (dputV ks vs k z) ws' ∧ RPs C H (dputK ks k) ((putH xs κ b w).map fun x => .ref x.2.1)
  | [], vs, xs, ws, e, hv, rv, rks => by
    have : xs = [] := by have e' := Option.some.inj e; simpa using e'.symm
    subst this
    have : ws = [] := by cases hv; rfl
    subst this
    have : vs = [] := by have := rv.length; simpa using this
    subst this
    exact ⟨[v], by rw [dputK, nks, hk]; rfl, .cons rw' .nil, .cons rz .nil, .cons rk .nil⟩
  | k' :: ks, vs, [], ws, e, hv, rv, rks => by
    have := nks_len e
    simp at this
  | k' :: ks, vs, y :: xs, ws, e, hv, rv, rks => by
    rw [List.map_cons] at hv rks
    cases hv with
    | @cons v1 _ ws _ r1 r2 =>
      cases vs with
      | nil => exact absurd rv.length (by simp)
      | cons z1 vs =>
        obtain ⟨v', w', e1, h1, h2⟩ := rv.of_cons
        obtain ⟨rfl, rfl⟩ := List.cons.inj e1
        obtain ⟨v'', w'', e1, g1, g2⟩ := rks.of_cons
        obtain ⟨rfl, rfl⟩ := List.cons.inj e1
        rw [nks] at e
        split at e
        · rename_i κ' q1
          split at e
          · rename_i κs q2
            rw [List.map_cons] at e
            obtain ⟨e4, e5⟩ := List.cons.inj (Option.some.inj e)
            rw [dputK, dputV, putH]
            by_cases hb : P.beq k' k = true
            · have : k' = k := P.eq_of_beq _ _ hb
              subst this
              rw [q1] at hk
              cases hk
              rw [if_pos hb, if_pos hb, if_pos e4.symm]
              exact ⟨v :: ws, by rw [nks, q1, q2, e5, ← e4]; rfl, .cons rw' r2, .cons rz h2, .cons g1 g2⟩
            · have hne : ¬ y.1 = κ := fun z => by
                rw [← e4] at z
                subst z
                exact hb (by rw [nk_inj _ _ _ q1 hk]; exact P.beq_self _)
              obtain ⟨ws', a1, a2, a3, a4⟩ := xd_put hk rk rz rw' (ks := ks) (xs := xs) (by rw [q2, e5]) r2 h2 g2
              rw [if_neg hb, if_neg hb, if_neg hne]
              exact ⟨v1 :: ws', by rw [nks, q1, a1, List.map_cons, ← e4], .cons r1 a2, .cons h1 a3, .cons g1 a4⟩
          · cases e
        · cases e
theorem are_put {k : P} (hk : P.isKey 8 k = true) : ∀ {ks : List P}, P.areKeys 8 ks = true → P.areKeys 8 (dputK ks k) = true
  | [], _ => by rw [dputK, P.areKeys, hk]; rfl
  | k' :: ks, h => by
    rw [P.areKeys, Bool.and_eq_true] at h
    rw [dputK]
    split
    · rw [P.areKeys, h.1, h.2]; rfl
    · rw [P.areKeys, h.1, are_put hk h.2]; rfl
theorem putH_len {K : Type} [DecidableEq K] {k : K} {a : Addr} {v : Value} : ∀ {l : List (K × Addr × Value)}, (putH l k a v).length ≤ l.length + 1
  | [] => Nat.le_refl _
  | p :: l => by
    rw [putH]
    split
    · simp
    · have := putH_len (k := k) (a := a) (v := v) (l := l)
      simp; omega
theorem dputK_ne {ks : List P} {k : P} : dputK ks k ≠ [] := by
  cases ks with
  | nil => simp [dputK]
  | cons k' ks =>
    rw [dputK]
    split <;> simp
theorem dct_write (hP : X.prog = C.P) (hw : X.w = C.w) (hu : X.A.units + 65 < cLine) (I : Inv X pins σ H s) {D : Addr} {u : HO} {ks vs : List P} (hD : H D = some u) (r : RDc C H D ks vs u) {k z : P} {y v : V} {uv rv : Value} (hk : keyOk ks k = true) (hz : ks.length < big) (ry : RP C H k y) (ru : RelV y uv) (rz : RP C H z v) (rr : RelV v rv) :
    ∃ u', Mut (some u') ∧ RDc C H D (dputK ks k) (dputV ks vs k z) u' ∧
      (∀ (Q : Unit → Shared → Prop) (E : Value → Shared → Prop), (∀ s', Inv X pins σ (upd H D u') s' → Q () s') → wpAny (model X.prog X.w) X.A (dictSet D uv rv) Q E s) ∧
      (∀ (Q : Unit → Shared → Prop), (∀ s', Inv X pins σ (upd H D u') s' → Q () s') → wpAny (model X.prog X.w) X.A (setItem (.ref D) uv rv) Q X.xe s) := by
  have hz' : ks.length < sizeLine := by rw [← big_line]; exact hz
  rcases kind_of hk with ⟨κ, hκ, hf⟩ | ⟨l, rfl, hf⟩
  · obtain ⟨kvs, rfl, e1, e2⟩ := flat_of r hf
    have ey := keyP_V hκ ry
    subst ey
    obtain ⟨z0, hs, vs', rel, dd⟩ := dk_of I.hok hD
    have hn : (kvs.map (·.1)).Nodup := by
      rw [rel.keys]
      obtain ⟨_, _, _, _, _, _, _, _, n⟩ := dd
      exact n
    have ln : kvs.length < sizeLine := by
      have := pairedRK_len e1
      rw [List.length_map] at this
      omega
    obtain ⟨a1, a2⟩ := fd_put hκ rz e1 e2
    rw [← putK_eq hn] at a1 a2
    exact ⟨.dK (L2.putK kvs κ v), trivial, .inl ⟨_, rfl, a1, a2⟩, fun Q E h => d_dictSet I hD ln ru rr h, fun Q h => d_setItem (by omega) I (.inl ⟨kvs, κ, hD, rfl, ln, rfl⟩) ru rr h⟩
  · obtain ⟨xs, ws, Dx⟩ := xd_of I hP hw (.inl hD) r (by rcases hf with h | ⟨m, r, h⟩; exact .inl h; exact .inr ⟨m, r, h⟩)
    have hk8 : P.isKey 8 (.tup l) = true := by unfold keyOk at hk; rw [Bool.and_eq_true] at hk; exact hk.2
    obtain ⟨κ, e1, d1⟩ := nk_some 8 _ hk8
    obtain ⟨b, ys, rfl, eb, rl⟩ := RP.tup_iff.mp ry
    cases ru
    have ki : (nestedKind C.P C.w).is s.heap κ b := ⟨nis I _ _ _ _ ry rfl e1, d1⟩
    have hn : (xs.map (·.1)).Nodup := by
      obtain ⟨_, _, _, _, _, _, _, _, n⟩ := Dx.dict
      exact n
    obtain ⟨ws', b1, b2, b3, b4⟩ := xd_put e1 ry rz rr Dx.keys Dx.vals Dx.rv Dx.rk
    have lx : xs.length < sizeLine := by
      have := nks_len Dx.keys
      rw [List.length_map] at this
      omega
    have mu : Mut (H D) := by
      rw [hD]
      rcases r with ⟨kvs, rfl, _⟩ | ⟨_, _, _, rfl, _⟩ <;> trivial
    have nx : ∀ (t : Nat) (h' : Heap), h'.DictOfH (nestedKind C.P C.w) D (storedH xs κ b rv) → Heap.SameBut D s.heap h' → Inv X pins σ (upd H D (DX C D (putH xs κ b rv))) { s with heap := h', toks := t } := fun t h' dd sb => by
      rw [storedH_eq hn] at dd
      obtain ⟨o, es, ep, q1, q2, q3, q4, q5, q6⟩ := dd
      exact d_write I mu sb ⟨o, q1⟩ ⟨⟨o, es, ep, q1, q2, q3, q4⟩, ⟨o, q1⟩, fun h1 h2 ⟨o, es, ep, p1, p2⟩ st => ⟨o, es, ep, st o p1, p2⟩⟩
    have nd : ((putH xs κ b rv).map (·.1)).Nodup := by
      have go : ∀ {l : List (NestedKey × Addr × Value)}, (l.map (·.1)).Nodup → ((putH l κ b rv).map (·.1)).Nodup ∧ ∀ q, q ∈ (putH l κ b rv).map (·.1) → q = κ ∨ q ∈ l.map (·.1) := by
        intro l
        induction l with
        | nil => intro _; simp [putH]
        | cons p l ih =>
          intro h
          have h' := h
          rw [List.map_cons, List.nodup_cons] at h
          rw [putH]
          by_cases e : p.1 = κ
          · rw [if_pos e]
            exact ⟨h', fun q hq => .inr hq⟩
          · rw [if_neg e]
            obtain ⟨i1, i2⟩ := ih h.2
            refine ⟨?_, fun q hq => ?_⟩
            · rw [List.map_cons, List.nodup_cons]
              exact ⟨fun z => (i2 _ z).elim e h.1, i1⟩
            · rw [List.map_cons, List.mem_cons] at hq ⊢
              rcases hq with hq | hq
              · exact .inr (.inl hq)
              · exact (i2 q hq).imp id .inr
      exact (go hn).1
    refine ⟨DX C D (putH xs κ b rv), trivial, .inr ⟨_, ws', dputK_ne, rfl, Nat.le_trans putH_len lx, Dx.nsys, nd, b2, b1, are_put hk8 Dx.are, b4, b3⟩, fun Q E h => ?_, fun Q h => ?_⟩
    · have room : (nestedKind C.P C.w).room X.A := by show X.A.units + 8 < cLine; omega
      rw [hP, hw]
      exact wpAny_dictSet_heap room ki Dx.dict (fun h' dd sb => h _ (nx _ h' dd sb)) (Nat.le_of_lt lx)
    · have room : (nestedKind C.P C.w).room X.A.in1 := by show X.A.units + 1 + 8 < cLine; omega
      rw [hP, hw]
      exact wpAny_setItem_heap room ki Dx.dict (fun h' dd sb => h _ (nx _ h' dd sb)) (Nat.le_of_lt lx)
end
end Ev

set_option Elab.async false
set_option linter.all false
set_option maxRecDepth 100000
set_option maxHeartbeats 1000000
namespace Ev
open PySem PySem.Spec PyProof.Rows L2

/-- a row of turns, each by f -/
inductive Go (f : P → Ob → St → Ob → St → Prop) : List P → Ob → St → Ob → St → Prop
  | nil {a : Ob} {s : St} : Go f [] a s a s
  | cons {x : P} {l : List P} {a b c : Ob} {s s1 s2 : St} : f x a s b s1 → Go f l b s1 c s2 → Go f (x :: l) a s c s2
theorem Go.fits {f : P → Ob → St → Ob → St → Prop} {ft : Ob → Prop} (m : ∀ x a s b s1, f x a s b s1 → ft b → ft a) : ∀ {l : List P} {a b : Ob} {s s' : St}, Go f l a s b s' → ft b → ft a
  | _, _, _, _, _, .nil, h => h
  | _, _, _, _, _, .cons h t, q => m _ _ _ _ _ h (Go.fits m t q)
section
variable {C : Gc} {M : Md} {F : Fr} {cf : Cf} {k : Nat} {W : XW} {X : Cx}
theorem loop_go {J : It} {tg : G} {tt : TT} {tb : PBod} {vs : List Nat} {σ : L2.St} {μ1 : List Addr} {H1 : Hp} {D : Addr} {Q : Hp → Prop} {l : List P} {f : P → Ob → St → Ob → St → Prop} {ft : Ob → Prop} (fm : ∀ x a s b s1, f x a s b s1 → ft b → ft a)
    (hst : ∀ x a s a1 s1 μ H u v (N : Hp → Prop), f x a s a1 s1 → ft a1 → LS C μ1 H1 D a μ s H u → RP C H x v → (∀ μ' H' u', LS C μ1 H1 D a1 μ' s1 H' u' → N H') →
      gRd C tg v (L2.wipe σ vs) H fun σ2 H2 => L2.wipe σ2 vs = L2.wipe σ vs ∧ tt σ2 H2 fun b H3 => if b = true then tb σ2 H3 N else N H3)
    (hJ : Yields C J l H1) {a a' : Ob} {st st' : St} {μ : List Addr} {H : Hp} {u : HO} (L : LS C μ1 H1 D a μ st H u) (g : Go f l a st a' st') (hf : ft a') (hQ : ∀ μ' H' u', LS C μ1 H1 D a' μ' st' H' u' → Q H') :
    tLoop J (gRd C tg) tt tb vs σ H Q := by
  refine ⟨fun i m H => m = l.length - i ∧ i ≤ l.length ∧ ∃ a μ st u, LS C μ1 H1 D a μ st H u ∧ Go f (l.drop i) a st a' st', ⟨l.length, by simp, Nat.zero_le _, a, μ, st, u, L, by rw [List.drop_zero]; exact g⟩, ?_⟩
  rintro i m H ⟨rfl, hi, a, μ, st, u, L, g⟩
  obtain ⟨y1, y2⟩ := hJ H L.keep1
  by_cases hlt : i < l.length
  · obtain ⟨x, hx, hd⟩ := drop_at hlt
    rw [hd] at g
    obtain ⟨go, y3⟩ := y2 i x hx
    cases g with
    | cons g1 g2 =>
      refine .inr ⟨go, fun H' => i + 1 ≤ l.length ∧ ∃ a μ st u, LS C μ1 H1 D a μ st H' u ∧ Go f (l.drop (i + 1)) a st a' st', fun H' q => ⟨l.length - (i + 1), by omega, rfl, q⟩, fun v H' hy => ?_⟩
      obtain ⟨sm, rx⟩ := y3 v H' hy
      exact hst x _ _ _ _ μ H' u v _ g1 (g2.fits fm hf) (L.same sm) rx fun μ' H'' u' L' => ⟨hlt, _, μ', _, u', L', g2⟩
  · have e0 : i = l.length := by omega
    subst e0
    rw [List.drop_length] at g
    cases g
    exact .inl ⟨y1 _ (Nat.le_refl _), hQ _ _ _ L⟩
/-- nothing but the object that is made has changed its base -/
theorem LS.base {μ1 μ : List Addr} {H1 H : Hp} {D : Addr} {ob : Ob} {st : St} {u : HO} (L : LS C μ1 H1 D ob μ st H u) : LS C μ (del H D) D ob μ st H u := ⟨L.at_, L.mu, L.nc, L.ob, Nx.refl _ _, L.wd, L.nm⟩
theorem LS.rebase {μ1 μa μ : List Addr} {H1 Ha H : Hp} {D : Addr} {ob : Ob} {st : St} {u : HO} (L : LS C μa Ha D ob μ st H u) (n : Nx μ1 H1 μa Ha) : LS C μ1 H1 D ob μ st H u := ⟨L.at_, L.mu, L.nc, L.ob, n.trans L.nx, L.wd, L.nm⟩
theorem REn.kp {μ : List Addr} {H H' : Hp} {r : En} {σ : L2.St} (h : REn C H μ r σ) (kk : Keep H H') : REn C H' μ r σ := ⟨h.len, fun i d e => by
  obtain ⟨v, q, x⟩ := h.at_ i d e
  refine ⟨v, q, ?_⟩
  cases d with
  | p y => exact RP.keep kk _ _ x
  | obj n => exact x⟩
/-! ### [elt for .. for ..] -/
def lstOk : Ob → Prop
  | .lst l => l.length ≤ sizeLine
  | _ => True
/-- one turn of a list comprehension -/
def lTurn (f : P → St → R (List P)) : P → Ob → St → Ob → St → Prop := fun x a s b s1 => ∃ l o, a = .lst l ∧ f x s = .ok o s1 ∧ b = .lst (l ++ o)
theorem lTurn_fits {f : P → St → R (List P)} : ∀ x a s b s1, lTurn f x a s b s1 → lstOk b → lstOk a := by
  rintro x a s b s1 ⟨l, o, rfl, _, rfl⟩ h
  have h : (l ++ o).length ≤ sizeLine := h
  rw [List.length_append] at h
  show l.length ≤ sizeLine
  omega
theorem compGo_go {f : P → St → R (List P)} : ∀ {l : List P} {s s' : St} {out acc : List P}, compGo f l s = .ok out s' → Go (lTurn f) l (.lst acc) s (.lst (acc ++ out)) s'
  | [], s, s', out, acc, h => by
    cases h
    rw [List.append_nil]; exact .nil
  | x :: l, s, s', out, acc, h => by
    obtain ⟨o, s1, m, h1, h2, rfl⟩ := compGo_ok h
    rw [← List.append_assoc]
    exact .cons ⟨acc, o, rfl, h1, rfl⟩ (compGo_go h2)
def tbL (te : TE) (D : Addr) : PBod := fun σ2 H3 N => te σ2 H3 fun y H4 => ∃ acc, H4 D = some (.lst acc) ∧ acc.length < sizeLine ∧ N (upd H4 D (.lst (acc ++ [y])))
/-- one turn of the inner clause -/
theorem item2 {vs : List Nat} {tg : G} {ifs : To} {elt : E} {r : En} {σ : L2.St} {μ1 : List Addr} {H1 : Hp} {D : Addr} (hsl : ∀ i ∈ tg.slots, i ∈ vs) (hr1 : REn C H1 μ1 r σ) : ∀ x a s a1 s1 μ H u v (N : Hp → Prop), lTurn (compF cf vs tg ifs elt r) x a s a1 s1 → lstOk a1 → LS C μ1 H1 D a μ s H u → RP C H x v → (∀ μ' H' u', LS C μ1 H1 D a1 μ' s1 H' u' → N H') →
      gRd C tg v (L2.wipe σ vs) H fun σ2 H2 => L2.wipe σ2 vs = L2.wipe σ vs ∧ rdT C WF (evTo cf ifs) σ2 H2 fun b H3 => if b = true then tbL (rdE C WF (evE cf elt)) D σ2 H3 N else N H3 := by
  rintro x a s a1 s1 μ H u v N ⟨l, o, rfl, h1, rfl⟩ hz L rx hN
  have hz : (l ++ o).length ≤ sizeLine := hz
  rw [List.length_append] at hz
  exact item_rd hsl L hr1 rx h1 hz hN
def comp2F (cf : Cf) (vs : List Nat) (tg : G) (ifs : To) (vs1 : List Nat) (tg1 : G) (it1 : I) (ifs1 : To) (elt : E) (r : En) : P → St → R (List P) := fun x s2 => match asgG tg x (wipeE r vs) with
  | some r1 => (R.noexc (evTo cf ifs r1 s2)).bind fun c s3 => if c then (R.noexc (evI cf it1 r1 s3)).bind fun ys s4 => compGo (compF cf vs1 tg1 ifs1 elt r1) ys s4 else .ok [] s3
  | none => .bad
theorem evL_comp2 {vs : List Nat} {tg : G} {it : I} {ifs : To} {vs1 : List Nat} {tg1 : G} {it1 : I} {ifs1 : To} {elt : E} {r : En} {s : St} :
    evL cf (.comp2 vs tg it ifs vs1 tg1 it1 ifs1 elt) r s = ((evI cf it r s).bind fun xs s1 => compGo (comp2F cf vs tg ifs vs1 tg1 it1 ifs1 elt r) xs s1).bind fun l s2 => if decide (l.length ≤ big) then .ok l s2 else .bad := by
  rw [evL]; rfl
theorem comp2F_nox {vs : List Nat} {tg : G} {ifs : To} {vs1 : List Nat} {tg1 : G} {it1 : I} {ifs1 : To} {elt : E} {r : En} (x : P) (s : St) : NoX (comp2F cf vs tg ifs vs1 tg1 it1 ifs1 elt r x s) := by
  unfold comp2F
  split
  · refine (nox_no _).bind fun c s3 => ?_
    cases c with
    | true =>
      rw [if_pos rfl]
      exact (nox_no _).bind fun d s4 => compGo_nox (fun x s => compF_nox x s) _ _
    | false => rw [if_neg Bool.false_ne_true]; exact .ok
  · exact .bad
theorem comp2F_ok {vs : List Nat} {tg : G} {ifs : To} {vs1 : List Nat} {tg1 : G} {it1 : I} {ifs1 : To} {elt : E} {r : En} {x : P} {s s' : St} {o : List P} (h : comp2F cf vs tg ifs vs1 tg1 it1 ifs1 elt r x s = .ok o s') :
    ∃ r1 c s3, asgG tg x (wipeE r vs) = some r1 ∧ evTo cf ifs r1 s = .ok c s3 ∧ ((c = true ∧ ∃ ys s4, evI cf it1 r1 s3 = .ok ys s4 ∧ compGo (compF cf vs1 tg1 ifs1 elt r1) ys s4 = .ok o s') ∨ (c = false ∧ o = [] ∧ s' = s3)) := by
  unfold comp2F at h
  split at h
  · rename_i r1 e1
    obtain ⟨c, s3, h1, h2⟩ := bind_ok h
    refine ⟨r1, c, s3, e1, noexc_ok h1, ?_⟩
    cases c with
    | true =>
      rw [if_pos rfl] at h2
      obtain ⟨ys, s4, h3, h4⟩ := bind_ok h2
      exact .inl ⟨rfl, ys, s4, noexc_ok h3, h4⟩
    | false =>
      rw [if_neg Bool.false_ne_true] at h2
      cases h2
      exact .inr ⟨rfl, rfl, rfl⟩
  · cases h
/-- a turn of the outer clause, whatever is made -/
theorem outer_rd {vs vs1 : List Nat} {tg tg1 : G} {ifs ifs1 : To} {it1 : I} {r r1 : En} {σ : L2.St} {μ1 μ : List Addr} {H1 H : Hp} {D : Addr} {a a1 : Ob} {s s1 s3 : St} {u : HO} {x : P} {v : V} {c : Bool} {N : Hp → Prop} {tb1 : PBod} {ft : Ob → Prop} (hsl : ∀ i ∈ tg.slots, i ∈ vs)
    (L : LS C μ1 H1 D a μ s H u) (hr1 : REn C H1 μ1 r σ) (rx : RP C H x v) (e1 : asgG tg x (wipeE r vs) = some r1) (e2 : evTo cf ifs r1 s = .ok c s3) {f : P → Ob → St → Ob → St → Prop} (fm : ∀ x a s b s1, f x a s b s1 → ft b → ft a) (hf : ft a1)
    (e3 : (c = true ∧ ∃ ys s4, evI cf it1 r1 s3 = .ok ys s4 ∧ Go f ys a s4 a1 s1) ∨ (c = false ∧ a1 = a ∧ s1 = s3))
    (hst : ∀ (σ2 : L2.St) (μa : List Addr) (Ha : Hp), REn C Ha μa r1 σ2 → ∀ x a s a1 s1 μ H u v (N : Hp → Prop), f x a s a1 s1 → ft a1 → LS C μa Ha D a μ s H u → RP C H x v → (∀ μ' H' u', LS C μa Ha D a1 μ' s1 H' u' → N H') →
      gRd C tg1 v (L2.wipe σ2 vs1) H fun σ3 H2 => L2.wipe σ3 vs1 = L2.wipe σ2 vs1 ∧ rdT C WF (evTo cf ifs1) σ3 H2 fun b H3 => if b = true then tb1 σ3 H3 N else N H3)
    (hN : ∀ μ' H' u', LS C μ1 H1 D a1 μ' s1 H' u' → N H') :
    gRd C tg v (L2.wipe σ vs) H fun σ2 H2 => L2.wipe σ2 vs = L2.wipe σ vs ∧ rdT C WF (evTo cf ifs) σ2 H2 fun b H3 => if b = true then tIn (rdI C WF (evI cf it1)) (gRd C tg1) (rdT C WF (evTo cf ifs1)) tb1 vs1 σ2 H3 N else N H3 := by
  refine ⟨μ, x, wipeE r vs, r1, (hr1.nx L.nx1).wipe vs, rx, e1, fun σ2 hr2 off => ⟨wipe_off hsl off, ?_⟩⟩
  refine rd_known L.wd hr2 e2 fun μ' H3 n3 w3 => ?_
  have L3 := L.go n3 w3
  have hr3 := hr2.nx n3
  show if c = true then _ else _
  rcases e3 with ⟨rfl, ys, s4, e4, g⟩ | ⟨rfl, rfl, rfl⟩
  · rw [if_pos rfl]
    refine rd_known w3 hr3 e4 fun μ'' H4 n4 w4 J1 hJ => ?_
    have L4 := L3.go n4 w4
    have hr4 := hr3.nx n4
    have kd := keep_del L4.at_ (mut_im L4.mu)
    exact loop_go fm (hst σ2 μ'' (del H4 D) (hr4.kp kd)) (hJ.keep kd) L4.base g hf fun μ5 H5 u5 L5 => hN _ _ _ (L5.rebase L4.nx)
  · rw [if_neg Bool.false_ne_true]
    exact hN _ _ _ L3
theorem comp2_rd {vs : List Nat} {tg : G} {it : I} {ifs : To} {vs1 : List Nat} {tg1 : G} {it1 : I} {ifs1 : To} {elt : E} (hsl : ∀ i ∈ tg.slots, i ∈ vs) (hsl1 : ∀ i ∈ tg1.slots, i ∈ vs1) {σ : L2.St} {H : Hp} {Q : VK} (h : rdL C W (evL cf (.comp2 vs tg it ifs vs1 tg1 it1 ifs1 elt)) σ H Q) :
    tLc2 (rdI C W (evI cf it)) (gRd C tg) (rdT C WF (evTo cf ifs)) (rdI C WF (evI cf it1)) (gRd C tg1) (rdT C WF (evTo cf ifs1)) (rdE C WF (evE cf elt)) vs vs1 σ H Q := by
  obtain ⟨μ, st, r, w, hr, h⟩ := h
  rw [evL_comp2, bind_assoc] at h
  refine step w hr h fun l st1 μ1 H1 n1 w1 hr1 h1 J hJ D hD => ?_
  obtain ⟨out, stn, e, hz, h2⟩ := chk_ok (compGo_nox (fun x s => comp2F_nox x s) l st1) h1
  have L0 : LS C μ1 H1 D (.lst []) μ1 st1 (upd H1 D (.lst [])) (.lst []) := LS.start w1 hD trivial nc_lst fun H' k e => ⟨[], e, .nil⟩
  refine loop_go (f := lTurn (comp2F cf vs tg ifs vs1 tg1 it1 ifs1 elt r)) (ft := lstOk) (tb := tIn (rdI C WF (evI cf it1)) (gRd C tg1) (rdT C WF (evTo cf ifs1)) (tbL (rdE C WF (evE cf elt)) D) vs1) lTurn_fits ?_ hJ L0 (compGo_go e) (show ([] ++ out).length ≤ sizeLine from hz) fun μ' H' u' L => okL_fin L h2
  rintro x a s a1 s1 μ H u v N ⟨l, o, rfl, f1, rfl⟩ fa L rx hN
  obtain ⟨r1, c, s3, e1, e2, e3⟩ := comp2F_ok f1
  refine outer_rd (f := lTurn (compF cf vs1 tg1 ifs1 elt r1)) (ft := lstOk) hsl L hr1 rx e1 e2 lTurn_fits fa ?_ (fun σ2 μa Ha hra => item2 hsl1 hra) hN
  rcases e3 with ⟨rfl, ys, s4, e4, e5⟩ | ⟨rfl, rfl, rfl⟩
  · exact .inl ⟨rfl, ys, s4, e4, compGo_go e5⟩
  · exact .inr ⟨rfl, by rw [List.append_nil], rfl⟩
end
end Ev

set_option Elab.async false
set_option linter.all false
set_option maxRecDepth 100000
set_option maxHeartbeats 1000000
namespace Ev
open PySem PySem.Spec PyProof.Rows L2

section
variable {C : Gc} {M : Md} {F : Fr} {cf : Cf} {k : Nat} {W : XW} {X : Cx}
abbrev Mp := List P × List P
/-- one entry -/
def dctF (cf : Cf) (vs : List Nat) (tg : G) (ifs : To) (k v : E) (r : En) : P → List P → List P → St → R Mp := fun x ks ws s2 => match asgG tg x (wipeE r vs) with
  | some r1 => (R.noexc (evTo cf ifs r1 s2)).bind fun c s3 => if c then (R.noexc (evE cf k r1 s3)).bind fun d s4 => (R.noexc (evE cf v r1 s4)).bind fun d' s5 => (match d, d' with
      | .p y, .p z => if keyOk ks y && decide (ks.length < big) then .ok (dputK ks y, dputV ks ws y z) s5 else .bad
      | _, _ => .bad) else .ok (ks, ws) s3
  | none => .bad
def dct2F (cf : Cf) (vs : List Nat) (tg : G) (ifs : To) (vs1 : List Nat) (tg1 : G) (it1 : I) (ifs1 : To) (k v : E) (r : En) : P → List P → List P → St → R Mp := fun x ks ws s2 => match asgG tg x (wipeE r vs) with
  | some r1 => (R.noexc (evTo cf ifs r1 s2)).bind fun c s3 => if c then (R.noexc (evI cf it1 r1 s3)).bind fun ys s4 => dictGo (dctF cf vs1 tg1 ifs1 k v r1) ys ks ws s4 else .ok (ks, ws) s3
  | none => .bad
theorem evM_comp {vs : List Nat} {tg : G} {it : I} {ifs : To} {k v : E} {r : En} {s : St} : evM cf (.comp vs tg it ifs k v) r s = (evI cf it r s).bind fun xs s1 => dictGo (dctF cf vs tg ifs k v r) xs [] [] s1 := by
  rw [evM]; rfl
theorem evM_comp2 {vs : List Nat} {tg : G} {it : I} {ifs : To} {vs1 : List Nat} {tg1 : G} {it1 : I} {ifs1 : To} {k v : E} {r : En} {s : St} : evM cf (.comp2 vs tg it ifs vs1 tg1 it1 ifs1 k v) r s = (evI cf it r s).bind fun xs s1 => dictGo (dct2F cf vs tg ifs vs1 tg1 it1 ifs1 k v r) xs [] [] s1 := by
  rw [evM]; rfl
theorem dictGo_nox {f : P → List P → List P → St → R Mp} (hf : ∀ x ks ws s, NoX (f x ks ws s)) : ∀ (l : List P) (ks ws : List P) (s : St), NoX (dictGo f l ks ws s)
  | [], ks, ws, s => .ok
  | x :: l, ks, ws, s => by
    rw [dictGo]
    exact (hf x ks ws s).bind fun o s1 => dictGo_nox hf l _ _ s1
theorem dctF_nox {vs : List Nat} {tg : G} {ifs : To} {k v : E} {r : En} (x : P) (ks ws : List P) (s : St) : NoX (dctF cf vs tg ifs k v r x ks ws s) := by
  unfold dctF
  split
  · refine (nox_no _).bind fun c s3 => ?_
    cases c with
    | true =>
      rw [if_pos rfl]
      refine (nox_no _).bind fun d s4 => (nox_no _).bind fun d' s5 => ?_
      split
      · split
        · exact .ok
        · exact .bad
      · exact .bad
    | false => rw [if_neg Bool.false_ne_true]; exact .ok
  · exact .bad
theorem dct2F_nox {vs : List Nat} {tg : G} {ifs : To} {vs1 : List Nat} {tg1 : G} {it1 : I} {ifs1 : To} {k v : E} {r : En} (x : P) (ks ws : List P) (s : St) : NoX (dct2F cf vs tg ifs vs1 tg1 it1 ifs1 k v r x ks ws s) := by
  unfold dct2F
  split
  · refine (nox_no _).bind fun c s3 => ?_
    cases c with
    | true =>
      rw [if_pos rfl]
      exact (nox_no _).bind fun d s4 => dictGo_nox (fun x ks ws s => dctF_nox x ks ws s) _ _ _ _
    | false => rw [if_neg Bool.false_ne_true]; exact .ok
  · exact .bad
theorem dctF_ok {vs : List Nat} {tg : G} {ifs : To} {k v : E} {r : En} {x : P} {ks ws : List P} {s s' : St} {o : Mp} (h : dctF cf vs tg ifs k v r x ks ws s = .ok o s') :
    ∃ r1 c s3, asgG tg x (wipeE r vs) = some r1 ∧ evTo cf ifs r1 s = .ok c s3 ∧ ((c = true ∧ ∃ y z s4, evE cf k r1 s3 = .ok (.p y) s4 ∧ evE cf v r1 s4 = .ok (.p z) s' ∧ keyOk ks y = true ∧ ks.length < big ∧ o = (dputK ks y, dputV ks ws y z)) ∨ (c = false ∧ o = (ks, ws) ∧ s' = s3)) := by
  unfold dctF at h
  split at h
  · rename_i r1 e1
    obtain ⟨c, s3, h1, h2⟩ := bind_ok h
    refine ⟨r1, c, s3, e1, noexc_ok h1, ?_⟩
    cases c with
    | true =>
      rw [if_pos rfl] at h2
      obtain ⟨d, s4, h3, h4⟩ := bind_ok h2
      obtain ⟨d', s5, h5, h6⟩ := bind_ok h4
      split at h6
      · rename_i y z
        split at h6
        · rename_i hh
          rw [Bool.and_eq_true, decide_eq_true_eq] at hh
          cases h6
          exact .inl ⟨rfl, y, z, s4, noexc_ok h3, noexc_ok h5, hh.1, hh.2, rfl⟩
        · cases h6
      · cases h6
    | false =>
      rw [if_neg Bool.false_ne_true] at h2
      cases h2
      exact .inr ⟨rfl, rfl, rfl⟩
  · cases h
theorem dct2F_ok {vs : List Nat} {tg : G} {ifs : To} {vs1 : List Nat} {tg1 : G} {it1 : I} {ifs1 : To} {k v : E} {r : En} {x : P} {ks ws : List P} {s s' : St} {o : Mp} (h : dct2F cf vs tg ifs vs1 tg1 it1 ifs1 k v r x ks ws s = .ok o s') :
    ∃ r1 c s3, asgG tg x (wipeE r vs) = some r1 ∧ evTo cf ifs r1 s = .ok c s3 ∧ ((c = true ∧ ∃ ys s4, evI cf it1 r1 s3 = .ok ys s4 ∧ dictGo (dctF cf vs1 tg1 ifs1 k v r1) ys ks ws s4 = .ok o s') ∨ (c = false ∧ o = (ks, ws) ∧ s' = s3)) := by
  unfold dct2F at h
  split at h
  · rename_i r1 e1
    obtain ⟨c, s3, h1, h2⟩ := bind_ok h
    refine ⟨r1, c, s3, e1, noexc_ok h1, ?_⟩
    cases c with
    | true =>
      rw [if_pos rfl] at h2
      obtain ⟨ys, s4, h3, h4⟩ := bind_ok h2
      exact .inl ⟨rfl, ys, s4, noexc_ok h3, h4⟩
    | false =>
      rw [if_neg Bool.false_ne_true] at h2
      cases h2
      exact .inr ⟨rfl, rfl, rfl⟩
  · cases h
def mTurn (f : P → List P → List P → St → R Mp) : P → Ob → St → Ob → St → Prop := fun x a s b s1 => ∃ ks ws o, a = .dct ks ws ∧ f x ks ws s = .ok o s1 ∧ b = .dct o.1 o.2
theorem dictGo_go {f : P → List P → List P → St → R Mp} : ∀ {l : List P} {s s' : St} {o : Mp} {ks ws : List P}, dictGo f l ks ws s = .ok o s' → Go (mTurn f) l (.dct ks ws) s (.dct o.1 o.2) s'
  | [], s, s', o, ks, ws, h => by
    cases h
    exact .nil
  | x :: l, s, s', o, ks, ws, h => by
    rw [dictGo] at h
    obtain ⟨p, s1, h1, h2⟩ := bind_ok h
    exact .cons ⟨ks, ws, p, rfl, h1, rfl⟩ (dictGo_go h2)
theorem em_rd (hP : X.prog = C.P) (hw : X.w = C.w) (hu : X.A.units + 65 < cLine) {vs : List Nat} {tg : G} {ifs : To} {k v : E} {r : En} {σ : L2.St} {μ1 : List Addr} {H1 : Hp} {D : Addr} (hsl : ∀ i ∈ tg.slots, i ∈ vs) (hr1 : REn C H1 μ1 r σ) :
    ∀ x a s a1 s1 μ H u w (N : Hp → Prop), mTurn (dctF cf vs tg ifs k v r) x a s a1 s1 → True → LS C μ1 H1 D a μ s H u → RP C H x w → (∀ μ' H' u', LS C μ1 H1 D a1 μ' s1 H' u' → N H') →
      gRd C tg w (L2.wipe σ vs) H fun σ2 H2 => L2.wipe σ2 vs = L2.wipe σ vs ∧ rdT C WF (evTo cf ifs) σ2 H2 fun b H3 => if b = true then tEmit X.prog X.w X.A (rdE C WF (evE cf k)) (rdE C WF (evE cf v)) D σ2 H3 N else N H3 := by
  rintro x a s a1 s1 μ H u w N ⟨ks, ws, o, rfl, e, rfl⟩ _ L rx hN
  obtain ⟨r1, c, s3, e1, e2, e3⟩ := dctF_ok e
  refine ⟨μ, x, wipeE r vs, r1, (hr1.nx L.nx1).wipe vs, rx, e1, fun σ2 hr2 off => ⟨wipe_off hsl off, ?_⟩⟩
  refine rd_known L.wd hr2 e2 fun μ' H3 n3 w3 => ?_
  have L3 := L.go n3 w3
  have hr3 := hr2.nx n3
  show if c = true then _ else _
  rcases e3 with ⟨rfl, y, z, s4, e4, e5, hk, hz, rfl⟩ | ⟨rfl, rfl, rfl⟩
  · rw [if_pos rfl]
    refine rd_known w3 hr3 e4 fun μ4 H4 n4 w4 v4 r4 => ?_
    have L4 := L3.go n4 w4
    refine rd_known w4 (hr3.nx n4) e5 fun μ5 H5 n5 w5 v5 r5 => ?_
    have L5 := L4.go n5 w5
    have r4 : RP C H4 y v4 := r4
    have r5 : RP C H5 z v5 := r5
    intro Y pn s τ u' rv' E Q p1 p2 p3 I ry rz fin
    obtain ⟨ud, q1, q2⟩ := L5.ob H5 (Keep.refl _) L5.at_
    rw [L5.at_] at q1
    cases q1
    obtain ⟨un, mu, rd', wr, _⟩ := dct_write (X := Y) (p1.trans hP) (p2.trans hw) (by rw [p3]; exact hu) I L5.at_ q2 hk hz (RP.keep n5.keep _ _ r4) ry r5 rz
    rw [p1, p2, p3] at wr
    exact wr Q E fun s' I' => fin s' _ I' (hN _ _ _ (L5.put mu (nc_dct rd') fun H' kk e => ⟨un, e, rd'.keep ((Keep.mut _ L5.at_ (mut_im L5.mu)).trans kk)⟩))
  · rw [if_neg Bool.false_ne_true]
    exact hN _ _ _ L3
theorem okM_fin {σ : L2.St} {Q : VK} {μ1 μ : List Addr} {H1 H : Hp} {D : Addr} {o : Mp} {stn : St} {u : HO} (L : LS C μ1 H1 D (.dct o.1 o.2) μ stn H u) (h : post C W σ μ1 H1 (.ok o stn) (okM C Q)) : Q (.ref D) H := by
  obtain ⟨ud, q1, q2⟩ := L.ob H (Keep.refl _) L.at_
  rw [L.at_] at q1
  cases q1
  have := h μ (del H D) L.nx L.fin D u del_same L.mu (q2.keep (keep_del L.at_ (mut_im L.mu)))
  rw [upd_del L.at_] at this
  exact this
theorem okM_ok {σ : L2.St} {μ : List Addr} {H : Hp} {res : R Mp} {ok : Mp → St → List Addr → Hp → Prop} (nx : NoX res) (h : post C W σ μ H res ok) : ∃ o stn, res = .ok o stn := by
  cases res with
  | ok o stn => exact ⟨o, stn, rfl⟩
  | exc c fs s => exact absurd rfl (nx c fs s)
  | bad => exact h.elim
theorem LS.startM {μ1 : List Addr} {H1 : Hp} {D : Addr} {st1 : St} (w : Wd C H1 μ1 st1) (hD : H1 D = none) : LS C μ1 H1 D (.dct [] []) μ1 st1 (upd H1 D (.dK [])) (.dK []) :=
  LS.start w hD trivial (fun q z => by cases z) fun H' k e => ⟨_, e, .inl ⟨[], rfl, .nil, .nil⟩⟩
theorem dcomp_rd (hP : X.prog = C.P) (hw : X.w = C.w) (hu : X.A.units + 65 < cLine) {vs : List Nat} {tg : G} {it : I} {ifs : To} {k v : E} (hsl : ∀ i ∈ tg.slots, i ∈ vs) {σ : L2.St} {H : Hp} {Q : VK} (h : rdM C W (evM cf (.comp vs tg it ifs k v)) σ H Q) :
    tDcX (rdI C W (evI cf it)) (gRd C tg) (rdT C WF (evTo cf ifs)) (tEmit X.prog X.w X.A (rdE C WF (evE cf k)) (rdE C WF (evE cf v))) vs σ H Q := by
  obtain ⟨μ, st, r, w, hr, h⟩ := h
  rw [evM_comp] at h
  refine step w hr h fun l st1 μ1 H1 n1 w1 hr1 h1 J hJ D hD => ?_
  obtain ⟨o, stn, e⟩ := okM_ok (dictGo_nox (fun x ks ws s => dctF_nox x ks ws s) l [] [] st1) h1
  rw [e] at h1
  exact loop_go (f := mTurn (dctF cf vs tg ifs k v r)) (ft := fun _ => True) (fun _ _ _ _ _ _ _ => trivial) (em_rd hP hw hu hsl hr1) hJ (LS.startM w1 hD) (dictGo_go e) trivial fun μ' H' u' L => okM_fin L h1
theorem dcomp2_rd (hP : X.prog = C.P) (hw : X.w = C.w) (hu : X.A.units + 65 < cLine) {vs : List Nat} {tg : G} {it : I} {ifs : To} {vs1 : List Nat} {tg1 : G} {it1 : I} {ifs1 : To} {k v : E} (hsl : ∀ i ∈ tg.slots, i ∈ vs) (hsl1 : ∀ i ∈ tg1.slots, i ∈ vs1) {σ : L2.St} {H : Hp} {Q : VK} (h : rdM C W (evM cf (.comp2 vs tg it ifs vs1 tg1 it1 ifs1 k v)) σ H Q) :
    tDcX (rdI C W (evI cf it)) (gRd C tg) (rdT C WF (evTo cf ifs)) (fun D => tIn (rdI C WF (evI cf it1)) (gRd C tg1) (rdT C WF (evTo cf ifs1)) (tEmit X.prog X.w X.A (rdE C WF (evE cf k)) (rdE C WF (evE cf v)) D) vs1) vs σ H Q := by
  obtain ⟨μ, st, r, w, hr, h⟩ := h
  rw [evM_comp2] at h
  refine step w hr h fun l st1 μ1 H1 n1 w1 hr1 h1 J hJ D hD => ?_
  obtain ⟨o, stn, e⟩ := okM_ok (dictGo_nox (fun x ks ws s => dct2F_nox x ks ws s) l [] [] st1) h1
  rw [e] at h1
  refine loop_go (f := mTurn (dct2F cf vs tg ifs vs1 tg1 it1 ifs1 k v r)) (ft := fun _ => True) (fun _ _ _ _ _ _ _ => trivial) ?_ hJ (LS.startM w1 hD) (dictGo_go e) trivial fun μ' H' u' L => okM_fin L h1
  rintro x a s a1 s1 μ H u w N ⟨ks, ws, p, rfl, f1, rfl⟩ _ L rx hN
  obtain ⟨r1, c, s3, e1, e2, e3⟩ := dct2F_ok f1
  refine outer_rd (f := mTurn (dctF cf vs1 tg1 ifs1 k v r1)) (ft := fun _ => True) hsl L hr1 rx e1 e2 (fun _ _ _ _ _ _ _ => trivial) trivial ?_ (fun σ2 μa Ha hra => em_rd hP hw hu hsl1 hra) hN
  rcases e3 with ⟨rfl, ys, s4, e4, e5⟩ | ⟨rfl, rfl, rfl⟩
  · exact .inl ⟨rfl, ys, s4, e4, dictGo_go e5⟩
  · exact .inr ⟨rfl, rfl, rfl⟩
end
end Ev

set_option Elab.async false
set_option linter.all false
set_option maxRecDepth 100000
set_option maxHeartbeats 1000000
namespace Ev
open PySem PySem.Spec PyProof.Rows L2
/-! ### {}, {k: v} -/
section
variable {C : Gc} {M : Md} {F : Fr} {cf : Cf} {k : Nat} {W : XW} {X : Cx}
theorem g_d0 {pos : Pos} : PE X (.Dict [] [] pos) (rdM C W (evM cf (.disp .nil .nil))) := weak pe_dnewK fun σ H Q ⟨μ, st, r, w, hr, h⟩ p hp => by
  rw [evM] at h
  exact post.here h w p (.dK []) hp trivial (.inl ⟨[], rfl, .nil, .nil⟩)
theorem g_d1 (o : XOk C M F cf k W X) {a b : E} {e1 e2 : Expr} {pos : Pos} (h1 : PE X e1 (rdE C W (evE cf a))) (h2 : PE X e2 (rdE C W (evE cf b))) : PE X (.Dict [some e1] [e2] pos) (rdM C W (evM cf (.disp (.cons a .nil) (.cons b .nil)))) := by
  refine ⟨fun pins s σ H Q I ⟨μ, st, r, w, hr, h⟩ => ?_⟩
  rw [evM] at h
  cases q1 : evE cf a r st with
  | exc c fs st1 => rw [q1] at h; exact h.elim
  | bad => rw [q1] at h; exact h.elim
  | ok d st1 =>
    rw [q1] at h
    cases q2 : evE cf b r st1 with
    | exc c fs st2 =>
      replace h : post C W σ μ H ((R.noexc (evE cf b r st1)).bind _) (okM C Q) := h
      rw [q2] at h; exact h.elim
    | bad =>
      replace h : post C W σ μ H ((R.noexc (evE cf b r st1)).bind _) (okM C Q) := h
      rw [q2] at h; exact h.elim
    | ok d' st2 =>
      replace h : post C W σ μ H ((R.noexc (evE cf b r st1)).bind _) (okM C Q) := h
      rw [q2] at h
      replace h : post C W σ μ H (match d, d' with
        | .p y, .p z => if keyOk [] y then R.ok ([y], [z]) st2 else .bad
        | _, _ => .bad) (okM C Q) := h
      split at h
      · rename_i y z
        split at h
        · rename_i hk
          have hD := I.hok.fresh (Nat.le_refl s.heap.objs.size)
          have I1 := I.laid (a := s.heap.objs.size) (o := .dK []) (h' := s.heap.push { cls := .type "dict", data := .dict #[] }) (t' := s.toks) (fun _ _ q => Heap.get?_push_of_some _ q) (Nat.le_refl _) (dk_empty s.heap I.big)
          have L0 : LS C μ H s.heap.objs.size (.dct [] []) μ st (upd H s.heap.objs.size (.dK [])) (.dK []) := LS.startM w hD
          rw [arm_eval_Dict, zip_pairTrees [some e1] [e2] X.env pos rfl rfl, dictDisplay_pairs _ (by intro z; cases z) (by show (1 : Nat) < 17; decide)]
          refine wpAny_bind (wpAny_standAt (wpAny_bind ?_))
          unfold subDict
          refine wpAny_bind (wpAny_alloc (wpAny_bind (wpAny_holding ?_)))
          rw [if_pos (by show (1 : Nat) ≤ 15; decide)]
          refine wpAny_bind (wpAny_mono (Q := fun vs s' => ∃ u1 u2 v1 v2 μ' H' u', vs = [(u1, u2)] ∧ RelV v1 u1 ∧ RelV v2 u2 ∧ Inv X pins σ H' s' ∧ LS C μ H s.heap.objs.size (.dct [] []) μ' st2 H' u' ∧ RP C H' y v1 ∧ RP C H' z v2) ?_ (fun vs s' hvs => ?_) fun _ _ e => e)
          · refine pairTrees_cons_walk (thn (h1.run pins _ σ _ (fun v1 H1 => rdE C W (evE cf b) σ H1 fun v2 H2 => ∃ μ' u', LS C μ H s.heap.objs.size (.dct [] []) μ' st2 H2 u' ∧ RP C H2 y v1 ∧ RP C H2 z v2) I1 (rd_known L0.wd (hr.nx L0.nx1) q1 fun μ1 H1 n1 w1 v1 r1 => rd_known w1 ((hr.nx L0.nx1).nx n1) q2 fun μ2 H2 n2 w2 v2 r2 => ?_)) fun u1 s1 ⟨v1, H1, I1', rv1, k1⟩ => ?_)
            · exact ⟨μ2, _, (L0.go n1 w1).go n2 w2, RP.keep n2.keep _ _ r1, r2⟩
            · exact thn (h2.run pins s1 σ H1 _ I1' k1) fun u2 s2 ⟨v2, H2, I2, rv2, μ2, u', L2', r1, r2⟩ => pairTrees_nil_walk ⟨u1, u2, v1, v2, μ2, H2, u', rfl, rv1, rv2, I2, L2', r1, r2⟩
          · obtain ⟨u1, u2, v1, v2, μ2, H2, u', rfl, rv1, rv2, I2, L2', r1, r2⟩ := hvs
            obtain ⟨ud, q3, q4⟩ := L2'.ob H2 (Keep.refl _) L2'.at_
            rw [L2'.at_] at q3
            cases q3
            obtain ⟨un, mu, rd', wr, _⟩ := dct_write (X := X) o.prog o.w o.units I2 L2'.at_ q4 hk (by decide) r1 rv1 r2 rv2
            refine wpAny_holding ?_
            rw [List.forIn_cons]
            refine wpAny_bind (wpAny_bind (wpAny_bind (wr _ _ fun s' I' => wpAny_pure ?_)))
            dsimp only
            rw [List.forIn_nil]
            have L3 := L2'.put (u' := un) (ob' := .dct [y] [z]) mu (nc_dct rd') fun H' kk e => ⟨un, e, rd'.keep ((Keep.mut _ L2'.at_ (mut_im L2'.mu)).trans kk)⟩
            exact wpAny_pure (wpAny_pure (wpAny_pure (wpAny_pure ⟨.ref s.heap.objs.size, _, I', rfl, okM_fin (o := ([y], [z])) L3 h⟩)))
        · exact h.elim
      · exact h.elim
end
end Ev

set_option Elab.async false
set_option linter.all false
set_option maxRecDepth 100000
set_option maxHeartbeats 1000000
namespace Ev
open PySem PySem.Spec PyProof.Rows L2
open AutoSeq1 (wpAny_loadPart')

/-! ### enumerate(tuple) -/
theorem newT (t : Addr) (items : Array Value) (n : Nat) (dct : Option Addr) (sl : Array (Option Value)) :
    Meets (Builtin.«enumerate.__new__» ⟨[.type "enumerate", .ref t], []⟩) (fun _ R s => s.heap.get? t = some { cls := .type "tuple", dict := dct, data := .seq items n, slots := sl } ∧
      R (.ok (.ret (.ref (s.heap.push { cls := .type "tuple_iterator", data := .fields #[.ref t, .int 0 0] }).objs.size)))
        { s with heap := (s.heap.push { cls := .type "tuple_iterator", data := .fields #[.ref t, .int 0 0] }).push { cls := .type "enumerate", data := .fields #[.none, .bool false, .ref s.heap.objs.size, rawInt 0, .none, .none] } }) :=
  .of_wp fun prog w A R s h => by
    obtain ⟨hp, g, d, tk, os⟩ := s
    obtain ⟨hl, h⟩ := h
    have hsub := sub_enumerate
    have hL : Heap.IsTuple (Shared.heap ⟨hp, g, d, tk, os⟩) t items := ⟨_, hl, rfl, n, rfl⟩
    wp_walk using wpAny_loadPart' hl
    refine wpAny_stack_any fun st => wpAny_pure ?_
    split
    · rename_i c _ _ _ _ _
      cases (c == Value.type "enumerate")
      · wp_walk using wpAny_loadPart' hl, wpAny_pyIter_tuple hL
        exact ⟨_, rfl, h⟩
      · wp_walk using wpAny_loadPart' hl, wpAny_pyIter_tuple hL
        exact ⟨_, rfl, h⟩
    · wp_walk using wpAny_loadPart' hl, wpAny_pyIter_tuple hL
      exact ⟨_, rfl, h⟩
section
variable {prog : Program} {w : World} {A : Around} {E : Value → Shared → Prop} {s : Shared}
theorem call_enumT {t : Addr} {items : Array Value} {Q : Value → Shared → Prop} (hL : s.heap.IsTuple t items)
    (h : ∀ h', IsEnum h' (s.heap.objs.size + 1) s.heap.objs.size 0 .none → h'.IsTupleIter s.heap.objs.size t 0 → h'.objs.size = s.heap.objs.size + 2 →
      (∀ b o, s.heap.get? b = some o → h'.get? b = some o) → Q (.ref (s.heap.objs.size + 1)) { s with heap := h' }) :
    wpAny (model prog w) A (call (.type "enumerate") [.ref t]) Q E s := by
  obtain ⟨⟨c, dct, dt, sl⟩, hl, hc, n, hd⟩ := hL
  replace hc : c = .type "tuple" := hc
  replace hd : dt = .seq items n := hd
  subst hc hd
  refine callType_new F.called_enumerate (by decide) (F.typeCall_enumerate_1 _) (F.newCall_enumerate_1 _) (fun obj => F.args_object_init_2 obj _) F.entry_enumerate_new (newT t items n dct sl) ⟨hl, ?_⟩
  have hz : (s.heap.push { cls := .type "tuple_iterator", data := .fields #[.ref t, .int 0 0] }).objs.size = s.heap.objs.size + 1 := Heap.size_push ..
  show _ ∧ _
  rw [hz]
  have he := Heap.get?_push_size (s.heap.push { cls := .type "tuple_iterator", data := .fields #[.ref t, .int 0 0] }) (o := { cls := .type "enumerate", data := .fields #[.none, .bool false, .ref s.heap.objs.size, rawInt 0, .none, .none] }) rfl
  rw [hz] at he
  exact ⟨⟨_, he, rfl⟩, h _ he ⟨_, Heap.get?_push_of_some _ (Heap.get?_push_size _ rfl), rfl, rfl⟩ (by rw [Heap.size_push, hz]) fun b o x => Heap.get?_push_of_some _ (Heap.get?_push_of_some _ x)⟩
theorem enum_endT {e it t : Addr} {items : Array Value} {j : Nat} {i : Int} {old : Value} {Q : Option Value → Shared → Prop} (hh : A.handled = none) (he : IsEnum s.heap e it i old) (hit : s.heap.IsTupleIter it t j) (ht : s.heap.IsTuple t items) (hx : items[j]? = none)
    (hQ : ∀ h', Heap.ExtBut it s.heap h' → Q none { s with heap := h' }) : wpAny (model prog w) A (pyNext (.ref e)) Q E s := by
  have hT : s.TypeIs (.ref e) "enumerate" := ⟨_, he, rfl⟩
  unfold pyNext
  refine wpAny_bind (wpAny_attempt (wpAny_callSpecial?_slot (name := Str.ofString "__next__") hT F.slot_enumerate_next (wpAny_call_entry F.slot_enumerate_next hT F.entry_enumerate_next ?_ (F.args_enumerate_next_1 _))))
  show wpAny _ _ (field (.ref e) 2 >>= _) _ _ _
  refine wpAny_bind (wpAny_field he rfl (x := .ref it) rfl ?_)
  refine wpAny_bind (wpAny_nextOf_tuple_end (A := A.in1) hh hit ht hx fun h' x he' hx' => ?_)
  obtain ⟨o, ho, hc⟩ := hx'
  refine wpAny_bind (wpAny_isInstance (T := "StopIteration") (b := true) ⟨o, ho, hc⟩ isSubtype_stop ?_)
  exact wpAny_pure (hQ _ he')
end
/-- the tuple at a as it stands at each turn, each item in a new pair -/
def IteT (K : PySem.W.Frag) (a : Addr) : It :=
  ⟨fun i H => ∃ (xs : List V) (x : V), SqT K H a xs ∧ xs[i]? = some x, fun i H v H' => ∃ T x, v = .ref T ∧ H T = none ∧ H' = upd H T (.tup [.int (i : Nat), x]) ∧ ∀ xs, SqT K H a xs → xs[i]? = some x, fun i H => ∃ xs : List V, SqT K H a xs ∧ xs.length ≤ i⟩
theorem iter_apart {h : Heap} {it t : Addr} {i : Nat} {items : Array Value} (hit : h.IsTupleIter it t i) (ht : h.IsTuple t items) : t ≠ it := fun z => by
  obtain ⟨o, ho, hc, _⟩ := hit
  obtain ⟨o', ho', hc', _⟩ := ht
  rw [z, ho] at ho'
  cases ho'
  have hc : o.cls = .type "tuple_iterator" := hc
  have hc' : o.cls = .type "tuple" := hc'
  rw [hc] at hc'
  exact absurd (Value.type.inj hc') (by decide)
theorem enum_apart {h : Heap} {e it t : Addr} {i : Int} {old : Value} {items : Array Value} (he : IsEnum h e it i old) (ht : h.IsTuple t items) : e ≠ t := fun z => by
  have he : h.get? e = some _ := he
  obtain ⟨o', ho', hc', _⟩ := ht
  rw [← z, he] at ho'
  cases ho'
  have hc' : Value.type "enumerate" = .type "tuple" := hc'
  exact absurd (Value.type.inj hc') (by decide)
theorem turn_enumT {P : Program} {w : World} {K : PySem.W.Frag} {elts : List Expr} {kk : Nat} {tpos : Pos} (a e it : Addr) :
    Turn P w K (.Tuple elts kk tpos) (IteT K a) [e, it] e (fun i h => (∃ old, IsEnum h e it ((i : Nat) : Int) old) ∧ h.IsTupleIter it a i ∧ e ≠ it) where
  mem := by simp
  obj := fun i h st b hb => by
    obtain ⟨⟨old, he⟩, ⟨o, ho, hc, hd⟩, _⟩ := st
    have e' : b = e ∨ b = it := by simpa using hb
    rcases e' with z | z
    · rw [z]; exact ⟨_, he, fun v q => nomatch q⟩
    · rw [z]; exact ⟨o, ho, fun v q => by rw [hd] at q; cases q⟩
  keep := fun i h h' st k => let ⟨⟨old, he⟩, hi, hne⟩ := st; ⟨⟨old, k e (by simp) _ he⟩, hi.at fun o q => k it (by simp) o q, hne⟩
  item := by
    intro X hP hw hK hc i pins s σ H E I hf st hg
    subst hP hw hK
    obtain ⟨⟨old, he⟩, hit, hne⟩ := st
    obtain ⟨xs, x, hq, hx⟩ := hg
    obtain ⟨its, rv, p, hz⟩ := I.tuple hq
    have p : s.heap.IsTuple a its.toArray := p
    obtain ⟨u, hu, ru⟩ := rv.get hx
    have hel : e < s.heap.objs.size := Heap.lt_size he
    have hil : it < s.heap.objs.size := by obtain ⟨_, q, _⟩ := hit; exact Heap.lt_size q
    have n1 := iter_apart hit p
    have n2 := enum_apart he p
    have hi : i < its.toArray.size := by
      obtain ⟨z, _⟩ := List.getElem?_eq_some_iff.mp hu
      simpa using z
    refine wpAny_pyNext_enum_itemD (Draws.tuple (prog := X.prog) (w := X.w) (A := X.A.in1) (I.ok.hd hc) it a n1 its.toArray) he ⟨hit, p⟩ hi hne (by simp [hne, n2]) fun y h' tk hP ho hst' hT hsz hk => ?_
    have ey : y = u := by
      have hP : its.toArray[i]? = some y := hP
      rw [List.getElem?_toArray, hu] at hP
      exact (Option.some.inj hP).symm
    subst ey
    refine ⟨_, rfl, wpAny_letOwnedTupleGo_enum (s := { s with heap := h', toks := tk + 1 }) ho fun h'' he' sb => ?_⟩
    have hT2 : h''.get? s.heap.objs.size = some { cls := .type "tuple", data := .seq #[.int i tk, y] } := (sb.2 _ (Nat.ne_of_gt hel)).trans hT
    have new : ObjOk X.prog X.w (upd H s.heap.objs.size (.tup [.int (i : Nat), x])) h'' s.heap.objs.size (.tup [.int (i : Nat), x]) :=
      ⟨by show 2 ≤ sizeLine; decide, [.int i tk, y], .cons ⟨_, rfl⟩ (.cons ru .nil), ⟨_, hT2, rfl, _, rfl⟩⟩
    have I1 : Inv X pins σ (upd H s.heap.objs.size (.tup [.int (i : Nat), x])) { s with heap := h'', toks := tk + 1 } :=
      I.turnedNew (ch := [e, it]) (fun b ob hb q => (sb.2 b (fun z => hb (by simp [z]))).trans (hk b ob (fun z => hb (by simp [z])) (fun z => hb (by simp [z])) q)) hf (Nat.le_refl _) new
    refine ⟨.ref s.heap.objs.size, _, I1, rfl, ⟨_, x, rfl, I.hok.fresh (Nat.le_refl _), rfl, fun ys hy => by rw [I.tuple_inj hy hq]; exact hx⟩, ⟨⟨y, ?_⟩, hst'.1.at fun o q => (sb.2 it (Ne.symm hne)).trans q, hne⟩, fun b hb => ?_⟩
    · have e1 : ((i + 1 : Nat) : Int) = (i : Int) + 1 := by omega
      rw [e1]; exact he'
    · have e' : b = e ∨ b = it := by simpa using hb
      have hlt : b < s.heap.objs.size := by
        rcases e' with z | z <;> rw [z] <;> assumption
      rw [upd_ne (Nat.ne_of_lt hlt)]
      exact (hf b hb).1
  done := by
    intro X hP hw hK hc i pins s σ H E I hf st hg
    subst hP hw hK
    obtain ⟨⟨old, he⟩, hit, hne⟩ := st
    obtain ⟨xs, hq, hx⟩ := hg
    obtain ⟨its, rv, p, hz⟩ := I.tuple hq
    obtain ⟨f0, f1, f2, f3, f4, f5⟩ := hf it (by simp)
    have hl := rv.length
    exact enum_endT (I.ok.hd hc) he hit (show s.heap.IsTuple a its.toArray from p) (by simp; omega) fun h' eb => ⟨rfl, I.turned (t' := s.toks) (fun b o hb q => eb b o hb q) f0 f1 f3 f4 f5⟩
  self := fun A i s Q E st h => let ⟨⟨_, he⟩, _⟩ := st; wpAny_pyIter_enum he h
section
variable {C : Gc} {M : Md} {F : Fr} {cf : Cf} {k : Nat} {W : XW} {X : Cx}
theorem pi_enumA {e : Expr} {ta : TA} {p pos tpos : Pos} {elts : List Expr} {kk : Nat} (hg : Gl X "enumerate") (hm : X.mg "enumerate" = none) (ha : PA X [e] ta) (hs : starEach [e] X.env = [(false, eval e X.env)]) :
    PI X (.Tuple elts kk tpos) (.Call (.Name "enumerate" p) [e] [] pos) (fun σ H R => ta σ H fun vs H1 => ∃ a, vs = [.ref a] ∧ (((∃ xs, SqL X.K H1 a xs) ∧ R (Ite X.K a) H1) ∨ ((∃ xs, SqT X.K H1 a xs) ∧ R (IteT X.K a) H1))) := by
  refine ⟨fun pins s σ H R I h => ?_⟩
  refine Call_ (ld_blt I hg hm boot_enumerate (PyProof.Rows.callWith_type1 (thn (ha.run pos pins s σ H _ I h) fun us s1 ⟨vs, H1, I1, r1, q1⟩ => ?_) hs rfl))
  obtain ⟨a, ex, q⟩ := q1
  subst ex
  rw [Vals.ref1 r1]
  have fp : ∀ h' : Heap, ∀ b ∈ [s1.heap.objs.size + 1, s1.heap.objs.size], FpOk X pins H1 b := fun h' b hb => by
    have e' : b = s1.heap.objs.size + 1 ∨ b = s1.heap.objs.size := by simpa using hb
    have hle : s1.heap.objs.size ≤ b := by
      rcases e' with z | z
      · rw [z]; exact Nat.le_add_right _ _
      · rw [z]; exact Nat.le_refl _
    exact I1.fpOk hle (I1.hok.fresh hle)
  rcases q with ⟨⟨xs, hq⟩, q⟩ | ⟨⟨xs, hq⟩, q⟩
  · obtain ⟨its, rv, p', hz⟩ := I1.list hq
    refine call_enumerate_list p'.isList fun h' he hit hsz hk => wpAny_pyIter_enum he ?_
    exact ⟨s1.heap.objs.size + 1, [s1.heap.objs.size + 1, s1.heap.objs.size], _, _, H1, rfl, I1.kept (t' := s1.toks) hk, turn_enum a (s1.heap.objs.size + 1) s1.heap.objs.size, ⟨⟨.none, he⟩, hit, Nat.succ_ne_self _⟩, fp h', q⟩
  · obtain ⟨its, rv, p', hz⟩ := I1.tuple hq
    refine call_enumT (show s1.heap.IsTuple a its.toArray from p') fun h' he hit hsz hk => wpAny_pyIter_enum he ?_
    exact ⟨s1.heap.objs.size + 1, [s1.heap.objs.size + 1, s1.heap.objs.size], _, _, H1, rfl, I1.kept (t' := s1.toks) hk, turn_enumT a (s1.heap.objs.size + 1) s1.heap.objs.size, ⟨⟨.none, he⟩, hit, Nat.succ_ne_self _⟩, fp h', q⟩
theorem yields_enumT {K : PySem.W.Frag} {H : Hp} {a : Addr} {l : List P} {xs : List V} (h : H a = some (.tup xs)) (r : RPs C H l xs) : Yields C (IteT K a) (enumP 0 l) H := by
  intro H' k
  have h' : SqT K H' a xs := SqT.of (k _ _ h trivial)
  have r' := r.keep k
  refine ⟨fun i hi => ⟨xs, h', by rw [enumP_len] at hi; rw [← r'.length]; exact hi⟩, fun i x hx => ?_⟩
  obtain ⟨y, hy, rfl⟩ := enumP_get hx
  obtain ⟨v, h1, h2⟩ := r'.get hy
  refine ⟨⟨xs, v, h', h1⟩, fun v' H2 hy => ?_⟩
  obtain ⟨T, z, rfl, hT, rfl, hz⟩ := hy
  have := hz xs h'
  rw [h1] at this
  cases this
  refine ⟨Same.new hT, pair_rp hT ?_ h2⟩
  rw [Nat.zero_add]; exact RP.int_iff.mpr rfl
theorem g_enum (o : XOk C M F cf k W X) {a : E} {e : Expr} {elts : List Expr} {kk : Nat} {p pos tpos : Pos} (hs : notStar e = true) (hg : glB F.sc "enumerate" = true) (h1 : PE X e (rdE C W (evE cf a))) : PI X (.Tuple elts kk tpos) (.Call (.Name "enumerate" p) [e] [] pos) (rdI C W (evI cf (.enum a))) := by
  refine weakI (pi_enumA (glB_of o.sc hg) (o.blt _ (by decide +kernel)) (pa_cons h1 pa_nil (star_cons hs)) (star_cons hs)) fun σ H Q ⟨μ, st, r, w, hr, h⟩ => ?_
  rw [evI] at h
  refine step w hr h fun d st1 μ1 H1 n1 w1 hr1 h1 v rv => ?_
  split at h1
  · rename_i l
    have rv : RP C H1 (.lst l) v := rv
    obtain ⟨a, xs, rfl, ⟨o, e3⟩, rr⟩ := RP.lst_iff.mp rv
    exact ⟨a, rfl, .inl ⟨⟨xs, .inl (.inr ⟨o, e3⟩)⟩, post.here h1 w1 _ (yields_enum e3 rr)⟩⟩
  · rename_i l
    have rv : RP C H1 (.tup l) v := rv
    obtain ⟨a, xs, rfl, e3, rr⟩ := RP.tup_iff.mp rv
    exact ⟨a, rfl, .inr ⟨⟨xs, SqT.of e3⟩, post.here h1 w1 _ (yields_enumT e3 rr)⟩⟩
  · exact h1.elim
/-! ### a range as a value -/
theorem cr_range1 : CallR X (.type "range") (fun vs H Q => ∃ n, vs = [V.int n] ∧ ∀ p, H p = none → Q (.ref p) (upd H p (.rng 0 n))) := by
  intro pins s σ H vs us Q I r h
  obtain ⟨n, rfl, q⟩ := h
  obtain ⟨u, rfl, t, rfl⟩ := vals1 r
  refine call_range_1 ⟨.ref s.heap.objs.size, upd H s.heap.objs.size (.rng 0 n), I.laid (t' := s.toks + 2) (fun b o e => Heap.get?_push_of_some _ e) (Nat.le_refl _) ?_, rfl, q _ (I.hok.fresh (Nat.le_refl _))⟩
  exact ⟨_, t, _, Heap.get?_push_size _ rfl⟩
theorem g_rngv (o : XOk C M F cf k W X) {a : E} {e : Expr} {p pos : Pos} (hs : notStar e = true) (hg : glB F.sc "range" = true) (h1 : PE X e (rdE C W (evE cf a))) : PE X (.Call (.Name "range" p) [e] [] pos) (rdE C W (evE cf (.rngv a))) := by
  refine weak (pe_callTy cr_range1 (glB_of o.sc hg) (o.blt _ (by decide +kernel)) (by decide +kernel) (pa_cons h1 pa_nil (star_cons hs)) (by decide +kernel) (by decide +kernel) (star_cons hs) rfl) fun σ H Q ⟨μ, st, r, w, hr, h⟩ => ?_
  rw [evE] at h
  refine step w hr h fun d st1 μ1 H1 n1 w1 hr1 h1 v rv => ?_
  split at h1
  · rename_i n
    have rv : RP C H1 (.int n) v := rv
    split at h1
    · refine ⟨n, by rw [RP.int_iff.mp rv], fun q hq => ?_⟩
      exact h1 μ1 _ (Nx.fresh hq) (w1.fresh hq) _ (show RP C _ (.rng 0 n) (.ref q) from RP.rng_iff.mpr ⟨q, rfl, upd_same⟩)
    · exact h1.elim
  · exact h1.elim
/-! ### len(set(list of tuples of ints)) -/
theorem any_beq {x : P} {l : List P} : l.any (P.beq x) = true ↔ x ∈ l := by
  rw [List.any_eq_true]
  exact ⟨fun ⟨y, h1, h2⟩ => by rw [P.eq_of_beq _ _ h2]; exact h1, fun h => ⟨x, h, P.beq_self x⟩⟩
theorem mem_dedupP {x : P} : ∀ {l : List P}, x ∈ dedupP l ↔ x ∈ l
  | [] => by simp [dedupP]
  | y :: l => by
    rw [dedupP]
    split
    · rename_i h
      rw [mem_dedupP, List.mem_cons]
      exact ⟨.inr, fun z => z.elim (fun e => e ▸ any_beq.mp h) id⟩
    · rw [List.mem_cons, List.mem_cons, mem_dedupP]
theorem nodup_dedupP : ∀ {l : List P}, (dedupP l).Nodup
  | [] => .nil
  | y :: l => by
    rw [dedupP]
    split
    · exact nodup_dedupP
    · rename_i h
      rw [List.nodup_cons]
      exact ⟨fun m => h (any_beq.mpr (mem_dedupP.mp m)), nodup_dedupP⟩
def tupI (p : Addr × List Int) : P := .tup (p.2.map .int)
theorem mapInt_inj {a b : List Int} (h : a.map P.int = b.map P.int) : a = b := by
  induction a generalizing b with
  | nil => cases b with
    | nil => rfl
    | cons y b => cases h
  | cons x a ih => cases b with
    | nil => cases h
    | cons y b =>
      rw [List.map_cons, List.map_cons] at h
      injection h with h1 h2
      injection h1 with h1
      rw [h1, ih h2]
theorem ints_rps {H : Hp} : ∀ {l : List P} {xs : List V}, RPs C H l xs → P.hasAll .int l = true → ∃ ns : List Int, l = ns.map P.int ∧ xs = ns.map V.int
  | [], xs, r, _ => ⟨[], rfl, r.of_nil⟩
  | x :: l, xs, r, h => by
    obtain ⟨v, w, rfl, h1, h2⟩ := r.of_cons
    rw [P.hasAll, Bool.and_eq_true] at h
    obtain ⟨ns, e1, e2⟩ := ints_rps h2 h.2
    cases x with
    | int i => exact ⟨i :: ns, by rw [e1]; rfl, by rw [e2, RP.int_iff.mp h1]; rfl⟩
    | _ => exact absurd h.1 (by simp [P.has])
theorem tups_rps {K : PySem.W.Frag} {H : Hp} : ∀ {l : List P} {xs : List V}, RPs C H l xs → P.hasAll (.seq .int) l = true → ∃ ks : List (Addr × List Int), l = ks.map tupI ∧ xs = ks.map (fun p => V.ref p.1) ∧ ∀ p ∈ ks, SqT K H p.1 (p.2.map V.int)
  | [], xs, r, _ => ⟨[], rfl, r.of_nil, fun p h => by cases h⟩
  | x :: l, xs, r, h => by
    obtain ⟨v, w, rfl, h1, h2⟩ := r.of_cons
    rw [P.hasAll, Bool.and_eq_true] at h
    obtain ⟨ks, e1, e2, e3⟩ := tups_rps (K := K) h2 h.2
    cases x with
    | tup m =>
      obtain ⟨a, ys, rfl, ha, rm⟩ := RP.tup_iff.mp h1
      have hm : P.hasAll .int m = true := by simpa [P.has] using h.1
      obtain ⟨ns, f1, f2⟩ := ints_rps rm hm
      refine ⟨(a, ns) :: ks, by rw [e1]; show _ = P.tup (ns.map P.int) :: _; rw [f1], by rw [e2]; rfl, fun p hp => ?_⟩
      rcases List.mem_cons.mp hp with rfl | hp
      · rw [← f2]; exact SqT.of ha
      · exact e3 p hp
    | _ => exact absurd h.1 (by simp [P.has])
theorem dedup_len {ks L : List (Addr × List Int)} (nd : (L.map (·.2)).Nodup) (sub : ∀ p ∈ L, p ∈ ks) (all : ∀ p ∈ ks, p.2 ∈ L.map (·.2)) : (dedupP (ks.map tupI)).length = L.length := by
  have e : (dedupP (ks.map tupI)).Perm ((L.map (·.2)).map fun n => P.tup (n.map P.int)) := by
    refine (List.perm_ext_iff_of_nodup nodup_dedupP ?_).mpr fun x => ?_
    · rw [List.Nodup, List.pairwise_map]
      exact nd.imp fun {a b} h e => h (mapInt_inj (P.tup.inj e))
    · rw [mem_dedupP]
      constructor
      · intro h
        obtain ⟨p, hp, rfl⟩ := List.mem_map.mp h
        exact List.mem_map.mpr ⟨p.2, all p hp, rfl⟩
      · intro h
        obtain ⟨n, hn, rfl⟩ := List.mem_map.mp h
        obtain ⟨p, hp, rfl⟩ := List.mem_map.mp hn
        exact List.mem_map.mpr ⟨p, sub p hp, rfl⟩
  rw [e.length_eq, List.length_map, List.length_map]
theorem g_nset (o : XOk C M F cf k W X) {a : E} {e : Expr} {p p2 q pos : Pos} (hs : notStar e = true) (hg : glB F.sc "len" = true) (hg2 : glB F.sc "set" = true) (h1 : PE X e (rdE C W (evE cf a))) : PE X (.Call (.Name "len" p) [.Call (.Name "set" p2) [e] [] q] [] pos) (rdE C W (evE cf (.un .nset a))) := by
  refine ⟨fun pins s σ H Q I ⟨μ, st, r, w, hr, h⟩ => ?_⟩
  rw [evE] at h
  refine Call_ (ld_blt I (glB_of o.sc hg) (o.blt _ (by decide +kernel)) PySem.boot_len ?_)
  refine PyProof.Rows.callWith_builtin1 (PyProof.Rows.args_cons ?_ rfl) rfl rfl
  refine Call_ (ld_blt I (glB_of o.sc hg2) (o.blt _ (by decide +kernel)) PyProof.Rows.boot_set ?_)
  have hst := star_cons (es := []) (env := X.env) hs
  refine PyProof.Rows.callWith_type1 (PyProof.Rows.args_cons (thn (h1.run pins s σ H (fun v H1 => ∃ (d : D) (st1 : St) (μ1 : List Addr), Wd C H1 μ1 st1 ∧ RD C H1 μ1 d v ∧ post C W σ μ1 H1 (match view st1 d with
      | some x => (match evU .nset x with | some y => R.ok (.p y) st1 | none => .bad)
      | none => .bad) (okD C Q)) I (step w hr h fun d st1 μ1 H1 n1 w1 hr1 h1 v rv => ⟨d, st1, μ1, w1, rv, h1⟩)) fun v s1 ⟨x, H1, I1, r1, q1⟩ => PyProof.Rows.args_nil ?_) hst) hst rfl
  obtain ⟨d, st1, μ1, w1, rv, h1⟩ := q1
  split at h1
  · rename_i y ev
    cases y with
    | lst l =>
      obtain ⟨b, xs, rfl, e1, rr⟩ := view_ok w1 rv ev
      by_cases hb : (P.hasAll (.seq .int) l && decide (l.length < 64)) = true
      · rw [show evU .nset (.lst l) = some (.int (dedupP l).length) from if_pos hb] at h1
        rw [Bool.and_eq_true, decide_eq_true_eq] at hb
        obtain ⟨ks, k1, k2, k3⟩ := tups_rps (K := X.K) rr hb.1
        cases r1
        have hl : SqL X.K H1 b (ks.map fun p => V.ref p.1) := by rw [← k2]; exact .inl e1
        obtain ⟨its, rvs, pl, hz⟩ := I1.list hl
        refine call_set_tups (P := X.prog) (w := X.w) ks (I1.ok.hd o.calm) pl.isList (by simpa using refs_of_vals rvs) (fun p hp => I1.isT (k3 p hp)) (by have := hb.2; rw [k1, List.length_map] at this; exact this) (by have := o.units; omega) fun h' tk L es ep t R g kk => ?_
        refine PyProof.Rows.args_nil ?_
        obtain ⟨ob, ho, hex, hd⟩ := R.ob
        have I2 : Inv X pins σ H1 { s1 with heap := h', toks := tk } := I1.kept kk
        have hn : es.size = (dedupP l).length := by
          rw [SetTR.size (s := { s1 with heap := h', toks := tk }) R, k1]
          exact (dedup_len R.nd (fun p hp => List.mem_of_mem_take (g.sub p hp)) fun p hp => g.all p (by rw [List.take_length]; exact hp)).symm
        have hf := R.few
        refine call_len_set ho hex hd (SetTR.fits (s := { s1 with heap := h', toks := tk }) R) (by rw [SetTR.size (s := { s1 with heap := h', toks := tk }) R]; omega) ⟨.int (dedupP l).length, H1, I2.tok _, ⟨_, by rw [hn]⟩, ?_⟩
        exact post.here h1 w1 (.int (dedupP l).length) (show RP C H1 (.int (dedupP l).length) _ from RP.int_iff.mpr rfl)
      · rw [show evU .nset (.lst l) = none from if_neg hb] at h1
        exact h1.elim
    | _ => exact h1.elim
  · exact h1.elim
end
end Ev

set_option Elab.async false
set_option linter.all false
set_option maxRecDepth 100000
set_option maxHeartbeats 1000000
namespace Ev
open PySem PySem.Spec PyProof.Rows L2

/-! ### methods of built-in types -/
/-- what stands at x is plainly of the type T -/
def TyAt (X : Cx) (T : String) (x : V) (H : Hp) : Prop := ∀ (pins : List (Addr × Obj)) (σ : L2.St) (s : Shared) (v : Value), Inv X pins σ H s → RelV x v → s.TypeIs v T ∧ ∀ a, v = .ref a → ∃ ob, s.heap.get? a = some ob ∧ ob.dict = none
def tMeth (X : Cx) (T : String) (r : V → List V → Hp → VK → Prop) (to : TE) (t : TA) : TE := fun σ H Q => to σ H fun x H1 => TyAt X T x H1 ∧ t σ H1 fun xs H2 => r x xs H2 Q
section
variable {C : Gc} {M : Md} {F : Fr} {cf : Cf} {k : Nat} {W : XW} {X : Cx}
theorem pe_meth1 {o e : Expr} {to : TE} {t : TA} {name : Str} {apos cpos : Pos} {T id : String} {r : V → List V → Hp → VK → Prop} (pa : PlainAttrs T) (slot : Slot T name id) (hty : typeOf (.builtin id) = pure (.type "method_descriptor")) (hm : MtR X id r)
    (ho : PE X o to) (ha : PA X [e] t) (hs : notStar e = true) (hbase : attributeBase o name X.env (eval o X.env) = eval o X.env) (hline : (apos.endLine == cpos.line) = true) : PE X (.Call (.Attribute o name apos) [e] [] cpos) (tMeth X T r to t) := by
  have hst := star_cons (es := []) (env := X.env) hs
  refine ⟨fun pins s σ H Q I h => ?_⟩
  refine wpAny_Call_method_late hbase (by rw [hst]; rfl) hline rfl (thn (ho.run pins s σ H _ I h) fun v s1 ⟨x, H1, I1, r1, ty, q1⟩ => ?_)
  obtain ⟨h1, h2⟩ := ty pins σ s1 v I1 r1
  refine ⟨T, id, pa, slot, hty, h1, h2, ?_⟩
  have hA := ha.run cpos pins s1 σ H1 _ I1 q1
  rw [hst] at hA ⊢
  refine Calls.callWith_builtin (by rfl) (Calls.evalArgs_plain ?_)
  exact thn hA fun us s2 ⟨vs, H2, I2, r2, q2⟩ => hm pins s2 σ H2 x vs v us Q I2 r1 r2 q2
theorem ty_list {a : Addr} {xs : List V} {H : Hp} (h : SqL X.K H a xs) : TyAt X "list" (.ref a) H := fun pins σ s v I r => by
  cases r
  obtain ⟨its, _, ⟨o, n, ho, hc, hd, _⟩, _⟩ := I.list h
  exact ⟨⟨o, ho, hc⟩, fun b e => by cases e; exact ⟨o, ho, hd⟩⟩
theorem base_name {x : Str} {p : Pos} {name : Str} : attributeBase (.Name x p) name X.env (eval (.Name x p) X.env) = eval (.Name x p) X.env := rfl
theorem bind_bind {α β γ : Type} (r : R α) (f : α → St → R β) (g : β → St → R γ) : (r.bind f).bind g = r.bind fun a s => (f a s).bind g := by cases r <;> rfl
/-! ### list(range(..)) -/
theorem rps_rng {H : Hp} {a b : Int} : RPs C H (rngP a b) (rgV a b) := by
  unfold rngP rgV
  induction List.range (b - a).toNat with
  | nil => exact .nil
  | cons i l ih => exact .cons (RP.int_iff.mpr rfl) ih
theorem rgOk_of {a b : Int} (h : rngOk a b = true) : RgOk a b := by
  unfold rngOk at h
  simp only [Bool.and_eq_true, decide_eq_true_eq] at h
  exact ⟨h.1.1.1.1, h.1.1.1.2, h.1.1.2, h.1.2, h.2⟩
theorem g_ofR1 (o : XOk C M F cf k W X) {a : E} {e : Expr} {p pos p2 pos2 : Pos} (hs : notStar e = true) (hg : glB F.sc "list" = true) (hg2 : glB F.sc "range" = true) (h1 : PE X e (rdE C W (evE cf a))) :
    PE X (.Call (.Name "list" p) [.Call (.Name "range" p2) [e] [] pos2] [] pos) (rdL C W (evL cf (.ofR (.rng1 a)))) := by
  refine weak (pe_listRg o.calm (glB_of o.sc hg) (o.blt _ (by decide +kernel)) (prg_1 (glB_of o.sc hg2) (o.blt _ (by decide +kernel)) h1 (star_cons hs))) fun σ H Q ⟨μ, st, r, w, hr, h⟩ => ?_
  rw [evL, evI] at h
  refine step w hr h fun d st1 μ1 H1 n1 w1 hr1 h1 v rv => ?_
  split at h1
  · rename_i n
    have rv : RP C H1 (.int n) v := rv
    split at h1
    · rename_i hok
      exact ⟨n, RP.int_iff.mp rv, rgOk_of hok, fun q hq => listL w1 h1 hq rps_rng⟩
    · exact h1.elim
  · exact h1.elim
theorem g_ofR2 (o : XOk C M F cf k W X) {a b : E} {e e' : Expr} {p pos p2 pos2 : Pos} (hs : notStar e = true) (hs' : notStar e' = true) (hg : glB F.sc "list" = true) (hg2 : glB F.sc "range" = true) (h1 : PE X e (rdE C W (evE cf a))) (h2 : PE X e' (rdE C W (evE cf b))) :
    PE X (.Call (.Name "list" p) [.Call (.Name "range" p2) [e, e'] [] pos2] [] pos) (rdL C W (evL cf (.ofR (.rng2 a b)))) := by
  refine weak (pe_listRg o.calm (glB_of o.sc hg) (o.blt _ (by decide +kernel)) (prg_2 (glB_of o.sc hg2) (o.blt _ (by decide +kernel)) h1 h2 (star_cons hs) (star_cons hs') (star_any (by simp [hs'])))) fun σ H Q ⟨μ, st, r, w, hr, h⟩ => ?_
  rw [evL, evI] at h
  refine step w hr h fun d st1 μ1 H1 n1 w1 hr1 h1 v rv => ?_
  refine step w1 hr1 h1 fun d' st2 μ2 H2 n2 w2 hr2 h2 v' rv' => ?_
  split at h2
  · rename_i i j
    have rv : RP C H2 (.int i) v := rv.nx n2
    have rv' : RP C H2 (.int j) v' := rv'
    split at h2
    · rename_i hok
      exact ⟨i, j, RP.int_iff.mp rv, RP.int_iff.mp rv', rgOk_of hok, fun q hq => listL w2 h2 hq rps_rng⟩
    · exact h2.elim
  · exact h2.elim
/-! ### tuple(range(..)) -/
theorem rng_tup {d : V} {a b : Int} {st : St} {μ : List Addr} {H : Hp} {σ : L2.St} {Q : VK} (w : Wd C H μ st) (h : post C W σ μ H (match view st (.p (.lst (rngP a b))) with
    | some x => (match evU .tuple x with | some y => R.ok (.p y) st | none => .bad)
    | none => .bad) (okD C Q)) (q : Addr) (hq : H q = none) : Q (.ref q) (upd H q (.tup (rgV a b))) :=
  h μ _ (Nx.fresh hq) (w.fresh hq) _ (tupOf hq rps_rng)
theorem g_tupR1 (o : XOk C M F cf k W X) {a : E} {e : Expr} {p pos p2 pos2 : Pos} (hs : notStar e = true) (hg : glB F.sc "tuple" = true) (hg2 : glB F.sc "range" = true) (h1 : PE X e (rdE C W (evE cf a))) :
    PE X (.Call (.Name "tuple" p) [.Call (.Name "range" p2) [e] [] pos2] [] pos) (rdE C W (evE cf (.un .tuple (.frz (.ofR (.rng1 a)))))) := by
  refine weak (pe_tupRg o.calm (glB_of o.sc hg) (o.blt _ (by decide +kernel)) (prg_1 (glB_of o.sc hg2) (o.blt _ (by decide +kernel)) h1 (star_cons hs))) fun σ H Q ⟨μ, st, r, w, hr, h⟩ => ?_
  rw [evE, evE, evL, evI, bind_bind, bind_bind] at h
  refine step w hr h fun d st1 μ1 H1 n1 w1 hr1 h1 v rv => ?_
  split at h1
  · rename_i n
    have rv : RP C H1 (.int n) v := rv
    split at h1
    · rename_i hok
      exact ⟨n, RP.int_iff.mp rv, rgOk_of hok, fun q hq => rng_tup (d := v) w1 h1 q hq⟩
    · exact h1.elim
  · exact h1.elim
theorem g_tupR2 (o : XOk C M F cf k W X) {a b : E} {e e' : Expr} {p pos p2 pos2 : Pos} (hs : notStar e = true) (hs' : notStar e' = true) (hg : glB F.sc "tuple" = true) (hg2 : glB F.sc "range" = true) (h1 : PE X e (rdE C W (evE cf a))) (h2 : PE X e' (rdE C W (evE cf b))) :
    PE X (.Call (.Name "tuple" p) [.Call (.Name "range" p2) [e, e'] [] pos2] [] pos) (rdE C W (evE cf (.un .tuple (.frz (.ofR (.rng2 a b)))))) := by
  refine weak (pe_tupRg o.calm (glB_of o.sc hg) (o.blt _ (by decide +kernel)) (prg_2 (glB_of o.sc hg2) (o.blt _ (by decide +kernel)) h1 h2 (star_cons hs) (star_cons hs') (star_any (by simp [hs'])))) fun σ H Q ⟨μ, st, r, w, hr, h⟩ => ?_
  rw [evE, evE, evL, evI, bind_bind, bind_bind] at h
  refine step w hr h fun d st1 μ1 H1 n1 w1 hr1 h1 v rv => ?_
  rw [bind_bind] at h1
  refine step w1 hr1 h1 fun d' st2 μ2 H2 n2 w2 hr2 h2 v' rv' => ?_
  split at h2
  · rename_i i j
    have rv : RP C H2 (.int i) v := rv.nx n2
    have rv' : RP C H2 (.int j) v' := rv'
    split at h2
    · rename_i hok
      exact ⟨i, j, RP.int_iff.mp rv, RP.int_iff.mp rv', rgOk_of hok, fun q hq => rng_tup (d := v) w2 h2 q hq⟩
    · exact h2.elim
  · exact h2.elim
/-! ### a name's own list or dict, from now on never changed -/
theorem view_mut {μ : List Addr} {st : St} {H : Hp} {n : Nat} {a : Addr} {x : P} (w : Wd C H μ st) (hn : μ[n]? = some a) (e : view st (.obj n) = some x) :
    ∃ u, H a = some u ∧ Mut (some u) ∧ ∀ (H' : Hp) (od : Obj), Keep H H' → H' a = some (.frz od u) → RP C H' x (.ref a) := by
  have hl : n < st.length := by rw [← w.len]; exact (List.getElem?_eq_some_iff.mp hn).1
  have e2 : st[n]? = some st[n] := by simp [hl]
  have hw := w.at_ n a _ hn e2
  dsimp only [view] at e
  rw [e2] at e
  cases q : st[n] with
  | lst l =>
    rw [q] at e hw
    cases e
    obtain ⟨xs, h3, h4⟩ := hw
    exact ⟨_, h3, trivial, fun H' od kk h => RP.lst_iff.mpr ⟨a, xs, rfl, ⟨od, h⟩, h4.keep kk⟩⟩
  | dct ks vs =>
    rw [q] at e hw
    cases e
    obtain ⟨u, h3, h4⟩ := hw
    refine ⟨u, h3, ?_, fun H' od kk h => RP.dct_iff.mpr ⟨a, od, u, rfl, h, h4.keep kk⟩⟩
    rcases h4 with ⟨_, rfl, _⟩ | ⟨_, _, _, rfl, _⟩ <;> trivial
  | ins c fs => rw [q] at e; cases e
  | gone => rw [q] at e; cases e
theorem g_fz (o : XOk C M F cf k W X) {i : Nat} {x : Str} {p : Pos} (hi : F.N[i]? = some x) (hv : visB F.sc x = true) (hn : nmB x = true) : PE X (.Name x p) (rdE C W (evE cf (.fz i))) := by
  obtain ⟨m1, m2, _⟩ := nmB_of hn
  have hx : PE X (.Name x p) (tVar i) := pe_var (by rw [o.N]; exact hi) (by rw [o.sc]; exact visB_of hv) m1 m2
  refine ⟨fun pins s σ H Q I ⟨μ, st, r, w, hr, h⟩ => ?_⟩
  rw [evE] at h
  split at h
  · rename_i n er
    split at h
    · rename_i y ev
      obtain ⟨v, q1, a, q2, rfl⟩ := hr.at_ i (.obj n) er
      obtain ⟨u, hu, mu, rp⟩ := view_mut w q2 ev
      refine thn (hx.run pins s σ H (fun v H2 => v = .ref a ∧ H2 = H) I ⟨.ref a, q1, rfl, rfl⟩) fun v s1 ⟨x1, H2, I1, r1, e1, e2⟩ => ?_
      subst e1 e2
      obtain ⟨od, I2⟩ := I1.lock hu mu
      have ni := mut_im mu
      refine ⟨.ref a, _, I2, r1, h μ _ (Nx.mut (List.mem_of_getElem? q2) hu ni) (w.set q2 hu ni ⟨od, u, upd_same⟩) _ (rp _ od (Keep.mut _ hu ni) upd_same)⟩
    · exact h.elim
  · exact h.elim
/-! ### the place of a number in a list -/
theorem eqV_int {i j : Int} : eqV (.int i) (.int j) = decide (i = j) := by
  show (i == j) = _
  by_cases h : i = j <;> simp [h]
theorem idx_ints {H : Hp} {z : Int} : ∀ {l : List P} {xs : List V} {b : Nat} {q : Int}, RPs C H l xs → P.hasAll .int l = true → idxP (.int z) b l = some q → xs.all flatV = true ∧ ∃ j v, q = ((b + j : Nat) : Int) ∧ xs[j]? = some v ∧ eqV v (.int z) = true ∧ ∀ (m : Nat) (v' : V), m < j → xs[m]? = some v' → eqV v' (.int z) = false
  | [], xs, b, q, h, ha, e => by cases e
  | x :: l, xs, b, q, h, ha, e => by
    obtain ⟨v, w, rfl, h1, h2⟩ := h.of_cons
    rw [P.hasAll, Bool.and_eq_true] at ha
    cases x with
    | int i =>
      have hv : v = .int i := RP.int_iff.mp h1
      subst hv
      have flat : ∀ {l : List P} {xs : List V}, RPs C H l xs → P.hasAll .int l = true → xs.all flatV = true := by
        intro l
        induction l with
        | nil => intro xs h _; rw [h.of_nil]; rfl
        | cons y l ih =>
          intro xs h ha
          obtain ⟨v, w, rfl, h1, h2⟩ := h.of_cons
          rw [P.hasAll, Bool.and_eq_true] at ha
          cases y with
          | int j => rw [RP.int_iff.mp h1, List.all_cons, ih h2 ha.2]; rfl
          | _ => exact absurd ha.1 (by simp [P.has])
      refine ⟨by rw [List.all_cons, flat h2 ha.2]; rfl, ?_⟩
      rw [idxP] at e
      by_cases hb : P.beq (.int i) (.int z) = true
      · rw [if_pos hb] at e
        cases e
        have : i = z := by cases P.eq_of_beq _ _ hb; rfl
        subst this
        exact ⟨0, .int i, by simp, rfl, by rw [eqV_int]; simp, fun m v' hm => absurd hm (Nat.not_lt_zero m)⟩
      · rw [if_neg hb] at e
        obtain ⟨_, j, v, e1, e2, e3, e4⟩ := idx_ints h2 ha.2 e
        refine ⟨j + 1, v, by rw [e1]; congr 1; omega, e2, e3, fun m v' hm hv => ?_⟩
        cases m with
        | zero =>
          cases hv
          rw [eqV_int]
          exact decide_eq_false fun z' => hb (by rw [z']; exact P.beq_self _)
        | succ m => exact e4 m v' (by omega) hv
    | _ => exact absurd ha.1 (by simp [P.has])
theorem g_idxL (o : XOk C M F cf k W X) {a b : E} {x : Str} {e : Expr} {p apos cpos : Pos} (hs : notStar e = true) (hline : (apos.endLine == cpos.line) = true) (h1 : PE X (.Name x p) (rdE C W (evE cf a))) (h2 : PE X e (rdE C W (evE cf b))) :
    PE X (.Call (.Attribute (.Name x p) "index" apos) [e] [] cpos) (rdE C W (evE cf (.idxOf a b))) := by
  refine weak (pe_meth1 PySem.F.plainAttrs_list PySem.F.slot_list_index PySem.F.type_list_index mt_index h1 (pa_cons h2 pa_nil (star_cons hs)) hs base_name hline) fun σ H Q ⟨μ, st, r, w, hr, h⟩ => ?_
  rw [evE] at h
  refine step w hr h fun d st1 μ1 H1 n1 w1 hr1 h1 v rv => ?_
  split at h1
  · rename_i l0 ev0
    obtain ⟨a, xs0, rfl, e0, r0⟩ := view_ok w1 rv ev0
    refine ⟨ty_list (.inl e0), ?_⟩
    refine step w1 hr1 h1 fun d' st2 μ2 H2 n2 w2 hr2 h2 v' rv' => ?_
    split at h2
    · rename_i l z ev
      obtain ⟨a2, xs, ea, e2, r2⟩ := view_ok w2 (rv.nx n2) ev
      split at h2
      · rename_i hall
        split at h2
        · rename_i q eq
          obtain ⟨fl, j, u, rfl, c1, c2, c3⟩ := idx_ints r2 hall eq
          rw [Nat.zero_add] at h2
          exact ⟨a2, xs, .int z, j, u, ea, by rw [RP.int_iff.mp (show RP C H2 (.int z) v' from rv')], .inl e2, rfl, fl, c1, c2, c3, hereD h2 w2 (show RP C H2 (.int (j : Nat)) (.int (j : Nat)) from RP.int_iff.mpr rfl)⟩
        · exact h2.elim
      · exact h2.elim
    · exact h2.elim
  · exact h1.elim
end
end Ev

set_option Elab.async false
set_option linter.all false
set_option maxRecDepth 100000
set_option maxHeartbeats 1000000
namespace Ev
open PySem PySem.Spec PyProof.Rows L2
/-! ### for k, v in d.items() -/
/-- the pairs of the frozen dict at d -/
def Itq (d : Addr) (o : Obj) (u : HO) (kV vV : List V) : It :=
  ⟨fun i H => H d = some (.frz o u) ∧ i < kV.length, fun i H x H' => ∃ p k v, kV[i]? = some k ∧ vV[i]? = some v ∧ x = .ref p ∧ H p = none ∧ H' = upd H p (.tup [k, v]), fun i H => H d = some (.frz o u) ∧ kV.length ≤ i⟩
theorem vals_at {l : List V} {us : List Value} (r : Vals l us) {i : Nat} {u : Value} (h : us[i]? = some u) : ∃ v, l[i]? = some v ∧ RelV v u := by
  have hl := r.length
  have hi : i < l.length := by rw [hl]; exact (List.getElem?_eq_some_iff.mp h).1
  obtain ⟨u', h1, h2⟩ := r.get (List.getElem?_eq_getElem hi)
  rw [h] at h1
  cases h1
  exact ⟨_, List.getElem?_eq_getElem hi, h2⟩
theorem turn_raw {P : Program} {w : World} {K : PySem.W.Frag} {d : Addr} {o : Obj} {u : HO} {es : Array DictEntry} {ep : Nat} {kV vV : List V} {elts : List Expr} {kk : Nat} {tpos : Pos} (it : Addr) (hex : o.ExactDict) (hod : o.data = .dict es ep) (hk : Vals kV (es.toList.map (·.key))) (hv : Vals vV (es.toList.map (·.val))) :
    Turn P w K (.Tuple elts kk tpos) (Itq d o u kV vV) [it] it (fun i h => ∃ ok ov, IsItemIter h it d i es.size ep ok ov) where
  mem := by simp
  obj := fun i h st b hb => by
    obtain rfl : b = it := by simpa using hb
    obtain ⟨ok, ov, e⟩ := st
    exact ⟨_, e, fun v z => nomatch z⟩
  keep := fun i h h' st k => let ⟨ok, ov, e⟩ := st; ⟨ok, ov, k it (by simp) _ e⟩
  item := by
    intro X hP hw hK hc i pins s σ H E I hf st hg
    subst hP hw hK
    obtain ⟨hd, hi⟩ := hg
    obtain ⟨ok, ov, he⟩ := st
    have hm : s.heap.DictRaw d es ep := ⟨o, (I.hok d _ hd).1, hex, hod⟩
    have hsz : kV.length = es.size := by rw [hk.length, List.length_map, Array.length_toList]
    have hlt : i < es.size := by rw [← hsz]; exact hi
    obtain ⟨k, ek, rk⟩ := vals_at hk (i := i) (u := es[i].key) (by rw [List.getElem?_map, List.getElem?_eq_getElem (by simpa using hlt)]; rfl)
    obtain ⟨v, ev, rv⟩ := vals_at hv (i := i) (u := es[i].val) (by rw [List.getElem?_map, List.getElem?_eq_getElem (by simpa using hlt)]; rfl)
    have hit : it < s.heap.objs.size := Heap.lt_size he
    refine wpAny_pyNext_items_item_raw he hm hlt fun h' ho hT hz hkp => ?_
    refine ⟨_, rfl, wpAny_letOwnedTupleGo_items (s := { s with heap := h' }) ho fun h'' he' sb => ?_⟩
    have hT2 : h''.get? s.heap.objs.size = some { cls := .type "tuple", data := .seq #[es[i].key, es[i].val] } := (sb.2 _ (Nat.ne_of_gt hit)).trans hT
    have new : ObjOk X.prog X.w (upd H s.heap.objs.size (.tup [k, v])) h'' s.heap.objs.size (.tup [k, v]) :=
      ⟨by show 2 ≤ sizeLine; decide, [es[i].key, es[i].val], .cons rk (.cons rv .nil), ⟨_, hT2, rfl, _, rfl⟩⟩
    have I1 : Inv X pins σ (upd H s.heap.objs.size (.tup [k, v])) { s with heap := h'' } :=
      I.turnedNew (t' := s.toks) (ch := [it]) (fun b ob hb e => (sb.2 b (by simpa using hb)).trans (hkp b ob (by simpa using hb) e)) hf (Nat.le_refl _) new
    refine ⟨.ref s.heap.objs.size, _, I1, rfl, ⟨_, k, v, ek, ev, rfl, I.hok.fresh (Nat.le_refl _), rfl⟩, ⟨_, _, he'⟩, fun b hb => ?_⟩
    obtain rfl : b = it := by simpa using hb
    rw [upd_ne (Nat.ne_of_lt hit)]
    exact (hf b (by simp)).1
  done := by
    intro X hP hw hK hc i pins s σ H E I hf st hg
    subst hP hw hK
    obtain ⟨hd, hi⟩ := hg
    obtain ⟨f0, f1, f2, f3, f4, f5⟩ := hf it (by simp)
    obtain ⟨ok, ov, he⟩ := st
    have hsz : kV.length = es.size := by rw [hk.length, List.length_map, Array.length_toList]
    exact wpAny_pyNext_items_end_raw (I.ok.hd hc) he ⟨o, (I.hok d _ hd).1, hex, hod⟩ (by rw [← hsz]; exact hi) fun h' eb => ⟨rfl, I.turned (t' := s.toks) (fun b ob hb e => eb b ob hb e) f0 f1 f3 f4 f5⟩
  self := fun A i s Q E st h => let ⟨_, _, e⟩ := st; PySem.W.kcp_self e h
section
variable {C : Gc} {M : Md} {F : Fr} {cf : Cf} {k : Nat} {W : XW} {X : Cx}
theorem yields_items {H : Hp} {d : Addr} {o : Obj} {u : HO} {kV vV : List V} {ks vs : List P} (h : H d = some (.frz o u)) (r1 : RPs C H ks kV) (r2 : RPs C H vs vV) (hl : kV.length = vV.length) : Yields C (Itq d o u kV vV) (pairsP ks vs) H := by
  intro H' kp
  have hd : H' d = some (.frz o u) := kp _ _ h trivial
  have l1 := r1.length
  have l2 := r2.length
  refine ⟨fun i hi => ⟨hd, ?_⟩, fun i x hx => ?_⟩
  · rw [pairsP_len] at hi
    omega
  · obtain ⟨a, b, ha, hb, rfl⟩ := pairsP_get hx
    obtain ⟨va, e1, q1⟩ := r1.get ha
    obtain ⟨vb, e2, q2⟩ := r2.get hb
    refine ⟨⟨hd, (List.getElem?_eq_some_iff.mp e1).1⟩, fun v H2 ⟨p, k', v', h1, h2, h3, h4, h5⟩ => ?_⟩
    rw [e1] at h1
    rw [e2] at h2
    cases h1
    cases h2
    subst h3 h5
    exact ⟨Same.new h4, pair_rp h4 (RP.keep kp _ _ q1) (RP.keep kp _ _ q2)⟩
theorem g_items (o : XOk C M F cf k W X) {a : E} {elts : List Expr} {kk : Nat} {tpos apos cpos : Pos} {e : Expr} (hbase : attributeBase e "items" X.env (eval e X.env) = eval e X.env) (hline : (apos.endLine == cpos.line) = true) (h1 : PE X e (rdE C W (evE cf a))) :
    PI X (.Tuple elts kk tpos) (.Call (.Attribute e "items" apos) [] [] cpos) (rdI C W (evI cf (.items a))) := by
  refine ⟨fun pins s σ H R I ⟨μ, st, r, w, hr, h⟩ => ?_⟩
  rw [evI] at h
  refine wpAny_Call_method (T := "dict") (id := "dict.items") hbase rfl hline PySem.F.plainAttrs_dict PySem.F.slot_dict_items PySem.F.type_dict_items (thn (h1.run pins s σ H (fun v H1 => ∃ ks vs, RP C H1 (.dct ks vs) v ∧ ∀ J, Yields C J (pairsP ks vs) H1 → R J H1) I (step w hr h fun d st1 μ1 H1 n1 w1 hr1 h1 v rv => ?_)) fun u s1 ⟨x, H1, I1, rx, ks, vs, rp, q⟩ => ?_)
  · split at h1
    · exact ⟨_, _, rv, fun J hJ => post.here h1 w1 J hJ⟩
    · exact h1.elim
  · obtain ⟨d, od, uu, rfl, hd, rr⟩ := RP.dct_iff.mp rp
    obtain rfl : u = Value.ref d := rx
    obtain ⟨o', es, ep, kV, vV, D⟩ := raw_of I1 (.inr ⟨od, hd⟩) rr
    have ho : s1.heap.get? d = some od := (I1.hok d _ hd).1
    have eo : o' = od := Option.some.inj (D.get.symm.trans ho)
    subst eo
    have raw : s1.heap.DictRaw d es ep := ⟨o', ho, D.ex, D.dat⟩
    have hll : kV.length = vV.length := by rw [D.kv.length, D.vv.length, List.length_map, List.length_map]
    refine ⟨raw.typeIs, fun a ea => by cases ea; exact ⟨o', ho, D.ex.2.1⟩, ?_⟩
    have I2 : Inv X pins σ H1 { s1 with heap := s1.heap.push { cls := .type "dict_items", data := .fields #[.ref d] } } := I1.kept (t' := s1.toks) fun b ob q => Heap.get?_push_of_some _ q
    have fin : wpAny (model X.prog X.w) X.A (pyIter (.ref s1.heap.objs.size)) (PIE X pins σ (.Tuple elts kk tpos) R) X.xe { s1 with heap := s1.heap.push { cls := .type "dict_items", data := .fields #[.ref d] } } := by
      refine wpAny_pyIter_items_raw (d := d) ⟨_, Heap.get?_push_size _ rfl, rfl, rfl⟩ (raw.at fun o e => Heap.get?_push_of_some _ e) (pi_one (tk := s1.toks) I2 _ (turn_raw _ D.ex D.dat D.kv D.vv) ⟨.none, .none, ?_⟩ (q _ (yields_items hd D.kr D.vr hll)))
      exact Heap.get?_push_size _ rfl
    show wpAny _ _ (callWith cpos (.builtin "dict.items") [.ref d] [] []) _ X.xe s1
    exact method_meetsIn PySem.F.slot_dict_items PySem.F.entry_dict_items rfl (PySem.evalArgs_none ⟨rfl, raw.typeIs, PySem.F.args_dict_items_1 _, _, meets_dict_items_raw d D.nsys, ⟨es, ep, raw⟩, fin⟩)
end
end Ev

set_option Elab.async false
set_option linter.all false
set_option maxRecDepth 100000
set_option maxHeartbeats 1000000
namespace Ev
open PySem PySem.Spec PyProof.Rows L2
/-! ### methods: d.get(k), d.get(k, x), l.pop(), l.count(x) -/
def noSuper : Expr → Bool
  | .Call (.Name _ _) [] [] _ => false
  | _ => true
theorem base_of {o : Expr} {name : Str} {env : Env} {w : Sem Value} (h : noSuper o = true) : attributeBase o name env w = w := by
  unfold attributeBase
  split
  · cases h
  · rfl
theorem star_two {e f : Expr} {env : Env} (h : notStar e = true) (g : notStar f = true) : starEach [e, f] env = [(false, eval e env), (false, eval f env)] := by
  rw [star_cons h, star_cons g]; rfl
section
variable {C : Gc} {M : Md} {F : Fr} {cf : Cf} {k : Nat} {W : XW} {X : Cx}
theorem pe_meth2 {o e f : Expr} {to : TE} {t : TA} {name : Str} {apos cpos : Pos} {T id : String} {r : V → List V → Hp → VK → Prop} (pa : PlainAttrs T) (slot : Slot T name id) (hty : typeOf (.builtin id) = pure (.type "method_descriptor")) (hm : MtR X id r)
    (ho : PE X o to) (ha : PA X [e, f] t) (hs : notStar e = true) (hs2 : notStar f = true) (hbase : attributeBase o name X.env (eval o X.env) = eval o X.env) (hline : (apos.endLine == cpos.line) = true) : PE X (.Call (.Attribute o name apos) [e, f] [] cpos) (tMeth X T r to t) := by
  have hst := star_two (env := X.env) hs hs2
  refine ⟨fun pins s σ H Q I h => ?_⟩
  refine wpAny_Call_method_late hbase (by rw [hst]; rfl) hline rfl (thn (ho.run pins s σ H _ I h) fun v s1 ⟨x, H1, I1, r1, ty, q1⟩ => ?_)
  obtain ⟨h1, h2⟩ := ty pins σ s1 v I1 r1
  refine ⟨T, id, pa, slot, hty, h1, h2, ?_⟩
  have hA := ha.run cpos pins s1 σ H1 _ I1 q1
  rw [hst] at hA ⊢
  refine Calls.callWith_builtin (by rfl) (Calls.evalArgs_plain ?_)
  exact thn hA fun us s2 ⟨vs, H2, I2, r2, q2⟩ => hm pins s2 σ H2 x vs v us Q I2 r1 r2 q2
theorem pe_meth0' {o : Expr} {to : TE} {name : Str} {apos cpos : Pos} {T id : String} {r : V → List V → Hp → VK → Prop} (pa : PlainAttrs T) (slot : Slot T name id) (hty : typeOf (.builtin id) = pure (.type "method_descriptor")) (hm : MtR X id r)
    (ho : PE X o to) (hbase : attributeBase o name X.env (eval o X.env) = eval o X.env) (hline : (apos.endLine == cpos.line) = true) : PE X (.Call (.Attribute o name apos) [] [] cpos) (tMeth X T r to tNil) := by
  refine ⟨fun pins s σ H Q I h => ?_⟩
  refine wpAny_Call_method_late hbase (by rfl) hline rfl (thn (ho.run pins s σ H _ I h) fun v s1 ⟨x, H1, I1, r1, ty, q1⟩ => ?_)
  obtain ⟨h1, h2⟩ := ty pins σ s1 v I1 r1
  refine ⟨T, id, pa, slot, hty, h1, h2, ?_⟩
  exact Calls.callWith_builtin (by rfl) (PySem.evalArgs_none (hm pins s1 σ H1 x [] v [] Q I1 r1 .nil q1))
theorem ty_dict {a : Addr} {u : HO} {ks vs : List P} {H : Hp} (h : Rd H a u) (r : RDc C H a ks vs u) : TyAt X "dict" (.ref a) H := fun pins σ s v I rv => by
  cases rv
  obtain ⟨o, ho, hx⟩ := dct_type I h r
  exact ⟨⟨o, ho, hx.1⟩, fun b e => by cases e; exact ⟨o, ho, hx.2.1⟩⟩
/-- what a get answers -/
def getP (ks vs : List P) (k dflt : P) : P := (dget ks vs k).getD dflt
theorem dct_getOr (hP : X.prog = C.P) (hw : X.w = C.w) (hu : X.A.units + 65 < cLine) {pins : List (Addr × Obj)} {σ : L2.St} {H : Hp} {s : Shared} {Q : Value → Shared → Prop} {a : Addr} {u : HO} {ks vs : List P} {k dflt : P} {y z : V} {v zv : Value} (I : Inv X pins σ H s)
    (hd : Rd H a u) (r : RDc C H a ks vs u) (hk : keyOk ks k = true) (ry : RP C H k y) (rv : RelV y v) (rz : RP C H dflt z) (rzv : RelV z zv) (h : ∀ s' x w, Inv X pins σ H s' → RP C H (getP ks vs k dflt) x → RelV x w → Q w s') :
    wpAny (model X.prog X.w) X.A (call (.builtin "dict.get") [.ref a, v, zv]) Q X.xe s := by
  rcases kind_of hk with ⟨κ, hκ, hf⟩ | ⟨l, rfl, hf⟩
  · obtain ⟨kvs, rfl, e1, e2⟩ := flat_of r hf
    obtain ⟨zz, hs, vs', rel, dd⟩ := dk_rd I.hok hd
    have ey := keyP_V hκ ry
    subst ey
    obtain ⟨g1, g2⟩ := fd_get e1 e2 hκ
    refine call_meetsIn PySem.F.slot_dict_get dd.typeIs PySem.F.entry_dict_get (PySem.F.args_dict_get_3 _ _ _) (meets_dict_get_default (mixKind X.prog X.w) a (kV_is rv) hs zv) ⟨_, dd.mapOf, ?_⟩
    have rel' := rel.val κ
    cases hg : dget ks vs k with
    | some x =>
      obtain ⟨w, q1, q2⟩ := g1 x hg
      rw [q1] at rel'
      obtain ⟨w', hw', rw'⟩ := RelO.some_of (v := w) (o := valueAt vs' κ) rel'
      rw [hw']
      exact h _ w w' (I.tok _) (by unfold getP; rw [hg]; exact q2) rw'
    | none =>
      have q1 := g2 hg
      rw [q1] at rel'
      have : valueAt vs' κ = none := by
        cases e : valueAt vs' κ with
        | none => rfl
        | some w => rw [e] at rel'; exact rel'.elim
      rw [this]
      exact h _ z zv (I.tok _) (by unfold getP; rw [hg]; exact rz) rzv
  · obtain ⟨xs, ws, D⟩ := xd_of I hP hw hd r (by rcases hf with h | ⟨m, r, h⟩; exact .inl h; exact .inr ⟨m, r, h⟩)
    have hk8 : P.isKey 8 (.tup l) = true := by unfold keyOk at hk; rw [Bool.and_eq_true] at hk; exact hk.2
    obtain ⟨κ, e1, d1⟩ := nk_some 8 _ hk8
    obtain ⟨b, ys, rfl, eb, rl⟩ := RP.tup_iff.mp ry
    cases rv
    have ki : (nestedKind C.P C.w).is s.heap κ b := ⟨nis I _ _ _ _ ry rfl e1, d1⟩
    have room : (nestedKind C.P C.w).room X.A.in1 := by show X.A.units + 1 + 8 < cLine; omega
    obtain ⟨g1, g2⟩ := xd_get D.keys D.vals D.rv e1
    rw [hP, hw]
    refine call_meetsIn PySem.F.slot_dict_get D.dict.typeIs PySem.F.entry_dict_get (PySem.F.args_dict_get_3 _ _ _) (meetsH_dict_get_default (nestedKind C.P C.w) a b D.nsys zv) ⟨room, κ, xs, ki, D.dict, ?_⟩
    cases hg : dget ks vs (.tup l) with
    | some x =>
      obtain ⟨b', v', w', e4, rv', rp'⟩ := g1 x hg
      rw [e4]
      exact h _ v' w' (I.tok _) (by unfold getP; rw [hg]; exact rp') rv'
    | none =>
      rw [g2 hg]
      exact h _ z zv (I.tok _) (by unfold getP; rw [hg]; exact rz) rzv
def rGet2 (C : Gc) : V → List V → Hp → VK → Prop := fun x vs H Q => ∃ a u ks ws k dflt y z, x = .ref a ∧ vs = [y, z] ∧ Rd H a u ∧ RDc C H a ks ws u ∧ keyOk ks k = true ∧ RP C H k y ∧ RP C H dflt z ∧ ∀ v, RP C H (getP ks ws k dflt) v → Q v H
theorem mt_get2 (hP : X.prog = C.P) (hw : X.w = C.w) (hu : X.A.units + 65 < cLine) : MtR X "dict.get" (rGet2 C) := by
  intro pins s σ H x xs v us Q I rx rs ⟨a, u, ks, ws, k, dflt, y, z, ex, exs, hd, r, hk, ry, rz, q⟩
  subst ex exs
  cases rx
  obtain ⟨u1, u2, rfl, r1, r2⟩ := Vals.two rs
  exact dct_getOr hP hw hu I hd r hk ry r1 rz r2 fun s' x' w' I' rp' rv' => ⟨x', H, I', rv', q x' rp'⟩
theorem g_get2 (o : XOk C M F cf k W X) {a b d : E} {e e1 e2 : Expr} {apos cpos : Pos} (hn : noSuper e = true) (hs : notStar e1 = true) (hs2 : notStar e2 = true) (hline : (apos.endLine == cpos.line) = true) (h1 : PE X e (rdE C W (evE cf a))) (h2 : PE X e1 (rdE C W (evE cf b))) (h3 : PE X e2 (rdE C W (evE cf d))) :
    PE X (.Call (.Attribute e "get" apos) [e1, e2] [] cpos) (rdE C W (evE cf (.get2 a b d))) := by
  refine weak (pe_meth2 PySem.F.plainAttrs_dict PySem.F.slot_dict_get PySem.F.type_dict_get (mt_get2 (C := C) o.prog o.w o.units) h1 (pa_cons h2 (pa_cons h3 pa_nil (star_cons hs2)) (star_cons hs)) hs hs2 (base_of hn) hline) fun σ H Q ⟨μ, st, r, w, hr, h⟩ => ?_
  rw [evE] at h
  refine step w hr h fun da st1 μ1 H1 n1 w1 hr1 h1 v rv => ?_
  split at h1
  · rename_i ks0 vs0 ev0
    obtain ⟨aa, uu, rfl, hd0, rd0⟩ := view_ok w1 rv ev0
    refine ⟨ty_dict hd0 rd0, ?_⟩
    refine step w1 hr1 h1 fun db st2 μ2 H2 n2 w2 hr2 h2 v' rv' => ?_
    refine step w2 hr2 h2 fun dc st3 μ3 H3 n3 w3 hr3 h3 v'' rv'' => ?_
    split at h3
    · rename_i ks vs kk xx ev
      obtain ⟨a2, u2, ea, hd, rd⟩ := view_ok w3 ((rv.nx n2).nx n3) ev
      cases ea
      split at h3
      · rename_i hk
        exact ⟨aa, u2, ks, vs, kk, xx, v', v'', rfl, rfl, hd, rd, hk, RP.keep n3.keep _ _ (show RP C H2 kk v' from rv'), rv'', fun x rx => hereD h3 w3 (show RD C H3 μ3 (.p _) x from rx)⟩
      · exact h3.elim
    · exact h3.elim
  · exact h1.elim
end
end Ev

set_option Elab.async false
set_option linter.all false
set_option maxRecDepth 100000
set_option maxHeartbeats 1000000
namespace Ev
open PySem PySem.Spec PyProof.Rows L2
theorem hasAll_iff {t : Ty} : ∀ {l : List P}, P.hasAll t l = true ↔ ∀ x ∈ l, P.has t x = true
  | [] => ⟨fun _ x h => (by cases h), fun _ => rfl⟩
  | a :: l => by
    rw [P.hasAll, Bool.and_eq_true, hasAll_iff]
    exact ⟨fun h x hx => (List.mem_cons.mp hx).elim (fun e => e ▸ h.1) (h.2 x), fun h => ⟨h a List.mem_cons_self, fun x hx => h x (List.mem_cons_of_mem _ hx)⟩⟩
/-- sorting asks nothing of the order that was -/
theorem sortP_of_perm {t : Ty} {l m : List P} (h : P.hasAll t l = true) (p : l.Perm m) : sortP l = sortP m := by
  have o := (ord_has t).1
  have hl := all_in h
  have hm : ∀ y ∈ m, P.has t y = true := fun y hy => hl y (p.mem_iff.mpr hy)
  refine List.Perm.eq_of_pairwise (le := fun a b => P.ltb b a = false) (fun a b ha hb h1 h2 => ?_) (sortP_sorted hl) (sortP_sorted hm) (sortP_perm.trans (p.trans sortP_perm.symm))
  exact o.tri a b (hl a (sortP_perm.mem_iff.mp ha)) (hm b (sortP_perm.mem_iff.mp hb)) h2 h1
section
variable {C : Gc} {M : Md} {F : Fr} {cf : Cf} {k : Nat} {W : XW} {X : Cx} {pins : List (Addr × Obj)} {σ : L2.St} {H : Hp} {s : Shared}
theorem perm_map_back {α β : Type} {f : α → β} : ∀ {l : List β} {m : List α}, l.Perm (m.map f) → ∃ n : List α, l = n.map f ∧ n.Perm m
  | l, m, h => by
    revert l
    induction m with
    | nil => intro l h; exact ⟨[], by rw [List.map_nil] at h; exact h.eq_nil, .nil⟩
    | cons a m ih =>
      intro l h
      rw [List.map_cons] at h
      have ha : f a ∈ l := h.mem_iff.mpr List.mem_cons_self
      obtain ⟨x, y, rfl⟩ := List.append_of_mem ha
      have h2 : (x ++ y).Perm (m.map f) := (List.perm_middle.symm.trans h).cons_inv
      obtain ⟨n, e, p⟩ := ih _ h2
      obtain ⟨n1, n2, rfl, e1, e2⟩ := List.map_eq_append_iff.mp e.symm
      exact ⟨n1 ++ a :: n2, by rw [List.map_append, List.map_cons, e1, e2], List.perm_middle.trans (p.cons a)⟩
theorem rps_sub {C : Gc} {H : Hp} : ∀ {ks : List (Addr × List Int)}, RPs C H (ks.map tupI) (ks.map fun p => V.ref p.1) → ∀ M : List (Addr × List Int), (∀ q ∈ M, q ∈ ks) → RPs C H (M.map tupI) (M.map fun q => V.ref q.1)
  | ks, h, [], _ => .nil
  | ks, h, q :: M, hq => by
    refine .cons ?_ (rps_sub h M fun r hr => hq r (List.mem_cons_of_mem _ hr))
    obtain ⟨i, hi, e⟩ := List.mem_iff_getElem.mp (hq q List.mem_cons_self)
    obtain ⟨v, e1, e2⟩ := h.get (i := i) (x := tupI q) (by rw [List.getElem?_map, List.getElem?_eq_getElem hi, e]; rfl)
    rw [List.getElem?_map, List.getElem?_eq_getElem hi, e] at e1
    cases e1
    exact e2
theorem nodup_map_on {L L' : List (Addr × List Int)} (nd : (L.map (·.2)).Nodup) (p : L'.Perm L) : (L'.map tupI).Nodup := by
  have nd' : (L'.map (·.2)).Nodup := ((p.map (·.2)).nodup_iff).mpr nd
  have e : L'.map tupI = (L'.map (·.2)).map fun ns => P.tup (ns.map .int) := by rw [List.map_map]; rfl
  rw [e]
  exact List.Pairwise.map _ (fun a b hab z => hab (mapInt_inj (P.tup.inj z))) nd'
/-- sorted(set(l)), l a list of tuples of ints -/
theorem g_sortset (o : XOk C M F cf k W X) {a : E} {e : Expr} {p p2 q pos : Pos} (hs : notStar e = true) (hg : glB F.sc "sorted" = true) (hg2 : glB F.sc "set" = true) (h1 : PE X e (rdE C W (evE cf a))) : PE X (.Call (.Name "sorted" p) [.Call (.Name "set" p2) [e] [] q] [] pos) (rdL C W (evL cf (.sortset (.seq .int) a))) := by
  refine ⟨fun pins s σ H Q I ⟨μ, st, r, w, hr, h⟩ => ?_⟩
  rw [evL] at h
  refine Call_ (ld_blt I (glB_of o.sc hg) (o.blt _ (by decide +kernel)) (u := .builtin "sorted") (by decide +kernel) ?_)
  refine PyProof.Rows.callWith_builtin1 (PyProof.Rows.args_cons ?_ rfl) rfl rfl
  refine Call_ (ld_blt I (glB_of o.sc hg2) (o.blt _ (by decide +kernel)) PyProof.Rows.boot_set ?_)
  have hst := star_cons (es := []) (env := X.env) hs
  refine PyProof.Rows.callWith_type1 (PyProof.Rows.args_cons (thn (h1.run pins s σ H (fun v H1 => ∃ (l : List P) (st1 : St) (μ1 : List Addr), Wd C H1 μ1 st1 ∧ VP C H1 (.lst l) v ∧ P.hasAll (.seq .int) l = true ∧ l.length ≤ 60 ∧ post C W σ μ1 H1 (.ok (sortP (dedupP l)) st1) (okL C Q)) I (step w hr h fun d st1 μ1 H1 n1 w1 hr1 h1 v rv => ?_)) fun v s1 ⟨x, H1, I1, r1, q1⟩ => PyProof.Rows.args_nil ?_) hst) hst rfl
  · split at h1
    · rename_i l ev
      split at h1
      · rename_i hb
        rw [Bool.and_eq_true, Bool.and_eq_true, decide_eq_true_eq] at hb
        exact ⟨l, st1, μ1, w1, view_ok w1 rv ev, hb.1.2, hb.2, h1⟩
      · exact h1.elim
    · exact h1.elim
  · obtain ⟨l0, st1, μ1, w1, vp, hall, hlen60, h1⟩ := q1
    obtain ⟨b, xs, rfl, e1, rr⟩ := vp
    obtain ⟨ks, k1, k2, k3⟩ := tups_rps (K := X.K) rr hall
    cases r1
    have hl : SqL X.K H1 b (ks.map fun p => V.ref p.1) := by rw [← k2]; exact .inl e1
    obtain ⟨its0, rvs, pl, hz0⟩ := I1.list hl
    refine call_set_tups (P := X.prog) (w := X.w) ks (I1.ok.hd o.calm) pl.isList (by simpa using refs_of_vals rvs) (fun p hp => I1.isT (k3 p hp)) (by rw [k1, List.length_map] at hlen60; omega) (by have := o.units; omega) fun h2 tk2 L es ep t R g kk => ?_
    refine PyProof.Rows.args_nil ?_
    obtain ⟨ob, ho, hex, hd⟩ := R.ob
    have I2 : Inv X pins σ H1 { s1 with heap := h2, toks := tk2 } := I1.kept kk
    refine Calls.call_function_entry kind_sorted plain_sorted entry_sorted (args_sorted1 _) ?_
    unfold Builtin.«sorted»
    refine wpAny_bind (m := checkCount "sorted" 1 1 _) (wpAny_pure ?_)
    have hfew := R.few
    have hsz := SetTR.size (s := { s1 with heap := h2, toks := tk2 }) R
    refine wpAny_bind (collect_set (A := X.A.in1) (I1.ok.hd o.calm) ⟨ob, ho, hex.1, hd⟩ (SetTR.fits (s := { s1 with heap := h2, toks := tk2 }) R) (by unfold scanBound; omega) R.tab.ris R.led fun s3 its k3' hz3 g3 o3 pm => ?_)
    have e3 : s3 = { s1 with heap := s3.heap, gens := s3.gens, drawn := s3.drawn, toks := s3.toks } := by
      cases s3
      cases s1
      cases o3
      rfl
    have I3 : Inv X pins σ H1 { s1 with heap := s3.heap, gens := s3.gens, drawn := s3.drawn, toks := s3.toks } :=
      Inv.call (s := { s1 with heap := h2, toks := tk2 }) (ch := []) I2 (Un.kept k3') (I2.hok.kept k3') (by rw [g3]; exact I2.bare) (fun _ z => nomatch z)
    rw [e3]
    generalize s3.heap = h3 at I3 hz3 k3' ⊢
    generalize s3.gens = gg3 at I3 ⊢
    generalize s3.drawn = dd3 at I3 ⊢
    generalize s3.toks = tt3 at I3 ⊢
    -- the values: the distinct tuples, in some order
    have hes : es.toList.map (·.2) = L.map fun q => Value.ref q.1 := by
      rw [R.rows]
      unfold rowsOf
      rw [List.map_map]
      rfl
    rw [hes] at pm
    obtain ⟨L', hL1, hL2⟩ := perm_map_back pm
    subst hL1
    have subL : ∀ q ∈ L, q ∈ ks := fun p hp => List.mem_of_mem_take (g.sub p hp)
    have allL : ∀ p ∈ ks, p.2 ∈ L.map (·.2) := fun p hp => g.all p (by rw [List.take_length]; exact hp)
    have rpL : ∀ M : List (Addr × List Int), (∀ q ∈ M, q ∈ ks) → RPs C H1 (M.map tupI) (M.map fun q => V.ref q.1) := rps_sub (by rw [← k1, ← k2]; exact rr)
    have kr : RPs C H1 (L'.map tupI) (L'.map fun q => V.ref q.1) := rpL L' fun q hq => subL q (hL2.mem_iff.mp hq)
    have rv : Vals (L'.map fun q => V.ref q.1) (L'.map fun q => Value.ref q.1) := vals_of_refs L'
    have ht : P.hasAll (.seq .int) (L'.map tupI) = true := hasAll_iff.mpr fun x hx => by
      obtain ⟨q, hq, rfl⟩ := List.mem_map.mp hx
      exact hasAll_iff.mp hall _ (by rw [k1]; exact List.mem_map_of_mem (subL q (hL2.mem_iff.mp hq)))
    have hsort : sortP (dedupP l0) = sortP (L'.map tupI) := by
      refine (sortP_of_perm ht ?_).symm
      refine (List.perm_ext_iff_of_nodup (nodup_map_on R.nd hL2) nodup_dedupP).mpr fun x => ?_
      rw [mem_dedupP, k1]
      constructor
      · intro hx
        obtain ⟨q, hq, rfl⟩ := List.mem_map.mp hx
        exact List.mem_map_of_mem (subL q (hL2.mem_iff.mp hq))
      · intro hx
        obtain ⟨q, hq, rfl⟩ := List.mem_map.mp hx
        obtain ⟨r, hr, er⟩ := List.mem_map.mp (allL q hq)
        exact List.mem_map.mpr ⟨r, hL2.mem_iff.mpr hr, by unfold tupI; rw [er]⟩
    have hlen : (L'.map fun q => Value.ref q.1).length < 64 := by rw [List.length_map, hL2.length_eq]; exact hfew
    have hz : (L'.map fun q => V.ref q.1).length ≤ sizeLine := by rw [List.length_map, hL2.length_eq, sizeLine_eq]; omega
    have hrv := rv.length
    generalize (L'.map fun q => Value.ref q.1) = its at rv hlen hrv ⊢
    generalize (L'.map fun q => V.ref q.1) = kV at rv kr hz hrv
    generalize (L'.map tupI) = l at ht kr hsort
    have hu := o.units
    refine wpAny_bind (wpAny_newList ?_ (by rw [sizeLine_eq]; omega))
    have hoL : (h3.push (seqObj "list" its.toArray 0)).get? h3.objs.size = some (seqObj "list" its.toArray 0) := Heap.get?_push_size _ rfl
    have keepS : ∀ b o, h3.get? b = some o → (PySem.W.sortingHeap (h3.push (seqObj "list" its.toArray 0)) h3.objs.size its).get? b = some o := fun b o e =>
      PySem.W.sortingHeap_old (Nat.ne_of_lt (Heap.lt_size e)) (Heap.get?_push_of_some _ e)
    have er := each_reads I3 o.K kr rv ht
    have er1 := er.mono (R' := fun v d => ∃ as, Reads (PySem.W.sortingHeap (h3.push (seqObj "list" its.toArray 0)) h3.objs.size its) v (P.dat d) as) fun _ _ ⟨as, r⟩ => ⟨as, PyProof.Rows.Reads.keeps (fun b o e => keepS b o e) r⟩
    have er2 : PySem.W.EachIs (fun v d => ∃ as, Reads (PySem.W.sortingHeap (h3.push (seqObj "list" its.toArray 0)) h3.objs.size its) v d as) its (l.map P.dat) := PySem.W.each_map (R := fun v d => ∃ as, Reads (PySem.W.sortingHeap (h3.push (seqObj "list" its.toArray 0)) h3.objs.size its) v d as) P.dat er1
    have hal : PySem.W.AllAlike (l.map P.dat) := by
      intro d hd d' hd'
      obtain ⟨x, hx, rfl⟩ := List.mem_map.mp hd
      obtain ⟨y, hy, rfl⟩ := List.mem_map.mp hd'
      obtain ⟨d1, e1, _⟩ := has_py _ x (all_of ht x hx)
      obtain ⟨d2, e2, _⟩ := has_py _ y (all_of ht y hy)
      rw [dat_of e1, dat_of e2]
      exact has_alike _ x y d1 d2 (all_of ht x hx) (all_of ht y hy) e1 e2
    have out := PySem.W.sortVals_data (h' := PySem.W.sortingHeap (h3.push (seqObj "list" its.toArray 0)) h3.objs.size its) (R := fun v b => ∃ z, RelV z v ∧ RP C H1 b z) (enc := P.dat) false (each_rp kr rv) er1 hal
    rw [sortP_eq ht] at out
    refine wpAny_bind (wpAny_holding (wpAny_call_entry slot_list_sort ⟨_, hoL, rfl⟩ entry_list_sort
      (PySem.W.list_sort_vals (s := { s1 with heap := h3.push (seqObj "list" its.toArray 0), gens := gg3, drawn := dd3, toks := tt3 }) hoL (sorts_at (s := { s1 with heap := PySem.W.sortingHeap (h3.push (seqObj "list" its.toArray 0)) h3.objs.size its, gens := gg3, drawn := dd3, toks := tt3 }) er2 ht (by show X.A.units + 1 + 1 + 1 < _; omega)) (by rw [sizeLine_eq]; omega) ⟨_, rfl, ?_⟩) (args_list_sort _)))
    generalize hos : PySem.W.sortVals (PySem.W.dataKind (PySem.W.sortingHeap (h3.push (seqObj "list" its.toArray 0)) h3.objs.size its) (l.map P.dat)) false its its = os at out ⊢
    have hol : os.length = its.length := by rw [← hos]; exact PySem.W.sortVals_length false rfl
    obtain ⟨zs, rz, rp⟩ := rp_each out
    have hz2 : zs.length ≤ sizeLine := by rw [rz.length, hol, sizeLine_eq]; omega
    obtain ⟨e', he'⟩ := sortedHeap_at (vs := its) (out := os.toArray) hoL
    rw [hsort] at h1
    refine wpAny_pure ⟨_, rfl, .ref h3.objs.size, upd H1 h3.objs.size (.lst zs), I3.laid (t' := tt3) (fun b u e => ?_) (Nat.le_refl _) ⟨hz2, os, e', rz, he'⟩, rfl, post.here h1 w1 _ zs (I3.hok.fresh (Nat.le_refl _)) rp⟩
    have hb : b < h3.objs.size := Heap.lt_size e
    rw [sortedHeap_old (Nat.ne_of_lt hb) (by rw [size_push']; exact Nat.lt_succ_of_lt hb)]
    exact Heap.get?_push_of_some _ e
end
end Ev

set_option Elab.async false
set_option linter.all false
set_option maxRecDepth 100000
set_option maxHeartbeats 1000000
namespace Ev
open PySem PySem.Spec PyProof.Rows L2
/-! ### t[::-1] -/
section
variable {prog : Program} {w : World} {A : Around} {E : Value → Shared → Prop} {s : Shared}
theorem fm_congr {α β : Type} {f g : α → Option β} : ∀ {l : List α}, (∀ x ∈ l, f x = g x) → l.filterMap f = l.filterMap g
  | [], _ => rfl
  | a :: l, h => by
    rw [List.filterMap_cons, List.filterMap_cons, h a List.mem_cons_self, fm_congr fun x hx => h x (List.mem_cons_of_mem _ hx)]
theorem places_rev (n : Nat) : Builtin.Slice.slicePlaces ((n : Int) - 1) (-1) (-1) = n := by
  unfold Builtin.Slice.slicePlaces
  rw [if_neg (by omega)]
  split
  · show (((n : Int) - 1 - (-1) - 1) / (-(-1)) + 1).toNat = n
    rw [Int.neg_neg, Int.ediv_one]; omega
  · omega
theorem applied_rev {sl : Addr} {vl vu vs : Value} {n : Nat} {Q : Int × Int × Nat → Shared → Prop} (hs : s.heap.IsSliceOf sl vl vu vs) (pl : IsPart vl none) (pu : IsPart vu none) (ps : IsPart vs (some (-1)))
    (h : Q ((n : Int) - 1, -1, n) s) : wpAny (model prog w) A (Builtin.Slice.sliceApplied (.ref sl) (pure (n : Int))) Q E s := by
  obtain ⟨os, hos, hcs, hds⟩ := id hs
  unfold Builtin.Slice.sliceApplied Builtin.Slice.sliceFields
  refine wpAny_bind (wpAny_bind (wpAny_field hos hds (x := vl) rfl (wpAny_bind (wpAny_field hos hds (x := vu) rfl (wpAny_bind (wpAny_field hos hds (x := vs) rfl (wpAny_pure ?_)))))))
  refine wpAny_bind (HT.slicePart_ ps ?_)
  show wpAny _ _ (if ((-1 : Int) == 0) = true then _ else _) _ _ s
  rw [if_neg (by decide)]
  refine wpAny_bind (HT.slicePart_ pl (wpAny_bind (HT.slicePart_ pu (wpAny_bind (wpAny_pure ?_)))))
  show wpAny _ _ (pure ((n : Int) - 1, (-1 : Int), Builtin.Slice.slicePlaces ((n : Int) - 1) (-1) (-1))) _ _ s
  rw [places_rev]
  exact wpAny_pure h
theorem pick_rev (xs : Array Value) : ((List.range xs.size).filterMap fun (m : Nat) => xs[(((xs.size : Int) - 1) + (m : Int) * (-1)).toNat]?).toArray = xs.toList.reverse.toArray := by
  have e : (List.range xs.size).filterMap (fun (m : Nat) => xs[(((xs.size : Int) - 1) + (m : Int) * (-1)).toNat]?) = ((List.range xs.size).map fun m => xs.size - 1 - m).filterMap (xs[·]?) := by
    rw [List.filterMap_map]
    refine fm_congr fun m hm => ?_
    have hm := List.mem_range.mp hm
    have : (((xs.size : Int) - 1) + (m : Int) * (-1)).toNat = xs.size - 1 - m := by omega
    rw [this]; rfl
  rw [e, PySem.W.krv_range, List.filterMap_reverse, PySem.W.krv_all]
theorem getItem_tuple_rev {t sl : Addr} {items : Array Value} {vl vu vs : Value} {Q : Value → Shared → Prop} (ht : IsTup s.heap t items) (hs : s.heap.IsSliceOf sl vl vu vs) (pl : IsPart vl none) (pu : IsPart vu none) (ps : IsPart vs (some (-1)))
    (h : Q (.ref s.heap.objs.size) { s with heap := s.heap.push { cls := .type "tuple", data := .seq items.toList.reverse.toArray } }) (hsz : items.size ≤ sizeLine) : wpAny (model prog w) A (getItem (.ref t) (.ref sl)) Q E s := by
  have small : sizeOk (.seq items.toList.reverse.toArray) := by
    show items.toList.reverse.toArray.size ≤ sizeLine
    rw [List.size_toArray, List.length_reverse, Array.length_toList]
    exact hsz
  obtain ⟨os, hos, hcs, hds⟩ := id hs
  have hTs : s.TypeIs (.ref sl) "slice" := ⟨os, hos, hcs⟩
  unfold getItem
  try with_reducible refine wpAny_holding ?_
  first | refine wpAny_bind (wpAny_pure ?_) | skip
  refine wpAny_bind (wpAny_sequenceKey ht.typeIs (by decide) ?_)
  refine wpAny_bind (wpAny_callSpecial?_slot (name := Str.ofString "__getitem__") ht.typeIs PyProof.Rows.slot_tuple_getitem
    (wpAny_call_entry PyProof.Rows.slot_tuple_getitem ht.typeIs entry_tuple_getitem ?_ (args_tuple_getitem _ _)))
  show wpAny _ _ (Builtin.Tuple.tupleItemsOf (.ref t) >>= _) _ _ s
  refine wpAny_bind (tupleItemsOf_ ht ?_)
  refine wpAny_bind (wpAny_typeOf hTs ?_)
  rw [if_pos (by decide)]
  refine wpAny_bind (applied_rev hs pl pu ps ?_)
  have hno : ¬ ((((items.size : Int) - 1) == 0 && (-1 : Int) == 1 && items.size == items.size) = true) := by
    rw [show ((-1 : Int) == 1) = false from by decide, Bool.and_false, Bool.false_and]
    exact Bool.false_ne_true
  show wpAny _ _ (if (((items.size : Int) - 1) == 0 && (-1 : Int) == 1 && items.size == items.size) = true then _ else _) _ _ s
  rw [if_neg hno, pick_rev]
  first
    | exact wpAny_bind (m := Builtin.Tuple.tupleExact _) (wpAny_newObj_type (wpAny_pure ⟨_, rfl, wpAny_pure h⟩) small)
    | exact wpAny_bind (m := Builtin.Tuple.tupleExact _) (wpAny_newObj_type (wpAny_bind (wpAny_pure (wpAny_pure ⟨_, rfl, wpAny_pure h⟩))) small)
    | exact wpAny_bind (wpAny_bind (m := Builtin.Tuple.tupleExact _) (wpAny_newObj_type (wpAny_pure (wpAny_pure ⟨_, rfl, wpAny_pure h⟩)) small))
    | exact wpAny_bind (wpAny_bind (m := Builtin.Tuple.tupleExact _) (wpAny_newObj_type (wpAny_pure ⟨_, rfl, wpAny_pure h⟩) small))
end
section
variable {C : Gc} {M : Md} {F : Fr} {cf : Cf} {k : Nat} {W : XW} {X : Cx}
theorem pe_revT {e : Expr} {te : TE} {k : Nat} {p1 p2 p3 pos : Pos} (he : PE X e te) : PE X (.Subscript e (.Slice none none (some (.UnaryOp .USub (.Constant (.int 1) k p1) p2)) p3) pos)
    (fun σ H Q => te σ H fun x H1 => ∃ a xs, x = .ref a ∧ SqT X.K H1 a xs ∧ ∀ p, H1 p = none → Q (.ref p) (upd H1 p (.tup xs.reverse))) := by
  refine ⟨fun pins s σ H Q I h => ?_⟩
  refine Subscript_ (thn (he.run pins s σ H _ I h) fun v s1 ⟨x, H1, I1, r1, a, xs, ex, hx, q⟩ => ?_)
  subst ex
  cases r1
  have hst : PO X (some (.UnaryOp .USub (.Constant (.int 1) k p1) p2)) (tPart (tUn (L2.rU fun i => .int (-i)) (tC (.int 1)))) := po_some (pe_un un_neg pe_int)
  refine wpAny_Slice (thn (po_none.run pins s1 σ H1 (fun o H2 => o = none ∧ H2 = H1) I1 ⟨rfl, rfl⟩) fun vl s2 ⟨l, H2, I2, pl, el, e2⟩ => ?_)
  subst el e2
  refine thn (po_none.run pins s2 σ H2 (fun o H3 => o = none ∧ H3 = H2) I2 ⟨rfl, rfl⟩) fun vu s3 ⟨u, H3, I3, pu, eu, e3⟩ => ?_
  subst eu e3
  refine thn (hst.run pins s3 σ H3 (fun o H4 => o = some (-1) ∧ H4 = H3) I3 ⟨1, rfl, -1, rfl, rfl, rfl⟩) fun vs s4 ⟨o, H4, I4, ps, eo, e4⟩ => ?_
  subst eo e4
  have I5 : Inv X pins σ H4 { s4 with heap := s4.heap.push { cls := .type "slice", data := .fields #[vl, vu, vs] } } := I4.kept (t' := s4.toks) fun b ob q => Heap.get?_push_of_some _ q
  obtain ⟨its, r, ht, hz⟩ := I5.tuple hx
  have hlen := r.length
  show wpAny (model X.prog X.w) X.A (subscriptTail e (.Slice none none (some (.UnaryOp .USub (.Constant (.int 1) k p1) p2)) p3) (.ref a) (.ref s4.heap.objs.size)) (EP X pins σ Q) X.xe { s4 with heap := s4.heap.push { cls := .type "slice", data := .fields #[vl, vu, vs] } }
  refine tail_any (ops := [.ref a, .ref s4.heap.objs.size]) ht.typeIs (PyProof.Rows.slot_tuple_getitem.lookup) ?_ (by with_unfolding_all rfl)
  refine getItem_tuple_rev ht (Heap.IsSliceOf.new _ vl vu vs) pl pu ps ?_ (by rw [List.size_toArray]; omega)
  refine ⟨.ref _, _, I5.laid (t' := s4.toks) (o := .tup xs.reverse) (fun b ob q => Heap.get?_push_of_some _ q) (Nat.le_refl _) ?_, rfl, q _ (I5.hok.fresh (Nat.le_refl _))⟩
  exact ⟨by rw [List.length_reverse]; exact hz, _, r.reverse, ⟨_, Heap.get?_push_size _ rfl, rfl, _, rfl⟩⟩
theorem RPs.reverse {H : Hp} {l : List P} {vs : List V} (h : RPs C H l vs) : RPs C H l.reverse vs.reverse := by
  induction l generalizing vs with
  | nil => rw [h.of_nil]; exact .nil
  | cons x l ih =>
    obtain ⟨v, r, rfl, h1, h2⟩ := h.of_cons
    rw [List.reverse_cons, List.reverse_cons]
    exact (ih h2).append (.cons h1 .nil)
theorem g_revT {a : E} {e : Expr} {k : Nat} {p1 p2 p3 pos : Pos} (h1 : PE X e (rdE C W (evE cf a))) : PE X (.Subscript e (.Slice none none (some (.UnaryOp .USub (.Constant (.int 1) k p1) p2)) p3) pos) (rdE C W (evE cf (.rev a))) := by
  refine weak (pe_revT h1) fun σ H Q ⟨μ, st, r, w, hr, h⟩ => ?_
  rw [evE] at h
  refine step w hr h fun d st1 μ1 H1 n1 w1 hr1 h1 v rv => ?_
  split at h1
  · rename_i l ev
    obtain ⟨b, xs, rfl, e1, rr⟩ := (view_ok w1 rv ev).tup
    refine ⟨b, xs, rfl, SqT.of e1, fun p hp => ?_⟩
    exact h1 μ1 _ (Nx.fresh hp) (w1.fresh hp) (.ref p) (show RP C _ (.tup l.reverse) (.ref p) from tupOf hp rr.reverse)
  · exact h1.elim
theorem g_revL {a : E} {e : Expr} {k : Nat} {p1 p2 p3 pos : Pos} (h1 : PE X e (rdE C W (evE cf a))) : PE X (.Subscript e (.Slice none none (some (.UnaryOp .USub (.Constant (.int 1) k p1) p2)) p3) pos) (rdL C W (evL cf (.rev a))) := by
  refine weak (pe_revL h1) fun σ H Q ⟨μ, st, r, w, hr, h⟩ => ?_
  rw [evL] at h
  refine step w hr h fun d st1 μ1 H1 n1 w1 hr1 h1 v rv => ?_
  split at h1
  · rename_i l ev
    obtain ⟨b, xs, rfl, e1, rr⟩ := view_ok w1 rv ev
    exact ⟨b, xs, rfl, .inl e1, fun p hp => listL w1 h1 hp rr.reverse⟩
  · exact h1.elim
/-! ### l.pop() -/
theorem g_pop (o : XOk C M F cf k W X) {i : Nat} {x : Str} {p apos cpos : Pos} (hi : F.N[i]? = some x) (hv : visB F.sc x = true) (hn : nmB x = true) (hline : (apos.endLine == cpos.line) = true) :
    PE X (.Call (.Attribute (.Name x p) "pop" apos) [] [] cpos) (rdE C W (evE cf (.pop i))) := by
  obtain ⟨m1, m2, _⟩ := nmB_of hn
  have hx : PE X (.Name x p) (tVar i) := pe_var (by rw [o.N]; exact hi) (by rw [o.sc]; exact visB_of hv) m1 m2
  refine weak (pe_meth0' PySem.F.plainAttrs_list PySem.F.slot_list_pop PySem.F.type_list_pop mt_pop hx base_name hline) fun σ H Q ⟨μ, st, r, w, hr, h⟩ => ?_
  rw [evE] at h
  split at h
  · rename_i n er
    split at h
    · rename_i l es
      split at h
      · rename_i y hy
        obtain ⟨vo, q1, aa, q2, rfl⟩ := hr.at_ i (.obj n) er
        obtain ⟨xs, c1, c2⟩ := w.at_ n aa _ q2 es
        obtain ⟨v, hv1, hv2⟩ := c2.get hy
        have ni : ¬ Im (.lst xs) := fun z => z
        have nx := Nx.mut (o := .lst xs.dropLast) (List.mem_of_getElem? q2) c1 ni
        refine ⟨.ref aa, q1, ty_list (.inl (.inl c1)), aa, xs, v, rfl, rfl, c1, by rw [← c2.length]; exact hv1, ?_⟩
        exact h μ _ nx (w.set q2 c1 ni ⟨_, upd_same, RPs.keep (Keep.mut _ c1 ni) _ _ c2.dropLast⟩) v (show RP C _ y v from RP.keep (Keep.mut _ c1 ni) _ _ hv2)
      · exact h.elim
    · exact h.elim
  · exact h.elim
end
end Ev

set_option Elab.async false
set_option linter.all false
set_option maxRecDepth 100000
set_option maxHeartbeats 2000000
/-! what an items view of any dict gives, collected -/
namespace Ev
open PySem PySem.Spec PyProof.Rows L2
section
variable {prog : Program} {w : World} {A : Around} {E : Value → Shared → Prop} {s : Shared}
theorem raw_next {it d S : Addr} {i ep : Nat} {es : Array DictEntry} {Q : Option Value → Shared → Prop} (st : PySem.W.KdxSt s.heap it d S i es.size ep) (hS : S < s.heap.objs.size) (hm : s.heap.DictRaw d es ep) (hi : i < es.size)
    (hQ : ∀ h', PySem.W.KdxSt h' it d S (i + 1) es.size ep → h'.get? s.heap.objs.size = some { cls := .type "tuple", data := .seq #[es[i].key, es[i].val] } → h'.objs.size = s.heap.objs.size + 1 →
      (∀ b o, b ≠ it → s.heap.get? b = some o → h'.get? b = some o) → Q (some (.ref s.heap.objs.size)) { s with heap := h' }) : wpAny (model prog w) A (pyNext (.ref it)) Q E s := by
  rcases st with ⟨rfl, ok, ov, hit⟩ | ⟨ok, ov, a, f, oa, hit, ha, hai, haS⟩
  · exact wpAny_pyNext_items_item_raw hit hm hi fun h' hit' ht hz k => hQ h' (.inr ⟨_, _, _, false, _, hit', ht, Nat.ne_of_gt (Heap.lt_size hit), Nat.ne_of_gt hS⟩) ht hz k
  · exact wpAny_pyNext_items_item_out_raw hit ha hai hm hi fun h' hit' ht hz k => hQ h' (.inr ⟨ok, ov, a, true, oa, hit', k a oa hai ha, hai, haS⟩) ht hz k
theorem raw_stop {it d S : Addr} {i ep : Nat} {es : Array DictEntry} {Q : Option Value → Shared → Prop} (hh : A.handled = none) (st : PySem.W.KdxSt s.heap it d S i es.size ep) (hm : s.heap.DictRaw d es ep) (hi : es.size ≤ i)
    (hQ : ∀ h', Heap.ExtBut it s.heap h' → Q none { s with heap := h' }) : wpAny (model prog w) A (pyNext (.ref it)) Q E s := by
  rcases st with ⟨rfl, ok, ov, hit⟩ | ⟨ok, ov, a, f, oa, hit, _, _, _⟩
  · exact wpAny_pyNext_items_end_raw hh hit hm hi hQ
  · exact wpAny_pyNext_items_end_out_raw hh hit hm hi hQ
/-- the pairs that were made, at rising places -/
structure Gr (es : Array DictEntry) (lo : Addr) (h : Heap) (as : List Addr) : Prop where
  up : as.Pairwise (· < ·)
  above : ∀ a ∈ as, lo < a
  at_ : ∀ (j : Nat) (a : Addr), as[j]? = some a → ∃ hj : j < es.size, h.get? a = some { cls := .type "tuple", data := .seq #[es[j].key, es[j].val] }
theorem Gr.lt {es : Array DictEntry} {lo : Addr} {h : Heap} {as : List Addr} (g : Gr es lo h as) {a : Addr} (ha : a ∈ as) : a < h.objs.size := by
  obtain ⟨j, hj⟩ := List.mem_iff_getElem?.mp ha
  obtain ⟨_, e⟩ := g.at_ j a hj
  exact Heap.lt_size e
theorem raw_loop {R : Result → Shared → Prop} {S I d : Addr} {es : Array DictEntry} {ep : Nat} (hh : A.handled = none) (hSI : S < I) (hSd : d ≠ S) (hId : d ≠ I) (hn : es.size ≤ sizeLine) (res : Value) {h₁ : Heap}
    (hR : ∀ h' tk acc c as, (∀ b o, b ≠ S → b ≠ I → h₁.get? b = some o → h'.get? b = some o) → h'.get? S = some { cls := .type "list", dict := none, data := .seq acc c, slots := #[] } → as.length = es.size → Gr es I h' as →
      acc.toList = as.map Value.ref → R (.ok (.ret res)) { s with heap := h', toks := tk }) :
    ∀ (n i : Nat) (h : Heap) (tk c : Nat) (acc : Array Value) (as : List Addr), es.size - i = n → i ≤ es.size → PySem.W.KdxSt h I d S i es.size ep → h.DictRaw d es ep → (∀ b o, b ≠ S → b ≠ I → h₁.get? b = some o → h.get? b = some o) →
      h.get? S = some { cls := .type "list", dict := none, data := .seq acc c, slots := #[] } → acc.toList = as.map Value.ref → as.length = i → Gr es I h as → I < h.objs.size →
      codeAny (model prog w) A (.builtin "list.extend.loop" ⟨[.ref S, .ref I, res], []⟩) R { s with heap := h, toks := tk } := by
  have hne : S ≠ I := Nat.ne_of_lt hSI
  intro n
  induction n with
  | zero =>
    intro i h tk c acc as hk hi st hD keep hS hacc hal G hI
    refine codeAny_builtin PySem.F.entry_extend_loop ?_
    rw [Around.under_plainId PySem.F.plain_extend_loop _]
    show wpAny _ A.in1 (pyNext (.ref I) >>= _) _ _ _
    refine wpAny_bind (raw_stop (s := { s with heap := h, toks := tk }) (A := A.in1) hh st hD (by omega) fun h' he => ?_)
    refine wpAny_pure (hR h' tk acc c as (fun b o h1 h2 e => he b o h2 (keep b o h1 h2 e)) (he S _ hne hS) (by omega) ⟨G.up, G.above, fun j a hj => ?_⟩ hacc)
    obtain ⟨e1, e2⟩ := G.at_ j a hj
    exact ⟨e1, he a _ (Nat.ne_of_gt (G.above a (List.mem_of_getElem? hj))) e2⟩
  | succ n ih =>
    intro i h tk c acc as hk hi st hD keep hS hacc hal G hI
    have hlt : i < es.size := by omega
    have hsz : acc.size = i := by rw [← Array.length_toList, hacc, List.length_map, hal]
    refine codeAny_builtin PySem.F.entry_extend_loop ?_
    rw [Around.under_plainId PySem.F.plain_extend_loop _]
    show wpAny _ A.in1 (pyNext (.ref I) >>= _) _ _ _
    refine wpAny_bind (raw_next (s := { s with heap := h, toks := tk }) (S := S) st (Heap.lt_size hS) hD hlt fun h' st' ht hz hkp => ?_)
    dsimp only at ht hz hkp ⊢
    have hS' := hkp S _ hne hS
    have up : ∀ b o, b ≠ S → h'.get? b = some o → (h'.update S (Obj.mapSeq (·.push (Value.ref h.objs.size)))).get? b = some o := fun b o hb e => (Heap.get?_update_other _ _ (Ne.symm hb)).trans e
    have hSl : S < h.objs.size := Heap.lt_size hS
    have hT := up _ _ (Nat.ne_of_gt hSl) ht
    show wpAny _ A.in1 (updateSeq S (·.push (Value.ref h.objs.size)) >>= _) _ _ _
    refine wpAny_bind (wpAny_updateSeq hS' rfl (wpAny_pure ⟨plainId_quiet PySem.F.plain_extend_loop _, ih (i + 1) _ tk _ (acc.push (Value.ref h.objs.size)) (as ++ [h.objs.size]) (by omega) hlt (st'.keep up (Ne.symm hne)) (hD.at fun o e => up d o hSd (hkp d o hId e))
      (fun b o h1 h2 e => up b o h1 (hkp b o h2 (keep b o h1 h2 e))) (Heap.get?_update_self _ hS' rfl) (by rw [Array.toList_push, hacc, List.map_append]; rfl) (by rw [List.length_append, hal]; rfl) ⟨?_, ?_, ?_⟩ (Nat.lt_trans hI (Heap.lt_size hT))⟩) (by rw [hsz]; omega) (by show (acc.push (Value.ref h.objs.size)).size ≤ sizeLine + 1; rw [Array.size_push, hsz]; omega))
    · exact List.pairwise_append.mpr ⟨G.up, List.pairwise_singleton _ _, fun a ha b hb => by rw [List.mem_singleton.mp hb]; exact G.lt ha⟩
    · exact fun a ha => (List.mem_append.mp ha).elim (G.above a) fun ha => by rw [List.mem_singleton.mp ha]; exact hI
    · intro j b hj
      rcases Nat.lt_trichotomy j as.length with h1 | h1 | h1
      · rw [List.getElem?_append_left h1] at hj
        obtain ⟨e1, e2⟩ := G.at_ j b hj
        have hb := G.above b (List.mem_of_getElem? hj)
        exact ⟨e1, up b _ (Nat.ne_of_gt (Nat.lt_trans hSI hb)) (hkp b _ (Nat.ne_of_gt hb) e2)⟩
      · subst h1
        have hb : h.objs.size = b := by simpa using hj
        subst hb
        subst hal
        exact ⟨hlt, hT⟩
      · have hnone : (as ++ [h.objs.size])[j]? = none := List.getElem?_eq_none (by rw [List.length_append, List.length_singleton]; omega)
        rw [hnone] at hj; cases hj
theorem raw_extend {R : Result → Shared → Prop} {S r d : Addr} {es : Array DictEntry} {ep c₀ : Nat} (hh : A.handled = none) (hv : s.heap.IsItemsView r d) (hm : s.heap.DictRaw d es ep) (hSr : S ≠ r) (hSd : d ≠ S) (res : Value) (hS : s.heap.get? S = some { cls := .type "list", data := .seq #[] c₀ })
    (hR : ∀ h' tk acc c as, (∀ b o, b ≠ S → s.heap.get? b = some o → h'.get? b = some o) → h'.get? S = some { cls := .type "list", dict := none, data := .seq acc c, slots := #[] } → as.length = es.size → Gr es s.heap.objs.size h' as →
      acc.toList = as.map Value.ref → R (.ok (.ret res)) { s with heap := h', toks := tk }) (hn : es.size ≤ sizeLine) :
    wpAny (model prog w) A.in1 (Builtin.List.listExtendWith (.ref S) (.ref r) res)
      (fun fin s' => match fin with | .done f => R (.ok f) s' | .again c' => c'.quiet = true ∧ codeAny (model prog w) A c' R s') (fun e s' => R (.error e) s') s := by
  have hSI : S < s.heap.objs.size := Heap.lt_size hS
  have hdI : d < s.heap.objs.size := by obtain ⟨o, ho, _⟩ := hm; exact Heap.lt_size ho
  have key : ∀ (h : Heap) (c₁ tk : Nat), (∀ b o, b ≠ S → (s.heap.push { cls := .type "dict_itemiterator", data := .fields #[.none, .bool false, .ref d, .int 0 0, .int es.size 0, .int ep 0, .none, .none] }).get? b = some o → h.get? b = some o) →
      h.get? S = some { cls := .type "list", data := .seq #[] c₁ } → codeAny (model prog w) A (.builtin "list.extend.loop" ⟨[.ref S, .ref s.heap.objs.size, res], []⟩) R { s with heap := h, toks := tk } := fun h c₁ tk hk hS₁ => by
    have hI := hk s.heap.objs.size _ (Nat.ne_of_gt hSI) (Heap.get?_push_size _ rfl)
    exact raw_loop (es := es) (ep := ep) (s := s) (h₁ := s.heap) hh hSI hSd (Nat.ne_of_lt hdI) hn res (fun h' tk' acc c as hk' hS' hl hG hacc => hR h' tk' acc c as (fun b o hb e => hk' b o hb (Nat.ne_of_lt (Heap.lt_size e)) e) hS' hl hG hacc)
      es.size 0 h tk c₁ #[] [] (Nat.sub_zero _) (Nat.zero_le _) (.inl ⟨rfl, .none, .none, hI⟩) (hm.at fun o e => hk d o hSd (Heap.get?_push_of_some _ e)) (fun b o hb _ e => hk b o hb (Heap.get?_push_of_some _ e)) hS₁ rfl rfl
      ⟨List.Pairwise.nil, (fun _ ha => nomatch ha), (fun j a hj => by simp at hj)⟩ (Heap.lt_size hI)
  unfold Builtin.List.listExtendWith
  refine wpAny_bind (wpAny_typeOf (T := "dict_items") hv.typeIs ?_)
  have h1 : Builtin.List.listSameRef (.ref S) (.ref r) = false := by simp [Builtin.List.listSameRef, hSr]
  have h2 : (Value.type "dict_items" == Value.type "list") = false := by decide
  have h3 : (Value.type "dict_items" == Value.type "tuple") = false := by decide
  simp only [h1, h2, h3, Bool.or_false, Bool.false_eq_true, if_false]
  refine wpAny_bind (wpAny_pyIter_items_raw hv hm ?_)
  have hS₁ := Heap.get?_push_of_some { cls := .type "dict_itemiterator", data := .fields #[.none, .bool false, .ref d, .int 0 0, .int es.size 0, .int ep 0, .none, .none] } hS
  refine wpAny_bind (wpAny_holding (PySem.W.kdx_hint (let ⟨o, ho, hc, _⟩ := hv; ⟨o, Heap.get?_push_of_some _ ho, hc⟩) ?_))
  refine wpAny_ite_split (fun _ => ?_) (fun _ => wpAny_pure ⟨plainId_quiet PySem.F.plain_extend_loop _, key _ c₀ _ (fun b o _ e => e) hS₁⟩)
  refine wpAny_bind (wpAny_rule (wpAny_bind ?_))
  show wpAny _ _ (updateSeq S (·.push .none) >>= fun _ => updateSeq S (·.pop)) _ _ _
  refine wpAny_bind (wpAny_updateSeq hS₁ rfl ?_)
  have hS₂ := Heap.get?_update_self (Obj.mapSeq (·.push Value.none)) hS₁ rfl
  refine wpAny_updateSeq (hz := by seq_fits) hS₂ rfl (wpAny_pure ⟨plainId_quiet PySem.F.plain_extend_loop _, key _ _ _ (fun b o hb e => ?_) (Heap.get?_update_self (Obj.mapSeq (·.pop)) hS₂ rfl)⟩)
  exact (Heap.get?_update_other _ _ (Ne.symm hb)).trans ((Heap.get?_update_other _ _ (Ne.symm hb)).trans e)
theorem raw_collect {R : List Value → Shared → Prop} {r d : Addr} {es : Array DictEntry} {ep : Nat} (hh : A.handled = none) (hv : s.heap.IsItemsView r d) (hm : s.heap.DictRaw d es ep) (hn : es.size ≤ sizeLine)
    (h : ∀ (h' : Heap) (tk : Nat) (as : List Addr), (∀ b o, s.heap.get? b = some o → h'.get? b = some o) → as.length = es.size → Gr es s.heap.objs.size h' as → R (as.map Value.ref) { s with heap := h', toks := tk }) :
    wpAny (model prog w) A (collect (.ref r)) R E s := by
  have hr : r < s.heap.objs.size := let ⟨_, ho, _⟩ := hv; Heap.lt_size ho
  have hd : d < s.heap.objs.size := by obtain ⟨o, ho, _⟩ := hm; exact Heap.lt_size ho
  unfold collect
  refine wpAny_bind (wpAny_runValue (codeAny_builtin PyProof.Rows.entry_proto_collect' ?_))
  rw [Around.under_plainId PySem.F.plain_proto_collect _]
  show wpAny _ A.in1 (newList [] >>= fun l => again (.builtin "list.__iadd__" ⟨[l, .ref r], []⟩)) _ _ s
  refine wpAny_bind (wpAny_newObj_type ?_)
  refine wpAny_pure ⟨plainId_quiet PySem.F.plain_list_iadd _, codeAny_builtin PyProof.Rows.entry_list_iadd' ?_⟩
  rw [Around.under_plainId PySem.F.plain_list_iadd _]
  have hS₁ : (s.heap.push { cls := .type "list", data := .seq ([] : List Value).toArray }).get? s.heap.objs.size = some { cls := .type "list", data := .seq #[] } := Heap.get?_push_size _ rfl
  show wpAny _ A.in1 (Builtin.List.listExtendWith (.ref s.heap.objs.size) (.ref r) (.ref s.heap.objs.size)) _ _ _
  have key := raw_extend (prog := prog) (w := w) (A := A) (s := { s with heap := s.heap.push { cls := .type "list", data := .seq ([] : List Value).toArray } }) (es := es) (ep := ep)
    (R := fun (q : Result) (s' : Shared) => ∃ (h' : Heap) (tk : Nat) (acc' : Array Value) (c' : Nat) (as : List Addr), q = .ok (.ret (.ref s.heap.objs.size)) ∧ s' = { s with heap := h', toks := tk } ∧
      (∀ b o, s.heap.get? b = some o → h'.get? b = some o) ∧ h'.get? s.heap.objs.size = some { cls := .type "list", dict := none, data := .seq acc' c', slots := #[] } ∧ as.length = es.size ∧ Gr es s.heap.objs.size h' as ∧ acc'.toList = as.map Value.ref)
    hh (let ⟨o, ho, x⟩ := hv; ⟨o, Heap.get?_push_of_some _ ho, x⟩) (hm.at fun o e => Heap.get?_push_of_some _ e) (S := s.heap.objs.size) (Nat.ne_of_gt hr) (Nat.ne_of_lt hd) (.ref s.heap.objs.size) hS₁
    (fun h' tk acc' c' as hk hS' hl hG hacc => ⟨h', tk, acc', c', as, rfl, rfl, fun b o e => hk b o (Nat.ne_of_lt (Heap.lt_size e)) (Heap.get?_push_of_some _ e), hS', hl, ⟨hG.up, fun a ha => Nat.lt_of_le_of_lt (by show s.heap.objs.size ≤ (s.heap.push _).objs.size; rw [Heap.size_push]; exact Nat.le_succ _) (hG.above a ha), hG.at_⟩, hacc⟩) hn
  refine wpAny_mono key (fun fin s' x => ?_) fun e s' x => ?_
  · cases fin with
    | done f =>
      obtain ⟨h', tk, acc', c', as, e, rfl, hk, hS', hl, hG, hacc⟩ := x
      cases e
      show wpAny _ A (load s.heap.objs.size >>= _) _ _ _
      refine wpAny_bind (wpAny_load hS' (wpAny_pure ?_))
      show R acc'.toList _
      rw [hacc]
      exact h h' tk as hk hl hG
    | again c₁ =>
      refine ⟨x.1, codeAny_mono x.2 fun q s₂ y => ?_⟩
      obtain ⟨h', tk, acc', c', as, rfl, rfl, hk, hS', hl, hG, hacc⟩ := y
      show wpAny _ A (load s.heap.objs.size >>= _) _ _ _
      refine wpAny_bind (wpAny_load hS' (wpAny_pure ?_))
      show R acc'.toList _
      rw [hacc]
      exact h h' tk as hk hl hG
  · obtain ⟨_, _, _, _, _, e', _⟩ := x
    cases e'
end
end Ev

set_option Elab.async false
set_option linter.all false
set_option maxRecDepth 100000
set_option maxHeartbeats 2000000
namespace Ev
open PySem PySem.Spec PyProof.Rows L2
/-! ### sorted(d.items()), sorted(d.values()), list(d.values()) -/
def putV (H : Hp) : List Addr → List (V × V) → Hp
  | a :: as, p :: ps => putV (upd H a (.tup [p.1, p.2])) as ps
  | _, _ => H
theorem putV_off : ∀ {as : List Addr} {ps : List (V × V)} {H : Hp} {b : Addr}, b ∉ as → putV H as ps b = H b
  | [], ps, H, b, _ => by cases ps <;> rfl
  | a :: as, [], H, b, _ => rfl
  | a :: as, p :: ps, H, b, h => by
    rw [putV, putV_off (fun z => h (List.mem_cons_of_mem _ z)), upd_ne fun z => h (by rw [z]; exact List.mem_cons_self)]
theorem putV_at : ∀ {as : List Addr} {ps : List (V × V)} {H : Hp} {j : Nat} {a : Addr} {p : V × V}, as.Nodup → as[j]? = some a → ps[j]? = some p → putV H as ps a = some (.tup [p.1, p.2])
  | [], ps, H, j, a, p, _, h, _ => by simp at h
  | _ :: _, [], H, j, a, p, _, _, h => by simp at h
  | b :: as, q :: ps, H, 0, a, p, nd, h1, h2 => by
    cases h1
    cases h2
    rw [putV, putV_off (List.nodup_cons.mp nd).1, upd_same]
  | b :: as, q :: ps, H, j + 1, a, p, nd, h1, h2 => by
    rw [putV]
    exact putV_at (as := as) (ps := ps) (j := j) (List.nodup_cons.mp nd).2 (by simpa using h1) (by simpa using h2)
section
variable {C : Gc} {M : Md} {F : Fr} {cf : Cf} {k : Nat} {W : XW} {X : Cx} {pins : List (Addr × Obj)} {σ : L2.St} {H : Hp} {s : Shared}
/-- the pairs that were collected stand as tuples -/
theorem pairs_laid {h' : Heap} {tk : Nat} {es : Array DictEntry} {kV vV : List V} {as : List Addr} (I : Inv X pins σ H s) (hk : Vals kV (es.toList.map (·.key))) (hv : Vals vV (es.toList.map (·.val)))
    (kp : ∀ b o, s.heap.get? b = some o → h'.get? b = some o) (hl : as.length = es.size) (G : Gr es s.heap.objs.size h' as) :
    ∃ H' : Hp, Same H H' ∧ (∀ (j : Nat) (a : Addr) (k v : V), as[j]? = some a → kV[j]? = some k → vV[j]? = some v → H' a = some (.tup [k, v])) ∧ Inv X pins σ H' { s with heap := h', toks := tk } := by
  have nd : as.Nodup := List.Pairwise.imp (fun {a b} (h : a < b) => Nat.ne_of_lt h) G.up
  have new : ∀ a ∈ as, H a = none := fun a ha => I.hok.fresh (Nat.le_of_lt (G.above a ha))
  have sm : Same H (putV H as (kV.zip vV)) := fun b o e => by
    rw [putV_off fun z => by rw [new b z] at e; cases e]
    exact e
  have low : ∀ b o, s.heap.get? b = some o → b ∉ as := fun b o e z => absurd (Heap.lt_size e) (Nat.not_lt.mpr (Nat.le_of_lt (G.above b z)))
  refine ⟨putV H as (kV.zip vV), sm, fun j a k v h1 h2 h3 => ?_, ?_⟩
  · exact putV_at (p := (k, v)) nd h1 (by rw [List.getElem?_zip_eq_some]; exact ⟨h2, h3⟩)
  · refine I.call' (s' := { s with heap := h', toks := tk }) (ch := []) rfl ⟨fun b o q _ _ _ => kp b o q, fun b o q _ _ _ => ⟨o.slots, kp b o q⟩, fun b o q n _ => ?_, fun b o q _ => ⟨o, kp b o q⟩, fun b xs q => sm b _ q, fun b o u q => sm b _ q, fun b ps q => ⟨#[], by rw [sm b _ q]; simp⟩⟩ (fun b u q => ?_) I.bare fun b z => by simp at z
    · rw [putV_off (low b o q)]; exact n
    · by_cases hb : b ∈ as
      · obtain ⟨j, hj⟩ := List.mem_iff_getElem?.mp hb
        obtain ⟨hlt, e⟩ := G.at_ j b hj
        obtain ⟨kv, e1, r1⟩ := vals_at hk (i := j) (u := es[j].key) (by rw [List.getElem?_map, List.getElem?_eq_getElem (by simpa using hlt)]; rfl)
        obtain ⟨vv, e2, r2⟩ := vals_at hv (i := j) (u := es[j].val) (by rw [List.getElem?_map, List.getElem?_eq_getElem (by simpa using hlt)]; rfl)
        rw [putV_at (p := (kv, vv)) nd hj (by rw [List.getElem?_zip_eq_some]; exact ⟨e1, e2⟩)] at q
        cases q
        exact ⟨by show 2 ≤ sizeLine; decide, [es[j].key, es[j].val], .cons r1 (.cons r2 .nil), ⟨_, e, rfl, _, rfl⟩⟩
      · rw [putV_off hb] at q
        exact (I.hok b u q).stay (fun d v _ y => kp d v y) (fun d y => sm d _ y) fun d xs y => sm d _ y
theorem pairsP_rps {H' : Hp} : ∀ {ks vs : List P} {kV vV : List V} {as : List Addr}, RPs C H' ks kV → RPs C H' vs vV → as.length = kV.length → kV.length = vV.length → (∀ (j : Nat) (a : Addr) (k v : V), as[j]? = some a → kV[j]? = some k → vV[j]? = some v → H' a = some (.tup [k, v])) → RPs C H' (pairsP ks vs) (as.map V.ref)
  | [], vs, kV, vV, as, r1, r2, l1, l2, h => by
    rw [r1.of_nil] at l1
    have : as = [] := List.length_eq_zero_iff.mp l1
    subst this
    exact .nil
  | a :: ks, vs, kV, vV, as, r1, r2, l1, l2, h => by
    obtain ⟨k, kV', rfl, q1, q2⟩ := r1.of_cons
    cases vV with
    | nil => cases l2
    | cons v vV' =>
      cases vs with
      | nil => exact absurd r2.length (by simp)
      | cons b vs' =>
        obtain ⟨v', w', e, q3, q4⟩ := r2.of_cons
        cases e
        cases as with
        | nil => cases l1
        | cons t ts =>
          refine .cons (RP.tup_iff.mpr ⟨t, [k, v], rfl, h 0 t k v rfl rfl rfl, .cons q1 (.cons q3 .nil)⟩) ?_
          exact pairsP_rps q2 q4 (Nat.succ.inj l1) (Nat.succ.inj l2) fun j a k v h1 h2 h3 => h (j + 1) a k v h1 h2 h3
end
end Ev

set_option Elab.async false
set_option linter.all false
set_option maxRecDepth 100000
set_option maxHeartbeats 2000000
namespace Ev
open PySem PySem.Spec PyProof.Rows L2
section
variable {C : Gc} {M : Md} {F : Fr} {cf : Cf} {k : Nat} {W : XW} {X : Cx} {pins : List (Addr × Obj)} {σ : L2.St} {H : Hp} {s : Shared}
/-- what was collected is sorted, and handed back as a new list -/
theorem sort_tail {A : Around} {Q : VK} (hK : X.K = C.K) (hA : A.units + 55 < cLine) (I : Inv X pins σ H s) {its : List Value} {kV : List V} {l : List P} {t : Ty} (rv : Vals kV its) (kr : RPs C H l kV) (ht : P.hasAll t l = true) (hok : srtOk t = true) (hz : kV.length ≤ sizeLine)
    (q : ∀ p xs, H p = none → RPs C H (sortP l) xs → Q (.ref p) (upd H p (.lst xs))) {R : Fin → Shared → Prop} {E : Value → Shared → Prop} (hR : ∀ p s', EP X pins σ Q (.ref p) s' → R (.done (.ret (.ref p))) s') :
    wpAny (model X.prog X.w) A (newList its >>= fun l => holding [l] (call (.builtin "list.sort") [l] []) >>= fun _ => ret l) R E s := by
  have hrv := rv.length
  have hd := of_decide_eq_true hok
  refine wpAny_bind (wpAny_newList ?_ (by omega))
  have hoL : (s.heap.push (seqObj "list" its.toArray 0)).get? s.heap.objs.size = some (seqObj "list" its.toArray 0) := Heap.get?_push_size _ rfl
  have keepS : ∀ b o, s.heap.get? b = some o → (PySem.W.sortingHeap (s.heap.push (seqObj "list" its.toArray 0)) s.heap.objs.size its).get? b = some o := fun b o e =>
    PySem.W.sortingHeap_old (Nat.ne_of_lt (Heap.lt_size e)) (Heap.get?_push_of_some _ e)
  have er := each_reads I hK kr rv ht
  have er1 := er.mono (R' := fun v d => ∃ as, Reads (PySem.W.sortingHeap (s.heap.push (seqObj "list" its.toArray 0)) s.heap.objs.size its) v (P.dat d) as) fun _ _ ⟨as, r⟩ => ⟨as, PyProof.Rows.Reads.keeps (fun b o e => keepS b o e) r⟩
  have er2 : PySem.W.EachIs (fun v d => ∃ as, Reads (PySem.W.sortingHeap (s.heap.push (seqObj "list" its.toArray 0)) s.heap.objs.size its) v d as) its (l.map P.dat) := PySem.W.each_map (R := fun v d => ∃ as, Reads (PySem.W.sortingHeap (s.heap.push (seqObj "list" its.toArray 0)) s.heap.objs.size its) v d as) P.dat er1
  have hal : PySem.W.AllAlike (l.map P.dat) := by
    intro d hd d' hd'
    obtain ⟨x, hx, rfl⟩ := List.mem_map.mp hd
    obtain ⟨y, hy, rfl⟩ := List.mem_map.mp hd'
    obtain ⟨d1, e1, _⟩ := has_py _ x (all_of ht x hx)
    obtain ⟨d2, e2, _⟩ := has_py _ y (all_of ht y hy)
    rw [dat_of e1, dat_of e2]
    exact has_alike _ x y d1 d2 (all_of ht x hx) (all_of ht y hy) e1 e2
  have out := PySem.W.sortVals_data (h' := PySem.W.sortingHeap (s.heap.push (seqObj "list" its.toArray 0)) s.heap.objs.size its) (R := fun v b => ∃ z, RelV z v ∧ RP C H b z) (enc := P.dat) false (each_rp kr rv) er1 hal
  rw [sortP_eq ht] at out
  refine wpAny_bind (wpAny_holding (wpAny_call_entry slot_list_sort ⟨_, hoL, rfl⟩ entry_list_sort
    (PySem.W.list_sort_vals (s := { s with heap := s.heap.push (seqObj "list" its.toArray 0) }) hoL (sorts_at (s := { s with heap := PySem.W.sortingHeap (s.heap.push (seqObj "list" its.toArray 0)) s.heap.objs.size its }) er2 ht (by show A.units + 1 + _ < _; omega)) (by omega) ⟨_, rfl, ?_⟩) (args_list_sort _)))
  generalize hos : PySem.W.sortVals (PySem.W.dataKind (PySem.W.sortingHeap (s.heap.push (seqObj "list" its.toArray 0)) s.heap.objs.size its) (l.map P.dat)) false its its = os at out ⊢
  have hol : os.length = its.length := by rw [← hos]; exact PySem.W.sortVals_length false rfl
  obtain ⟨zs, rz, rp⟩ := rp_each out
  have hz2 : zs.length ≤ sizeLine := by rw [rz.length, hol]; omega
  obtain ⟨e', he'⟩ := sortedHeap_at (vs := its) (out := os.toArray) hoL
  refine wpAny_pure (hR _ _ ⟨.ref s.heap.objs.size, upd H s.heap.objs.size (.lst zs), I.laid (t' := s.toks) (fun b u e => ?_) (Nat.le_refl _) ⟨hz2, os, e', rz, he'⟩, rfl, q _ zs (I.hok.fresh (Nat.le_refl _)) rp⟩)
  have hb : b < s.heap.objs.size := Heap.lt_size e
  rw [sortedHeap_old (Nat.ne_of_lt hb) (by rw [size_push']; exact Nat.lt_succ_of_lt hb)]
  exact Heap.get?_push_of_some _ e
theorem vals_refs' : ∀ as : List Addr, Vals (as.map V.ref) (as.map Value.ref)
  | [] => .nil
  | _ :: as => .cons rfl (vals_refs' as)
theorem ty_post {W : XW} {σ : L2.St} {μ1 : List Addr} {H1 : Hp} {st1 : St} {d : D} {g : List P → List P → Bool} {r : List P → List P → List P} {Q : VK} (h : post C W σ μ1 H1 (match view st1 d with
      | some (.dct ks vs) => if g ks vs then R.ok (r ks vs) st1 else .bad
      | _ => .bad) (okL C Q)) (w1 : Wd C H1 μ1 st1) {v : V} (rv : RD C H1 μ1 d v) : ∃ ks vs a u, v = .ref a ∧ Rd H1 a u ∧ RDc C H1 a ks vs u ∧ g ks vs = true ∧ post C W σ μ1 H1 (.ok (r ks vs) st1) (okL C Q) := by
  split at h
  · rename_i ks vs ev
    split at h
    · rename_i hg
      obtain ⟨a, u, rfl, e1, e2⟩ := view_ok w1 rv ev
      exact ⟨ks, vs, a, u, rfl, e1, e2, hg, h⟩
    · exact h.elim
  · exact h.elim
theorem g_sortI (o : XOk C M F cf k W X) {t : Ty} {a : E} {e : Expr} {p apos cpos pos : Pos} (hn : noSuper e = true) (hline : (apos.endLine == cpos.line) = true) (hg : glB F.sc "sorted" = true) (h1 : PE X e (rdE C W (evE cf a))) :
    PE X (.Call (.Name "sorted" p) [.Call (.Attribute e "items" apos) [] [] cpos] [] pos) (rdL C W (evL cf (.sortI t a))) := by
  refine ⟨fun pins s σ H Q I ⟨μ, st, r, w, hr, h⟩ => ?_⟩
  rw [evL] at h
  refine Call_ (ld_blt I (glB_of o.sc hg) (o.blt _ (by decide +kernel)) (u := .builtin "sorted") (by decide +kernel) ?_)
  refine PyProof.Rows.callWith_builtin1 (PyProof.Rows.args_cons ?_ rfl) rfl rfl
  refine wpAny_Call_method (T := "dict") (id := "dict.items") (base_of hn) rfl hline PySem.F.plainAttrs_dict PySem.F.slot_dict_items PySem.F.type_dict_items (thn (h1.run pins s σ H (fun v H1 => ∃ (ks vs : List P) (d : Addr) (u : HO) (st1 : St) (μ1 : List Addr), v = .ref d ∧ Rd H1 d u ∧ RDc C H1 d ks vs u ∧ (P.hasAll t (pairsP ks vs) && srtOk t) = true ∧ Wd C H1 μ1 st1 ∧ post C W σ μ1 H1 (.ok (sortP (pairsP ks vs)) st1) (okL C Q)) I (step w hr h fun d st1 μ1 H1 n1 w1 hr1 h1 v rv => ?_)) fun v s1 ⟨x, H1, I1, rx, ks, vs, d, u, st1, μ1, ex, hd, rr, hb, w1, h1⟩ => ?_)
  · obtain ⟨ks, vs, d', u, e1, e2, e3, e4, e5⟩ := ty_post (g := fun ks vs => P.hasAll t (pairsP ks vs) && srtOk t) (r := fun ks vs => sortP (pairsP ks vs)) h1 w1 rv
    exact ⟨ks, vs, d', u, st1, μ1, e1, e2, e3, e4, w1, e5⟩
  · subst ex
    obtain rfl : v = Value.ref d := rx
    obtain ⟨o', es, ep, kV, vV, D⟩ := raw_of I1 hd rr
    have raw : s1.heap.DictRaw d es ep := ⟨o', D.get, D.ex, D.dat⟩
    refine ⟨raw.typeIs, fun a ea => by cases ea; exact ⟨o', D.get, D.ex.2.1⟩, ?_⟩
    have I2 : Inv X pins σ H1 { s1 with heap := s1.heap.push { cls := .type "dict_items", data := .fields #[.ref d] } } := I1.kept (t' := s1.toks) fun b ob q => Heap.get?_push_of_some _ q
    show wpAny _ _ (callWith cpos (.builtin "dict.items") [.ref d] [] []) _ X.xe s1
    refine method_meetsIn PySem.F.slot_dict_items PySem.F.entry_dict_items rfl (PySem.evalArgs_none ⟨rfl, raw.typeIs, PySem.F.args_dict_items_1 _, _, meets_dict_items_raw d D.nsys, ⟨es, ep, raw⟩, ?_⟩)
    refine PyProof.Rows.args_nil ?_
    refine Calls.call_function_entry kind_sorted plain_sorted entry_sorted (args_sorted1 _) ?_
    unfold Builtin.«sorted»
    refine wpAny_bind (m := checkCount "sorted" 1 1 _) (wpAny_pure ?_)
    refine wpAny_bind (raw_collect (A := X.A.in1) (I1.ok.hd o.calm) ⟨_, Heap.get?_push_size _ rfl, rfl, rfl⟩ (raw.at fun o e => Heap.get?_push_of_some _ e) D.size fun h' tk as kp hl G => ?_)
    obtain ⟨H2, sm, hat, I3⟩ := pairs_laid (tk := tk) I2 D.kv D.vv kp hl G
    have l1 : as.length = kV.length := by rw [hl, D.kv.length, List.length_map, Array.length_toList]
    have l2 : kV.length = vV.length := by rw [D.kv.length, D.vv.length, List.length_map, List.length_map]
    have kr := pairsP_rps (RPs.keep (fun b o h _ => sm b o h) _ _ D.kr) (RPs.keep (fun b o h _ => sm b o h) _ _ D.vr) l1 l2 hat
    obtain ⟨b1, b2⟩ : P.hasAll t (pairsP ks vs) = true ∧ srtOk t = true := by rwa [Bool.and_eq_true] at hb
    have hu := o.units
    refine sort_tail (t := t) o.K (by show X.A.units + 1 + 55 < cLine; omega) I3 (vals_refs' as) kr b1 b2 (by rw [List.length_map, hl]; exact D.size) (fun p xs hp rx => (h1.nx (Nx.same sm)) μ1 _ (Nx.refl _ _) (w1.same sm) p xs hp rx) fun p s' hp => ⟨_, rfl, hp⟩
theorem items_vals {es : Array DictEntry} {acc : Array Value} (h : ItemsOf (fun i v => ∃ hi : i < es.size, v = es[i].val) acc es.size) : acc.toList = es.toList.map (·.val) := by
  apply List.ext_getElem?
  intro j
  rw [List.getElem?_map]
  cases hj : acc.toList[j]? with
  | none =>
    have h1 := List.getElem?_eq_none_iff.mp hj
    rw [Array.length_toList, h.1] at h1
    rw [List.getElem?_eq_none (by rw [Array.length_toList]; exact h1)]
    rfl
  | some v =>
    obtain ⟨hi, hv⟩ := h.2 j v (by rw [← Array.getElem?_toList]; exact hj)
    rw [List.getElem?_eq_getElem (by rw [Array.length_toList]; exact hi), hv]
    rfl
/-- the values' view, handed on -/
theorem values_at (o : XOk C M F cf k W X) {a : E} {e : Expr} {apos cpos : Pos} {R : Value → Shared → Prop} {σ : L2.St} {H : Hp} (hn : noSuper e = true) (hline : (apos.endLine == cpos.line) = true) (h1 : PE X e (rdE C W (evE cf a)))
    {T : V → Hp → Prop} {pins : List (Addr × Obj)} {s : Shared} (I : Inv X pins σ H s) (h : rdE C W (evE cf a) σ H T)
    (hR : ∀ (v : V) (H1 : Hp) (s1 : Shared), Inv X pins σ H1 s1 → T v H1 → ∃ ks vs d u, v = .ref d ∧ Rd H1 d u ∧ RDc C H1 d ks vs u ∧
      ∀ o' es ep kV vV, RawD C H1 s1.heap d ks vs o' es ep kV vV → R (.ref s1.heap.objs.size) { s1 with heap := s1.heap.push { cls := .type "dict_values", data := .fields #[.ref d] } }) :
    wpAny (model X.prog X.w) X.A (eval (.Call (.Attribute e "values" apos) [] [] cpos) X.env) R X.xe s := by
  refine wpAny_Call_method (T := "dict") (id := "dict.values") (base_of hn) rfl hline PySem.F.plainAttrs_dict PySem.F.slot_dict_values PySem.F.type_dict_values (thn (h1.run pins s σ H T I h) fun v s1 ⟨x, H1, I1, rx, hT⟩ => ?_)
  obtain ⟨ks, vs, d, u, ex, hd, rr, hq⟩ := hR x H1 s1 I1 hT
  subst ex
  obtain rfl : v = Value.ref d := rx
  obtain ⟨o', es, ep, kV, vV, D⟩ := raw_of I1 hd rr
  have raw : s1.heap.DictRaw d es ep := ⟨o', D.get, D.ex, D.dat⟩
  refine ⟨raw.typeIs, fun a ea => by cases ea; exact ⟨o', D.get, D.ex.2.1⟩, ?_⟩
  show wpAny _ _ (callWith cpos (.builtin "dict.values") [.ref d] [] []) _ X.xe s1
  exact method_meetsIn PySem.F.slot_dict_values PySem.F.entry_dict_values rfl (PySem.evalArgs_none ⟨rfl, raw.typeIs, PySem.F.args_dict_values_1 _, _, meets_dict_values_raw d D.nsys, ⟨es, ep, raw⟩, hq _ _ _ _ _ D⟩)
theorem g_vals (o : XOk C M F cf k W X) {a : E} {e : Expr} {p apos cpos pos : Pos} (hn : noSuper e = true) (hline : (apos.endLine == cpos.line) = true) (hg : glB F.sc "list" = true) (h1 : PE X e (rdE C W (evE cf a))) :
    PE X (.Call (.Name "list" p) [.Call (.Attribute e "values" apos) [] [] cpos] [] pos) (rdL C W (evL cf (.vals a))) := by
  refine ⟨fun pins s σ H Q I ⟨μ, st, r, w, hr, h⟩ => ?_⟩
  rw [evL] at h
  refine Call_ (ld_blt I (glB_of o.sc hg) (o.blt _ (by decide +kernel)) (u := .type "list") (by decide +kernel) ?_)
  refine PyProof.Rows.callWith_type1 (PyProof.Rows.args_cons (values_at o hn hline h1 (T := fun v H1 => ∃ (ks vs : List P) (d : Addr) (u : HO) (st1 : St) (μ1 : List Addr), v = .ref d ∧ Rd H1 d u ∧ RDc C H1 d ks vs u ∧ Wd C H1 μ1 st1 ∧ post C W σ μ1 H1 (.ok vs st1) (okL C Q)) I (step w hr h fun d st1 μ1 H1 n1 w1 hr1 h1 v rv => ?_) fun v H1 s1 I1 ⟨ks, vs, d, u, st1, μ1, ex, hd, rr, w1, h1⟩ => ⟨ks, vs, d, u, ex, hd, rr, fun o' es ep kV vV D => ?_⟩) rfl) rfl rfl
  · split at h1
    · rename_i ks vs ev
      obtain ⟨b, u, rfl, e1, e2⟩ := view_ok w1 rv ev
      exact ⟨ks, vs, b, u, st1, μ1, rfl, e1, e2, w1, h1⟩
    · exact h1.elim
  · refine PyProof.Rows.args_nil ?_
    have raw : s1.heap.DictRaw d es ep := ⟨o', D.get, D.ex, D.dat⟩
    have I2 : Inv X pins σ H1 { s1 with heap := s1.heap.push { cls := .type "dict_values", data := .fields #[.ref d] } } := I1.kept (t' := s1.toks) fun b ob q => Heap.get?_push_of_some _ q
    refine PySem.W.kdl_call KdlSrc.rawValues (I1.ok.hd o.calm) ⟨⟨_, Heap.get?_push_size _ rfl, rfl, rfl⟩, raw.at fun o e => Heap.get?_push_of_some _ e⟩ D.size fun h' tk acc' c' kp e it => ?_
    have ea := items_vals it
    have hz : vV.length ≤ sizeLine := by rw [D.vv.length, List.length_map, Array.length_toList]; exact D.size
    exact ⟨.ref _, _, I2.laid (t' := tk) (o := .lst vV) kp (Nat.le_refl _) ⟨hz, acc'.toList, c', by rw [ea]; exact D.vv, by rw [Array.toArray_toList]; exact e⟩, rfl, post.here h1 w1 _ _ (I2.hok.fresh (Nat.le_refl _)) D.vr⟩
theorem g_sortV (o : XOk C M F cf k W X) {t : Ty} {a : E} {e : Expr} {p apos cpos pos : Pos} (hn : noSuper e = true) (hline : (apos.endLine == cpos.line) = true) (hg : glB F.sc "sorted" = true) (h1 : PE X e (rdE C W (evE cf a))) :
    PE X (.Call (.Name "sorted" p) [.Call (.Attribute e "values" apos) [] [] cpos] [] pos) (rdL C W (evL cf (.sortV t a))) := by
  refine ⟨fun pins s σ H Q I ⟨μ, st, r, w, hr, h⟩ => ?_⟩
  rw [evL] at h
  refine Call_ (ld_blt I (glB_of o.sc hg) (o.blt _ (by decide +kernel)) (u := .builtin "sorted") (by decide +kernel) ?_)
  refine PyProof.Rows.callWith_builtin1 (PyProof.Rows.args_cons (values_at o hn hline h1 (T := fun v H1 => ∃ (ks vs : List P) (d : Addr) (u : HO) (st1 : St) (μ1 : List Addr), v = .ref d ∧ Rd H1 d u ∧ RDc C H1 d ks vs u ∧ (P.hasAll t vs && srtOk t) = true ∧ Wd C H1 μ1 st1 ∧ post C W σ μ1 H1 (.ok (sortP vs) st1) (okL C Q)) I (step w hr h fun d st1 μ1 H1 n1 w1 hr1 h1 v rv => ?_) fun v H1 s1 I1 ⟨ks, vs, d, u, st1, μ1, ex, hd, rr, hb, w1, h1⟩ => ⟨ks, vs, d, u, ex, hd, rr, fun o' es ep kV vV D => ?_⟩) rfl) rfl rfl
  · obtain ⟨ks, vs, d', u, e1, e2, e3, e4, e5⟩ := ty_post (g := fun ks vs => P.hasAll t vs && srtOk t) (r := fun ks vs => sortP vs) h1 w1 rv
    exact ⟨ks, vs, d', u, st1, μ1, e1, e2, e3, e4, w1, e5⟩
  · refine PyProof.Rows.args_nil ?_
    have raw : s1.heap.DictRaw d es ep := ⟨o', D.get, D.ex, D.dat⟩
    have I2 : Inv X pins σ H1 { s1 with heap := s1.heap.push { cls := .type "dict_values", data := .fields #[.ref d] } } := I1.kept (t' := s1.toks) fun b ob q => Heap.get?_push_of_some _ q
    refine Calls.call_function_entry kind_sorted plain_sorted entry_sorted (args_sorted1 _) ?_
    unfold Builtin.«sorted»
    refine wpAny_bind (m := checkCount "sorted" 1 1 _) (wpAny_pure ?_)
    refine wpAny_bind (PySem.W.kdu_collect (A := X.A.in1) KdlSrc.rawValues (I1.ok.hd o.calm) ⟨⟨_, Heap.get?_push_size _ rfl, rfl, rfl⟩, raw.at fun o e => Heap.get?_push_of_some _ e⟩ D.size fun h' tk acc kp it => ?_)
    rw [items_vals it]
    have I3 : Inv X pins σ H1 { s1 with heap := h', toks := tk } := I2.kept kp
    obtain ⟨b1, b2⟩ : P.hasAll t vs = true ∧ srtOk t = true := by rwa [Bool.and_eq_true] at hb
    have hu := o.units
    exact sort_tail (t := t) o.K (by show X.A.units + 1 + 55 < cLine; omega) I3 D.vv D.vr b1 b2 (by rw [D.vv.length, List.length_map, Array.length_toList]; exact D.size) (fun p xs hp rx => post.here h1 w1 p xs hp rx) fun p s' hp => ⟨_, rfl, hp⟩
end
end Ev

set_option Elab.async false
set_option linter.all false
set_option maxRecDepth 100000
set_option maxHeartbeats 2000000
namespace Ev
open PySem PySem.Spec PyProof.Rows L2
/-! ### l.count(x) -/
def rCntD (K : PySem.W.Frag) : V → List V → Hp → VK → Prop := fun x xs H Q => ∃ (a : Addr) (y : V) (d : PyData) (ds : List PyData), x = V.ref a ∧ xs = [y] ∧ Dp K H (V.ref a) (.list ds) ∧ Dp K H y d ∧
  SeqAt.shaped (.list ds) = true ∧ SeqAt.shaped d = true ∧ Q (.int (ds.countP fun z => PyData.eqv z d : Nat)) H
section
variable {C : Gc} {M : Md} {F : Fr} {cf : Cf} {k : Nat} {W : XW} {X : Cx}
theorem mt_cntD (hu : X.A.units + 65 < cLine) : MtR X "list.count" (rCntD X.K) := by
  intro pins s σ H x xs v us Q I rx rxs ⟨a, y, d, ds, ex, exs, hl, hy, sl, sd, q⟩
  subst ex exs
  cases rx
  obtain ⟨uy, rfl, ry⟩ := rxs.one
  obtain ⟨bs, r1⟩ := Dp.reads I d y uy hy ry
  have hxs : PyData.canLayAll0 ds = true := SeqAt.canLay_of_shaped sl
  have hroom : X.A.units + 1 + min (PyData.depthAll ds) d.depth < cLine := room_in_shaped sd hu
  cases hl with
  | lst hs ha =>
    obtain ⟨its, rv, ⟨⟨cls, dd, data, sls⟩, n, ho, hc, hdn, hdt⟩, hlen⟩ := I.list hs
    simp only at hc hdt
    subst hc hdt
    obtain ⟨as, h4⟩ := Dp.readsAll I ds _ its ha rv
    have hmap : its.map (SeqAt.readOf s.heap) = ds := SeqAt.readsAll_map ds its as hxs h4
    refine call_meets PySem.F.slot_list_count ⟨_, ho, rfl⟩ PySem.F.entry_list_count (PySem.F.args_list_count_2 _ _)
      (SeqAt.list_countAt a its.toArray n dd sls uy (fun u => PyData.eqv (SeqAt.readOf s.heap u) d)) ⟨ho, SeqAt.items_eqAt (vs := its.toArray) (show ReadsAll s.heap its.toArray.toList ds as from h4) r1 hxs (SeqAt.canLay_of_shaped sd) hroom, ?_⟩
    have ec : its.toArray.toList.countP (fun u => PyData.eqv (SeqAt.readOf s.heap u) d) = ds.countP fun z => PyData.eqv z d := by
      rw [← hmap, List.countP_map]; rfl
    refine ⟨.int (ds.countP fun z => PyData.eqv z d : Nat), H, I.tok _, ⟨s.toks, ?_⟩, q⟩
    show Value.int ((its.toArray.toList.countP (fun u => PyData.eqv (SeqAt.readOf s.heap u) d) : Nat) : Int) s.toks = _
    rw [ec]
theorem cntP_of {x : P} {l : List P} {n : Nat} (h : cntP x l = some n) : ∃ d ds, x.py = some d ∧ P.pys l = some ds ∧ SeqAt.shaped d = true ∧ SeqAt.shaped (.list ds) = true ∧ (ds.countP fun z => PyData.eqv z d) = n := by
  unfold cntP at h
  split at h
  · rename_i d ds h1 h2
    split at h
    · rename_i hs
      rw [Bool.and_eq_true] at hs
      cases h
      exact ⟨d, ds, h1, h2, hs.1, hs.2, rfl⟩
    · cases h
  · cases h
theorem g_cnt (o : XOk C M F cf k W X) {a b : E} {e e1 : Expr} {apos cpos : Pos} (hn : noSuper e = true) (hs : notStar e1 = true) (hline : (apos.endLine == cpos.line) = true) (h1 : PE X e (rdE C W (evE cf a))) (h2 : PE X e1 (rdE C W (evE cf b))) :
    PE X (.Call (.Attribute e "count" apos) [e1] [] cpos) (rdE C W (evE cf (.cnt a b))) := by
  refine weak (pe_meth1 PySem.F.plainAttrs_list PySem.F.slot_list_count PySem.F.type_list_count (mt_cntD o.units) h1 (pa_cons h2 pa_nil (star_cons hs)) hs (base_of hn) hline) fun σ H Q ⟨μ, st, r, w, hr, h⟩ => ?_
  rw [evE] at h
  refine step w hr h fun da st1 μ1 H1 n1 w1 hr1 h1 v rv => ?_
  split at h1
  · rename_i l0 ev0
    obtain ⟨aa, xs0, rfl, e0, r0⟩ := view_ok w1 rv ev0
    refine ⟨ty_list (.inl e0), ?_⟩
    refine step w1 hr1 h1 fun d' st2 μ2 H2 n2 w2 hr2 h2 v' rv' => ?_
    split at h2
    · rename_i l x ev ev'
      obtain ⟨a2, xs, ea, e2, r2⟩ := view_ok w2 (rv.nx n2) ev
      cases ea
      split at h2
      · rename_i n en
        obtain ⟨d, ds, p1, p2, p3, p4, rfl⟩ := cntP_of en
        have vp := view_ok w2 rv' ev'
        exact ⟨aa, v', d, ds, rfl, rfl, .lst (.inl e2) (by rw [o.K]; exact dps_of l xs ds r2 p2), by rw [o.K]; exact vp.dp p1, p4, p3, hereD h2 w2 (show RP C H2 (.int _) _ from RP.int_iff.mpr rfl)⟩
      · exact h2.elim
    · exact h2.elim
  · exact h1.elim
end
end Ev

set_option Elab.async false
set_option linter.all false
set_option maxRecDepth 100000
set_option maxHeartbeats 1000000
namespace Ev
open PySem PySem.Spec PyProof.Rows L2

/-! ### a lambda handed to a def that calls it and tells of its error -/
/-- what a def's exceptions want -/
def leaveX (C : Gc) (E : XK) : XW := fun c fs st μ H σ => ∀ A, C.ga[c]? = some A → ∀ d, ExD C H fs d → E (.ref A) d H
section
variable {C : Gc} {M : Md} {F : Fr} {cf : Cf} {k : Nat} {W : XW} {X : Cx}
/-- the lambda's body, as an expression of its own -/
theorem lam_ok (o : XOk C M F cf k W X) {scope : Scope} {A : Around} {outer : List Env} {s : Shared} {H : Hp} {E : XK} {f c' : Addr} (hr : Room k (A.deeper (LamX.lamEnv X scope s.heap.objs.size f c'))) :
    XOk C M ⟨F.N, scope, fun _ => false, false⟩ cf k (leaveX C E) (lamN X A outer s H E scope f c') := by
  have tk := L2N.takes_of (X := lamN X A outer s H E scope f c') rfl rfl rfl rfl
  refine ⟨o.prog, o.w, o.K, rfl, o.N, o.nd, rfl, fun _ z => (by cases z), hr, o.blt, o.fns, o.fok, o.fnf, o.far, o.gcs, fun σ => ?_, fun z => (by cases z), o.ctc⟩
  exact fun pins H1 s1 e s' I c => tk e s' (L2N.XE.of_call I (fun cls d H' ⟨c, fs, st, μ, A, hA, ec, hd, _, hw⟩ => by subst ec; exact hw A hA d hd) c)
/-- the store, while tables grow -/
theorem Wd.tabs {μ : List Addr} {st : St} {H H1 : Hp} (w : Wd C H μ st) (e : LamX.ExtN H H1) (t : LamX.Tabs C.tbs H1) : Wd C H1 μ st ∧ Nx μ H μ H1 := by
  have kp : Keep H H1 := fun b o h i => e b o h fun ps z => by subst z; exact i
  have same : ∀ a ∈ μ, H1 a = H a ∧ NT ((H a).getD (.own 0)) ∧ ∀ q, H a ≠ some (LamX.CodeO a q) := fun a ha => by
    obtain ⟨n, hn, en⟩ := List.mem_iff_getElem.mp ha
    have h2 : n < st.length := by rw [← w.len]; exact hn
    have ob := w.at_ n a st[n] (by simp [hn, en]) (by simp [h2])
    cases hq : st[n] with
    | lst l =>
      rw [hq] at ob
      obtain ⟨xs, q, _⟩ := ob
      exact ⟨by rw [e a _ q (fun ps z => by cases z), q], by rw [q]; exact fun ps z => (by cases z), fun q' z => by rw [q] at z; cases z⟩
    | dct ks vs =>
      rw [hq] at ob
      obtain ⟨u, q, r⟩ := ob
      have nt : NT u := by rcases r with ⟨_, rfl, _⟩ | ⟨_, _, _, rfl, _⟩ <;> exact fun ps z => by cases z
      exact ⟨by rw [e a _ q nt, q], by rw [q]; exact nt, fun q' z => by rw [q] at z; exact nc_dct r q' (Option.some.inj z)⟩
    | ins c fs =>
      rw [hq] at ob
      obtain ⟨dx, A, vs, _, q, _⟩ := ob
      exact ⟨by rw [e a _ q (fun ps z => by cases z), q], by rw [q]; exact fun ps z => (by cases z), fun q' z => by rw [q] at z; cases z⟩
    | gone =>
      rw [hq] at ob
      obtain ⟨od, u, q⟩ := ob
      exact ⟨by rw [e a _ q (fun ps z => by cases z), q], by rw [q]; exact fun ps z => (by cases z), fun q' z => by rw [q] at z; cases z⟩
  refine ⟨w.keep kp (fun a ha => (same a ha).1) fun p hp => ?_, List.prefix_rfl, kp, fun b o h m nt => e b o h nt, fun b m n => absurd m n⟩
  obtain ⟨ps, h1, h2, h3⟩ := t p hp
  have nT : ∀ a ∈ μ, ∀ ps, H1 a ≠ some (.tbl ps) := fun a ha ps z => by
    obtain ⟨q1, q2, _⟩ := same a ha
    rw [q1] at z
    rw [z] at q2
    exact q2 ps rfl
  have nC : ∀ a ∈ μ, ∀ q, H1 a ≠ some (LamX.CodeO a q) := fun a ha q z => by
    obtain ⟨q1, _, q3⟩ := same a ha
    rw [q1] at z
    exact q3 q z
  refine ⟨ps, h1, h2, fun m => nT _ m _ h1, fun pos cv hc => ?_⟩
  obtain ⟨c, e1, e2⟩ := h3 pos cv hc
  exact ⟨c, e1, e2, fun m => nC _ m _ e2⟩
theorem TabO.tabs {μ : List Addr} {H : Hp} (t : TabO C H μ) : LamX.Tabs C.tbs H := fun p hp => by
  obtain ⟨ps, h1, h2, _, h4⟩ := t p hp
  exact ⟨ps, h1, h2, fun pos cv hc => let ⟨c, e1, e2, _⟩ := h4 pos cv hc; ⟨c, e1, e2⟩⟩
theorem take_back {μ μ1 : List Addr} {H H1 : Hp} {st s1 : St} (w : Wd C H μ st) (n : Nx μ H μ1 H1) (w1 : Wd C H1 μ1 s1) : Nx μ H μ H1 ∧ Wd C H1 μ (s1.take st.length) := by
  have e : μ1.take st.length = μ := by
    obtain ⟨t, rfl⟩ := n.pre
    rw [← w.len, List.take_left]
  have w2 := w1.take st.length
  rw [e] at w2
  exact ⟨⟨List.prefix_rfl, n.keep, n.rest, fun b m z => absurd m z⟩, w2⟩
theorem g_word (o : XOk C M F cf k W X) {g : Nat} {okv : P} {tab : List (Nat × Tell)} {a : E} {x : Str} {body : Expr} {scope : Scope} {p lpos pos : Pos} (hl : F.lam = true) (hct : (x, okv, tab) ∈ M.cts) (hg : glB F.sc x = true) (hn : nmB x = true) (L : LamX.lamSB F.sc scope = true)
    (hb : ∀ W' X', XOk C M ⟨F.N, scope, fun _ => false, false⟩ cf k W' X' → PE X' body (rdE C W' (evE cf a))) :
    PE X (.Call (.Name x p) [.Lambda ⟨[], [], none, [], [], none, []⟩ body scope lpos] [] pos) (rdE C W (evE cf (.word g okv tab a))) := by
  obtain ⟨rm, c, P, hcode, TB, hmT, hu⟩ := o.lam hl
  obtain ⟨a0, gA, pg, bg, sg, dV, kV, doc, pm, cdv, ct, oc, an, od, osl, Ng, hm, hk, lk, hcg, hbd, Sg, hNg, hva, hd1, hd2, G⟩ := o.ctc x okv tab hct
  obtain ⟨n1, n2, n3⟩ := nmB_of hn
  refine weak (lamcall_N (T := C.tbs) (TT := TTw C okv tab) (t := fun E => rdE C (leaveX C E) (evE cf a)) (glB_of o.sc hg) hm (by rw [o.K]; exact hk) (by rw [o.K]; exact lk) (by rw [o.K]; exact hcg) (by rw [o.K]; exact hbd) Sg hNg hva (G X _ o.prog o.w o.K rfl rfl) TB hcode hmT hu rm (LamX.lamS_by (by rw [o.sc]; exact L)) rfl (fun _ _ _ _ _ => rfl)
    (fun A outer s H E f c' hr => hb _ _ (lam_ok o hr)) n1 hd1 hd2) fun σ H Q ⟨μ, st, r, w, hr, h⟩ => ?_
  refine ⟨w.tab.tabs, fun H1 e1 t1 => ?_⟩
  obtain ⟨w1, nx1⟩ := w.tabs e1 t1
  refine ⟨μ, st, r, w1, hr.nx nx1, ?_⟩
  rw [evE] at h
  cases er : evE cf a r st with
  | ok d s1 =>
    rw [er] at h
    intro μ2 H2 n2 w2 v rv H3 v' sm rp
    obtain ⟨n3, w3⟩ := take_back w1 n2 w2
    exact h μ H3 ((nx1.trans n3).trans (Nx.same sm)) (w3.same sm) v' rp
  | exc c fs s1 =>
    rw [er] at h
    intro μ2 H2 n2 w2 A hA d hd
    obtain ⟨n3, w3⟩ := take_back w1 n2 w2
    have h : post C W σ μ H (match wordOf tab c fs with | some x => R.ok (.p x) (s1.take st.length) | none => .bad) (okD C Q) := h
    split at h
    · rename_i y ey
      exact ⟨c, A, fs, y, hA, rfl, hd, ey, fun H3 v' sm rp => h μ H3 ((nx1.trans n3).trans (Nx.same sm)) (w3.same sm) v' rp⟩
    · exact h.elim
  | bad => rw [er] at h; exact h.elim
end
end Ev

set_option Elab.async false
set_option linter.all false
set_option maxRecDepth 100000
set_option maxHeartbeats 1000000
namespace Ev
open PySem PySem.Spec PyProof.Rows L2

/-! ### the check: an own term is this syntax -/
def asLC : Expr → Option (Expr × List Comprehension × Scope)
  | .ListComp e g s _ => some (e, g, s)
  | _ => none
theorem asLC_of {e x : Expr} {g : List Comprehension} {s : Scope} (h : asLC e = some (x, g, s)) : ∃ p, e = .ListComp x g s p := by
  cases e <;> first | (cases h; exact ⟨_, rfl⟩) | cases h
def asDC : Expr → Option (Expr × Expr × List Comprehension × Scope)
  | .DictComp a b g s _ => some (a, b, g, s)
  | _ => none
theorem asDC_of {e x y : Expr} {g : List Comprehension} {s : Scope} (h : asDC e = some (x, y, g, s)) : ∃ p, e = .DictComp x y g s p := by
  cases e <;> first | (cases h; exact ⟨_, rfl⟩) | cases h
def asG1 : List Comprehension → Option (Expr × Expr × List Expr)
  | [⟨t, i, f, 0⟩] => some (t, i, f)
  | _ => none
theorem asG1_of {g : List Comprehension} {t i : Expr} {f : List Expr} (h : asG1 g = some (t, i, f)) : g = [⟨t, i, f, 0⟩] := by
  unfold asG1 at h
  split at h
  · cases h; rfl
  · cases h
def asG2 : List Comprehension → Option ((Expr × Expr × List Expr) × Expr × Expr × List Expr)
  | [⟨t, i, f, 0⟩, ⟨t1, i1, f1, 0⟩] => some ((t, i, f), t1, i1, f1)
  | _ => none
theorem asG2_of {g : List Comprehension} {t i t1 i1 : Expr} {f f1 : List Expr} (h : asG2 g = some ((t, i, f), t1, i1, f1)) : g = [⟨t, i, f, 0⟩, ⟨t1, i1, f1, 0⟩] := by
  unfold asG2 at h
  split at h
  · cases h; rfl
  · cases h
/-- a method of one argument, on one line with its name -/
def asM1 : Expr → Option (Str × Pos × Str × Expr)
  | .Call (.Attribute (.Name x p) m apos) [e] [] cpos => if (apos.endLine == cpos.line) = true then some (x, p, m, e) else none
  | _ => none
theorem asM1_of {e a : Expr} {x m : Str} {p : Pos} (h : asM1 e = some (x, p, m, a)) : ∃ apos cpos, e = .Call (.Attribute (.Name x p) m apos) [a] [] cpos ∧ (apos.endLine == cpos.line) = true := by
  unfold asM1 at h
  split at h
  · split at h
    · rename_i hl
      cases h; exact ⟨_, _, rfl, hl⟩
    · cases h
  · cases h
/-- a def that gets a lambda -/
def asLam : Expr → Option (Str × Expr × Scope)
  | .Call (.Name x _) [.Lambda ⟨[], [], none, [], [], none, []⟩ body scope _] [] _ => some (x, body, scope)
  | _ => none
theorem asLam_of {e b : Expr} {x : Str} {s : Scope} (h : asLam e = some (x, b, s)) : ∃ p lpos pos, e = .Call (.Name x p) [.Lambda ⟨[], [], none, [], [], none, []⟩ b s lpos] [] pos := by
  unfold asLam at h
  split at h
  · cases h; exact ⟨_, _, _, rfl⟩
  · cases h
/-- a method's call, on one line with its name -/
def asMl : Expr → Option (Expr × Str × List Expr)
  | .Call (.Attribute o m apos) es [] cpos => if (apos.endLine == cpos.line) = true then some (o, m, es) else none
  | _ => none
theorem asMl_of {e o : Expr} {m : Str} {es : List Expr} (h : asMl e = some (o, m, es)) : ∃ apos cpos, e = .Call (.Attribute o m apos) es [] cpos ∧ (apos.endLine == cpos.line) = true := by
  unfold asMl at h
  split at h
  · split at h
    · rename_i hl
      cases h; exact ⟨_, _, rfl, hl⟩
    · cases h
  · cases h
/-- x[::-1] -/
def asRev : Expr → Option Expr
  | .Subscript e (.Slice none none (some (.UnaryOp .USub (.Constant (.int 1) _ _) _)) _) _ => some e
  | _ => none
theorem asRev_of {e x : Expr} (h : asRev e = some x) : ∃ k p1 p2 p3 pos, e = .Subscript x (.Slice none none (some (.UnaryOp .USub (.Constant (.int 1) k p1) p2)) p3) pos := by
  unfold asRev at h
  split at h
  · cases h; exact ⟨_, _, _, _, _, rfl⟩
  · cases h
def isIntSeq : Ty → Bool
  | .seq .int => true
  | _ => false
theorem isIntSeq_of {t : Ty} (h : isIntSeq t = true) : t = .seq .int := by
  unfold isIntSeq at h
  split at h
  · rfl
  · cases h
/-- {}, {k: v} -/
def asD1 : Expr → Option (Option (Expr × Expr))
  | .Dict [] [] _ => some none
  | .Dict [some k] [v] _ => some (some (k, v))
  | _ => none
theorem asD0_of {e : Expr} (h : asD1 e = some none) : ∃ p, e = .Dict [] [] p := by
  unfold asD1 at h
  split at h
  · exact ⟨_, rfl⟩
  · cases h
  · cases h
theorem asD1_of {e x y : Expr} (h : asD1 e = some (some (x, y))) : ∃ p, e = .Dict [some x] [y] p := by
  unfold asD1 at h
  split at h
  · cases h
  · cases h; exact ⟨_, rfl⟩
  · cases h
def unB : U → Str → Bool
  | .len, f => decide (f = "len") | .abs, f => decide (f = "abs") | .sum, f => decide (f = "sum") | .all, f => decide (f = "all") | .any, f => decide (f = "any")
  | .int, f => decide (f = "int") | .tuple, f => decide (f = "tuple")
  | _, _ => false
def isB : U → Str → Bool
  | .isInt, t => decide (t = "int") | .isBool, t => decide (t = "bool") | .isTup, t => decide (t = "tuple") | .isStr, t => decide (t = "str")
  | _, _ => false
def bB : B → Operator → Bool
  | .add, .Add => true | .sub, .Sub => true | .mul, .Mult => true | .fdiv, .FloorDiv => true | .mod, .Mod => true | .pow, .Pow => true
  | _, _ => false
def mmB : B → Str → Bool
  | .min2, f => decide (f = "min") | .max2, f => decide (f = "max")
  | _, _ => false
def ownOf (F : Fr) (vs : List Nat) : List (Str × Nat) := vs.map fun i => ((F.N[i]?).getD "", i)
theorem own_map (F : Fr) (vs : List Nat) : (ownOf F vs).map (·.2) = vs := by
  unfold ownOf
  rw [List.map_map]
  exact List.map_id' _
def slB (a b : List Nat) : Bool := a.all fun i => b.contains i
theorem slB_of {a b : List Nat} (h : slB a b = true) : ∀ i ∈ a, i ∈ b := fun i hi => by
  unfold slB at h
  rw [List.all_eq_true] at h
  simpa using h i hi
section
variable (M : Md)
mutual
def ckE : E → Fr → Expr → Bool
  | .var i, F, e => (match asName e with | some x => decide (F.N[i]? = some x) && (visB F.sc x && nmB x) | none => false)
  | .lit x, F, e => constB x e
  | .gc y nm, F, e => (match asName e with | some x => decide (x = nm) && (decide (M.gcs.lookup x = some y) && (glB F.sc x && nmB x)) | none => false)
  | .glo g, F, e => (match asName e with | some x => decide (M.fns.lookup x = some g) && (glB F.sc x && nmB x) | none => false)
  | .tup es, F, e => (match asTup e with | some l => decide (l.length ≤ 1000) && (decide (es.len = l.length) && ckEs es F l) | none => false)
  | .un u a, F, e => (decide (u = .tuple) && ckTR a F e) || ((match asCall e with
    | some (f, [y]) => (match asCall y with
      | some (f2, [x]) => decide (u = .nset) && (decide (f = "len") && (decide (f2 = "set") && (notStar x && (glB F.sc f && (glB F.sc f2 && ckE a F x)))))
      | _ => false)
    | _ => false) || (match asNeg e with
    | some x => decide (u = .neg) && ckE a F x
    | none => match asCall e with
      | some (f, [x]) => unB u f && (notStar x && (glB F.sc f && ckE a F x))
      | some (f, [x, y]) => (match asName y with
        | some t => decide (f = "isinstance") && (isB u t && (glB F.sc f && (glB F.sc t && (notStar x && ckE a F x))))
        | none => false)
      | _ => false))
  | .bin o a b, F, e => (match asSub e with
    | some (x, y) => decide (o = .idx) && (notSlice y && (ckE a F x && ckE b F y))
    | none => match asBin e with
      | some (x, op, y) => bB o op && (ckE a F x && ckE b F y)
      | none => match asCall e with
        | some (f, [x, y]) => mmB o f && (notStar x && (notStar y && (glB F.sc f && (ckE a F x && ckE b F y))))
        | _ => false)
  | .slc a lo hi, F, e => (match asSub e with
    | some (x, s) => (match asSlice s with | some (l, u) => ckE a F x && (ckO lo F l && ckO hi F u) | none => false)
    | none => false)
  | .ife t a b, F, e => (match asIf e with | some (c, x, y) => ckT t F c && (ckE a F x && ckE b F y) | none => false)
  | .tv t, F, e => ckT t F e
  | .frz l, F, e => ckL l F e
  | .new l, F, e => ckL l F e
  | .frzM m, F, e => ckM m F e
  | .newM m, F, e => ckM m F e
  | .call g es, F, e => (match asCall e with
    | some (f, x :: xs) => decide (M.fns.lookup f = some g) && (glB F.sc f && (nmB f && (notStar x && (xs.all notStar && ckEs es F (x :: xs)))))
    | _ => false)
  | .mx mn t a, F, e => (match asCall e with
    | some (f, [x]) => decide (f = if mn = true then "min" else "max") && (notStar x && (glB F.sc f && ckE a F x))
    | _ => false)
  | .rngv a, F, e => (match asCall e with
    | some (f, [x]) => decide (f = "range") && (notStar x && (glB F.sc f && ckE a F x))
    | _ => false)
  | .fz i, F, e => (match asName e with | some x => decide (F.N[i]? = some x) && (visB F.sc x && nmB x) | none => false)
  | .idxOf a b, F, e => (match asM1 e with
    | some (x, p, m, y) => decide (m = "index") && (notStar y && (ckE a F (.Name x p) && ckE b F y))
    | none => false)
  | .get2 a b d, F, e => (match asMl e with
    | some (o, m, [x, y]) => decide (m = "get") && (noSuper o && (notStar x && (notStar y && (ckE a F o && (ckE b F x && ckE d F y)))))
    | _ => false)
  | .pop i, F, e => (match asMl e with
    | some (o, m, []) => (match asName o with | some x => decide (m = "pop") && (decide (F.N[i]? = some x) && (visB F.sc x && nmB x)) | none => false)
    | _ => false)
  | .cnt a b, F, e => (match asMl e with
    | some (o, m, [x]) => decide (m = "count") && (noSuper o && (notStar x && (ckE a F o && ckE b F x)))
    | _ => false)
  | .rev a, F, e => (match asRev e with | some x => ckE a F x | none => false)
  | .callv i es, F, e => (match asCall e with
    | some (f, x :: xs) => decide (F.N[i]? = some f) && (visB F.sc f && (nmB f && (notStar x && (xs.all notStar && ckEs es F (x :: xs)))))
    | _ => false)
  | .word g okv tab a, F, e => (match asLam e with
    | some (x, body, scope) => F.lam && (decide ((x, okv, tab) ∈ M.cts) && (glB F.sc x && (nmB x && (LamX.lamSB F.sc scope && ckE a ⟨F.N, scope, fun _ => false, false⟩ body))))
    | none => false)
  | _, _, _ => false
def ckTR : E → Fr → Expr → Bool
  | .frz (.ofR (.rng1 a)), F, e => (match asCall e with
    | some (f, [y]) => (match asCall y with
      | some (f2, [x]) => decide (f = "tuple") && (decide (f2 = "range") && (notStar x && (glB F.sc f && (glB F.sc f2 && ckE a F x))))
      | _ => false)
    | _ => false)
  | .frz (.ofR (.rng2 a b)), F, e => (match asCall e with
    | some (f, [z]) => (match asCall z with
      | some (f2, [x, y]) => decide (f = "tuple") && (decide (f2 = "range") && (notStar x && (notStar y && (glB F.sc f && (glB F.sc f2 && (ckE a F x && ckE b F y))))))
      | _ => false)
    | _ => false)
  | _, _, _ => false
def ckEs : Es → Fr → List Expr → Bool
  | .nil, _, [] => true
  | .cons a as, F, e :: es => notStar e && (ckE a F e && ckEs as F es)
  | _, _, _ => false
def ckO : Oe → Fr → Option Expr → Bool
  | .none, _, none => true
  | .some a, F, some e => ckE a F e
  | _, _, _ => false
def ckT : T → Fr → Expr → Bool
  | .cmp c a b, F, e => (match asCmp1 e with | some (x, op, y) => cOk c op && (notSet y && (ckE a F x && ckE b F y)) | none => false)
  | .chain c c' a b d, F, e => (match asCmp2 e with | some (x, op, y, op', z) => cOk c op && (cOk c' op' && (notSet z && (ckE a F x && (ckE b F y && ckE d F z)))) | none => false)
  | .not t, F, e => (match asNot e with | some x => ckT t F x | none => false)
  | .and t u, F, e => (match asBool e with
    | some (.And, x, [y], _) => ckT t F x && ckT u F y
    | some (.And, x, y :: z :: r, p) => ckT t F x && ckT u F (.BoolOp .And (y :: z :: r) p)
    | _ => false)
  | .or t u, F, e => (match asBool e with
    | some (.Or, x, [y], _) => ckT t F x && ckT u F y
    | some (.Or, x, y :: z :: r, p) => ckT t F x && ckT u F (.BoolOp .Or (y :: z :: r) p)
    | _ => false)
  | .tru a, F, e => plainT e && ckE a F e
  | .emp _ _, _, _ => false
def ckTo : To → Fr → List Expr → Bool
  | .yes, _, [] => true
  | .if1 t, F, [e] => ckT t F e
  | _, _, _ => false
def ckL : L → Fr → Expr → Bool
  | .disp es, F, e => (match asLst e with | some l => decide (l.length ≤ 1000) && (decide (es.len = l.length) && ckEs es F l) | none => false)
  | .comp vs tg it ifs elt, F, e => (match asLC e with
    | some (x, g, s) => (match asG1 g with
      | some (t, i, f) => blkC F.N F.sc s (ownOf F vs) && (notSet i && (slB tg.slots vs && (ckI it F t i && (ckG (F.blk s) tg t && (ckTo ifs (F.blk s) f && ckE elt (F.blk s) x)))))
      | none => false)
    | none => false)
  | .comp2 vs tg it ifs vs1 tg1 it1 ifs1 elt, F, e => (match asLC e with
    | some (x, g, s) => (match asG2 g with
      | some ((t, i, f), t1, i1, f1) => blkC F.N F.sc s (ownOf F vs) && (notSet i && (notSet i1 && (slB tg.slots vs && (slB tg1.slots vs1 && (slB vs1 vs && (ckI it F t i && (ckG (F.blk s) tg t && (ckTo ifs (F.blk s) f && (ckI it1 (F.blk s) t1 i1 && (ckG (F.blk s) tg1 t1 && (ckTo ifs1 (F.blk s) f1 && ckE elt (F.blk s) x)))))))))))
      | none => false)
    | none => false)
  | .ofE a, F, e => (match asCall e with
    | some (f, [x]) => decide (f = "list") && (notStar x && (glB F.sc f && ckE a F x))
    | _ => false)
  | .ofR (.rng1 a), F, e => (match asCall e with
    | some (f, [y]) => (match asCall y with
      | some (f2, [x]) => decide (f = "list") && (decide (f2 = "range") && (notStar x && (glB F.sc f && (glB F.sc f2 && ckE a F x))))
      | _ => false)
    | _ => false)
  | .ofR (.rng2 a b), F, e => (match asCall e with
    | some (f, [z]) => (match asCall z with
      | some (f2, [x, y]) => decide (f = "list") && (decide (f2 = "range") && (notStar x && (notStar y && (glB F.sc f && (glB F.sc f2 && (ckE a F x && ckE b F y))))))
      | _ => false)
    | _ => false)
  | .sorted t a, F, e => (match asCall e with
    | some (f, [x]) => decide (f = "sorted") && (notStar x && (glB F.sc f && ckE a F x))
    | _ => false)
  | .vals a, F, e => (match asCall e with
    | some (f, [y]) => (match asMl y with | some (o, m, []) => decide (f = "list") && (decide (m = "values") && (noSuper o && (glB F.sc f && ckE a F o))) | _ => false)
    | _ => false)
  | .sortI t a, F, e => (match asCall e with
    | some (f, [y]) => (match asMl y with | some (o, m, []) => decide (f = "sorted") && (decide (m = "items") && (noSuper o && (glB F.sc f && ckE a F o))) | _ => false)
    | _ => false)
  | .sortV t a, F, e => (match asCall e with
    | some (f, [y]) => (match asMl y with | some (o, m, []) => decide (f = "sorted") && (decide (m = "values") && (noSuper o && (glB F.sc f && ckE a F o))) | _ => false)
    | _ => false)
  | .sortset t a, F, e => (match asCall e with
    | some (f, [y]) => (match asCall y with | some (g, [x]) => isIntSeq t && (decide (f = "sorted") && (decide (g = "set") && (notStar x && (glB F.sc f && (glB F.sc g && ckE a F x))))) | _ => false)
    | _ => false)
  | .rev a, F, e => (match asRev e with | some x => ckE a F x | none => false)
  | .cat a b, F, e => (match asBin e with | some (x, .Add, y) => ckE a F x && ckE b F y | _ => false)
  | .rep a b, F, e => (match asBin e with | some (x, .Mult, y) => ckE a F x && ckE b F y | _ => false)
  | .slc a lo hi, F, e => (match asSub e with
    | some (x, s) => (match asSlice s with | some (l, u) => ckE a F x && (ckO lo F l && ckO hi F u) | none => false)
    | none => false)
  | _, _, _ => false
def ckM : Ev.M → Fr → Expr → Bool
  | .disp .nil .nil, F, e => (match asD1 e with | some none => true | _ => false)
  | .disp (.cons a .nil) (.cons b .nil), F, e => (match asD1 e with | some (some (x, y)) => ckE a F x && ckE b F y | _ => false)
  | .comp vs tg it ifs k v, F, e => (match asDC e with
    | some (x, y, g, s) => (match asG1 g with
      | some (t, i, f) => blkC F.N F.sc s (ownOf F vs) && (notSet i && (slB tg.slots vs && (ckI it F t i && (ckG (F.blk s) tg t && (ckTo ifs (F.blk s) f && (ckE k (F.blk s) x && ckE v (F.blk s) y))))))
      | none => false)
    | none => false)
  | .comp2 vs tg it ifs vs1 tg1 it1 ifs1 k v, F, e => (match asDC e with
    | some (x, y, g, s) => (match asG2 g with
      | some ((t, i, f), t1, i1, f1) => blkC F.N F.sc s (ownOf F vs) && (notSet i && (notSet i1 && (slB tg.slots vs && (slB tg1.slots vs1 && (slB vs1 vs && (ckI it F t i && (ckG (F.blk s) tg t && (ckTo ifs (F.blk s) f && (ckI it1 (F.blk s) t1 i1 && (ckG (F.blk s) tg1 t1 && (ckTo ifs1 (F.blk s) f1 && (ckE k (F.blk s) x && ckE v (F.blk s) y))))))))))))
      | none => false)
    | none => false)
  | _, _, _ => false
def ckI : I → Fr → Expr → Expr → Bool
  | .ex a, F, _, e => ckE a F e
  | .rng1 a, F, _, e => (match asCall e with
    | some (f, [x]) => decide (f = "range") && (notStar x && (glB F.sc f && ckE a F x))
    | _ => false)
  | .rng2 a b, F, _, e => (match asCall e with
    | some (f, [x, y]) => decide (f = "range") && (notStar x && (notStar y && (glB F.sc f && (ckE a F x && ckE b F y))))
    | _ => false)
  | .items a, F, t, e => (match asTup t with
    | some _ => (match asMl e with | some (o, m, []) => decide (m = "items") && (noSuper o && ckE a F o) | _ => false)
    | none => false)
  | .enum a, F, t, e => (match asTup t with
    | some _ => (match asCall e with
      | some (f, [x]) => decide (f = "enumerate") && (notStar x && (glB F.sc f && ckE a F x))
      | _ => false)
    | none => false)
  | .zip a b, F, t, e => (match asTup t with
    | some _ => (match asCall e with
      | some (f, [x, y]) => decide (f = "zip") && (notStar x && (notStar y && (glB F.sc f && (ckE a F x && ckE b F y))))
      | _ => false)
    | none => false)
end
end
/-! ### the names of built-ins -/
theorem un_call {C : Gc} {M : Md} {F : Fr} {cf : Cf} {k : Nat} {W : XW} {X : Cx} (o : XOk C M F cf k W X) {u : U} {f : Str} {a : E} {x : Expr} {p pos : Pos} (h : unB u f = true) (hs : notStar x = true) (hg : glB F.sc f = true) (h1 : PE X x (rdE C W (evE cf a))) : PE X (.Call (.Name f p) [x] [] pos) (rdE C W (evE cf (.un u a))) := by
  cases u <;> first | (cases h; done) | (obtain rfl := of_decide_eq_true h)
  · exact g_un o hs (by decide +kernel) (by decide +kernel) hg (by decide +kernel) (u_len o.prog o.w o.K) h1
  · exact g_un o hs (by decide +kernel) (by decide +kernel) hg (by decide +kernel) u_abs h1
  · exact g_unTy o hs (by decide +kernel) (by decide +kernel) hg (by decide +kernel) u_int h1
  · exact g_un o hs (by decide +kernel) (by decide +kernel) hg (by decide +kernel) (u_sum o.K o.calm) h1
  · exact g_un o hs (by decide +kernel) (by decide +kernel) hg (by decide +kernel) (u_all o.K o.calm) h1
  · exact g_un o hs (by decide +kernel) (by decide +kernel) hg (by decide +kernel) (u_any o.K o.calm) h1
  · exact g_unTy o hs (by decide +kernel) (by decide +kernel) hg (by decide +kernel) (u_tuple o.K) h1
theorem isi_call {C : Gc} {M : Md} {F : Fr} {cf : Cf} {k : Nat} {W : XW} {X : Cx} (o : XOk C M F cf k W X) {u : U} {f t : Str} {a : E} {x : Expr} {p p2 pos : Pos} (hf : f = "isinstance") (h : isB u t = true) (hg : glB F.sc f = true) (ht : glB F.sc t = true) (hs : notStar x = true) (h1 : PE X x (rdE C W (evE cf a))) : PE X (.Call (.Name f p) [x, .Name t p2] [] pos) (rdE C W (evE cf (.un u a))) := by
  cases u <;> first | (cases h; done) | (obtain rfl := of_decide_eq_true h)
  · exact g_isi (t := "int") o hs hf (hf ▸ hg) (by decide +kernel) (by decide +kernel) ht (by decide +kernel) (fun q z e => isi_int e) h1
  · exact g_isi (t := "bool") o hs hf (hf ▸ hg) (by decide +kernel) (by decide +kernel) ht (by decide +kernel) (fun q z e => isi_bool e) h1
  · exact g_isi (t := "tuple") o hs hf (hf ▸ hg) (by decide +kernel) (by decide +kernel) ht (by decide +kernel) (fun q z e => isi_tup e) h1
  · exact g_isi (t := "str") o hs hf (hf ▸ hg) (by decide +kernel) (by decide +kernel) ht (by decide +kernel) (fun q z e => isi_str e) h1
theorem bin_op {C : Gc} {M : Md} {F : Fr} {cf : Cf} {k : Nat} {W : XW} {X : Cx} (o : XOk C M F cf k W X) {u : B} {op : Operator} {a b : E} {x y : Expr} {pos : Pos} (h : bB u op = true) (h1 : PE X x (rdE C W (evE cf a))) (h2 : PE X y (rdE C W (evE cf b))) : PE X (.BinOp x op y pos) (rdE C W (evE cf (.bin u a b))) := by
  cases u <;> first
    | (obtain rfl : op = .Add := by cases op <;> first | rfl | exact absurd h (by decide)
       exact g_bin (b_add o.K) h1 h2)
    | (obtain rfl : op = .Sub := by cases op <;> first | rfl | exact absurd h (by decide)
       exact g_bin b_sub h1 h2)
    | (obtain rfl : op = .Mult := by cases op <;> first | rfl | exact absurd h (by decide)
       exact g_bin (b_mul o.K) h1 h2)
    | (obtain rfl : op = .FloorDiv := by cases op <;> first | rfl | exact absurd h (by decide)
       exact g_bin b_fdiv h1 h2)
    | (obtain rfl : op = .Mod := by cases op <;> first | rfl | exact absurd h (by decide)
       exact g_bin b_mod h1 h2)
    | (obtain rfl : op = .Pow := by cases op <;> first | rfl | exact absurd h (by decide)
       exact g_bin b_pow h1 h2)
    | (exfalso; cases op <;> exact absurd h (by decide))
theorem mm_call {C : Gc} {M : Md} {F : Fr} {cf : Cf} {k : Nat} {W : XW} {X : Cx} (o : XOk C M F cf k W X) {u : B} {f : Str} {a b : E} {x y : Expr} {p pos : Pos} (h : mmB u f = true) (hs : notStar x = true) (hs' : notStar y = true) (hg : glB F.sc f = true) (h1 : PE X x (rdE C W (evE cf a))) (h2 : PE X y (rdE C W (evE cf b))) : PE X (.Call (.Name f p) [x, y] [] pos) (rdE C W (evE cf (.bin u a b))) := by
  cases u <;> first | (cases h; done) | (obtain rfl := of_decide_eq_true h)
  · exact g_min2 o hs hs' (by decide +kernel) (by decide +kernel) hg (by decide +kernel) (b_min2 o.calm) h1 h2
  · exact g_min2 o hs hs' (by decide +kernel) (by decide +kernel) hg (by decide +kernel) (b_max2 o.calm) h1 h2
end Ev

set_option Elab.async false
set_option linter.all false
set_option maxRecDepth 100000
set_option maxHeartbeats 4000000
namespace Ev
open PySem PySem.Spec PyProof.Rows L2

theorem and3 {a b : Bool} (h : (a && b) = true) : a = true ∧ b = true := by rwa [Bool.and_eq_true] at h
section
variable {C : Gc} {M : Md} {cf : Cf} {k : Nat}
theorem blk_ok {F : Fr} {W : XW} {X : Cx} (o : XOk C M F cf k W X) {s : Scope} {vs : List Nat} (h : blkC F.N F.sc s (ownOf F vs) = true) : BlkOk X.N X.env.scope s (ownOf F vs) := by
  rw [o.N, o.sc]; exact blkOk_by h
mutual
theorem sE : ∀ (a : E) (F : Fr) (e : Expr) (W : XW) (X : Cx), XOk C M F cf k W X → ckE M a F e = true → PE X e (rdE C W (evE cf a))
  | .var i, F, e, W, X, o, h => by
    rw [ckE] at h
    split at h
    · rename_i x hx
      obtain ⟨p, rfl⟩ := asName_of hx
      obtain ⟨h1, h⟩ := and3 h
      obtain ⟨h2, h3⟩ := and3 h
      exact g_var o (of_decide_eq_true h1) h2 h3
    · cases h
  | .lit x, F, e, W, X, o, h => by
    rw [ckE] at h
    exact g_lit h
  | .gc y nm, F, e, W, X, o, h => by
    rw [ckE] at h
    split at h
    · rename_i x hx
      obtain ⟨p, rfl⟩ := asName_of hx
      obtain ⟨h1, h⟩ := and3 h
      obtain ⟨h2, h⟩ := and3 h
      obtain ⟨h3, h4⟩ := and3 h
      obtain rfl := of_decide_eq_true h1
      exact g_gc o (of_decide_eq_true h2) h3 h4
    · cases h
  | .glo g, F, e, W, X, o, h => by
    rw [ckE] at h
    split at h
    · rename_i x hx
      obtain ⟨p, rfl⟩ := asName_of hx
      obtain ⟨h1, h⟩ := and3 h
      obtain ⟨h2, h3⟩ := and3 h
      exact g_glo o (of_decide_eq_true h1) h2 h3
    · cases h
  | .tup es, F, e, W, X, o, h => by
    rw [ckE] at h
    split at h
    · rename_i l hx
      obtain ⟨kk, p, rfl⟩ := asTup_of hx
      obtain ⟨h1, h⟩ := and3 h
      obtain ⟨h2, h3⟩ := and3 h
      exact g_tup (of_decide_eq_true h1) (of_decide_eq_true h2) (sEs es F l W X o h3)
    · cases h
  | .un u a, F, e, W, X, o, h => by
    rw [ckE, Bool.or_eq_true] at h
    rcases h with h | h
    · obtain ⟨h1, h2⟩ := and3 h
      obtain rfl := of_decide_eq_true h1
      exact sTR a F e W X o h2
    rw [Bool.or_eq_true] at h
    rcases h with h | h
    · split at h
      · rename_i f y hx
        obtain ⟨p, pos, rfl⟩ := asCall_of hx
        split at h
        · rename_i f2 x hy
          obtain ⟨p2, pos2, rfl⟩ := asCall_of hy
          obtain ⟨h0, h⟩ := and3 h
          obtain ⟨h1, h⟩ := and3 h
          obtain ⟨h2, h⟩ := and3 h
          obtain ⟨h3, h⟩ := and3 h
          obtain ⟨h4, h⟩ := and3 h
          obtain ⟨h5, h6⟩ := and3 h
          obtain rfl := of_decide_eq_true h0
          obtain rfl := of_decide_eq_true h1
          obtain rfl := of_decide_eq_true h2
          exact g_nset o h3 h4 h5 (sE a F x W X o h6)
        · cases h
      · cases h
    split at h
    · rename_i x hx
      obtain ⟨p, rfl⟩ := asNeg_of hx
      obtain ⟨h1, h2⟩ := and3 h
      obtain rfl := of_decide_eq_true h1
      exact g_neg (sE a F x W X o h2)
    · split at h
      · rename_i f x hx
        obtain ⟨p, pos, rfl⟩ := asCall_of hx
        obtain ⟨h1, h⟩ := and3 h
        obtain ⟨h2, h⟩ := and3 h
        obtain ⟨h3, h4⟩ := and3 h
        exact un_call o h1 h2 h3 (sE a F x W X o h4)
      · rename_i f x y hx
        obtain ⟨p, pos, rfl⟩ := asCall_of hx
        split at h
        · rename_i t ht
          obtain ⟨p2, rfl⟩ := asName_of ht
          obtain ⟨h1, h⟩ := and3 h
          obtain ⟨h2, h⟩ := and3 h
          obtain ⟨h3, h⟩ := and3 h
          obtain ⟨h4, h⟩ := and3 h
          obtain ⟨h5, h6⟩ := and3 h
          exact isi_call o (of_decide_eq_true h1) h2 h3 h4 h5 (sE a F x W X o h6)
        · cases h
      · cases h
  | .bin u a b, F, e, W, X, o, h => by
    rw [ckE] at h
    split at h
    · rename_i x y hx
      obtain ⟨p, rfl⟩ := asSub_of hx
      obtain ⟨h1, h⟩ := and3 h
      obtain ⟨h2, h⟩ := and3 h
      obtain ⟨h3, h4⟩ := and3 h
      obtain rfl := of_decide_eq_true h1
      exact g_idx o h2 (sE a F x W X o h3) (sE b F y W X o h4)
    · split at h
      · rename_i x op y hx
        obtain ⟨p, rfl⟩ := asBin_of hx
        obtain ⟨h1, h⟩ := and3 h
        obtain ⟨h3, h4⟩ := and3 h
        exact bin_op o h1 (sE a F x W X o h3) (sE b F y W X o h4)
      · split at h
        · rename_i f x y hx
          obtain ⟨p, pos, rfl⟩ := asCall_of hx
          obtain ⟨h1, h⟩ := and3 h
          obtain ⟨h2, h⟩ := and3 h
          obtain ⟨h3, h⟩ := and3 h
          obtain ⟨h4, h⟩ := and3 h
          obtain ⟨h5, h6⟩ := and3 h
          exact mm_call o h1 h2 h3 h4 (sE a F x W X o h5) (sE b F y W X o h6)
        · cases h
  | .get1 _ _, F, e, W, X, o, h => absurd (show false = true from h) Bool.false_ne_true
  | .get2 a b d, F, e, W, X, o, h => by
    rw [ckE] at h
    split at h
    · rename_i ob m x y hx
      obtain ⟨apos, cpos, rfl, hl⟩ := asMl_of hx
      obtain ⟨h1, h⟩ := and3 h
      obtain ⟨h2, h⟩ := and3 h
      obtain ⟨h3, h⟩ := and3 h
      obtain ⟨h4, h⟩ := and3 h
      obtain ⟨h5, h⟩ := and3 h
      obtain ⟨h6, h7⟩ := and3 h
      obtain rfl := of_decide_eq_true h1
      exact g_get2 o h2 h3 h4 hl (sE a F ob W X o h5) (sE b F x W X o h6) (sE d F y W X o h7)
    · cases h
  | .slc a lo hi, F, e, W, X, o, h => by
    rw [ckE] at h
    split at h
    · rename_i x s hx
      obtain ⟨p, rfl⟩ := asSub_of hx
      split at h
      · rename_i l u hs
        obtain ⟨p2, rfl⟩ := asSlice_of hs
        obtain ⟨h1, h⟩ := and3 h
        obtain ⟨h2, h3⟩ := and3 h
        exact g_slc o (sE a F x W X o h1) (sO lo F l W X o h2) (sO hi F u W X o h3)
      · cases h
    · cases h
  | .ife t a b, F, e, W, X, o, h => by
    rw [ckE] at h
    split at h
    · rename_i c x y hx
      obtain ⟨p, rfl⟩ := asIf_of hx
      obtain ⟨h1, h⟩ := and3 h
      obtain ⟨h2, h3⟩ := and3 h
      exact g_ife (sT t F c W X o h1) (sE a F x W X o h2) (sE b F y W X o h3)
    · cases h
  | .tv t, F, e, W, X, o, h => by
    rw [ckE] at h
    exact g_tv (sT t F e W X o h)
  | .frz l, F, e, W, X, o, h => by
    rw [ckE] at h
    exact g_frz (sL l F e W X o h)
  | .new l, F, e, W, X, o, h => by
    rw [ckE] at h
    exact g_new (sL l F e W X o h)
  | .frzM l, F, e, W, X, o, h => by
    rw [ckE] at h
    exact g_frzM (sM l F e W X o h)
  | .newM l, F, e, W, X, o, h => by
    rw [ckE] at h
    exact g_newM (sM l F e W X o h)
  | .call g es, F, e, W, X, o, h => by
    rw [ckE] at h
    split at h
    · rename_i f x xs hx
      obtain ⟨p, pos, rfl⟩ := asCall_of hx
      obtain ⟨h1, h⟩ := and3 h
      obtain ⟨h2, h⟩ := and3 h
      obtain ⟨h3, h⟩ := and3 h
      obtain ⟨h4, h⟩ := and3 h
      obtain ⟨h5, h6⟩ := and3 h
      exact g_call o (of_decide_eq_true h1) h2 h3 h4 h5 (sEs es F (x :: xs) W X o h6)
    · cases h
  | .callv i es, F, e, W, X, o, h => by
    rw [ckE] at h
    split at h
    · rename_i f x xs hx
      obtain ⟨p, pos, rfl⟩ := asCall_of hx
      obtain ⟨h1, h⟩ := and3 h
      obtain ⟨h2, h⟩ := and3 h
      obtain ⟨h3, h⟩ := and3 h
      obtain ⟨h4, h⟩ := and3 h
      obtain ⟨h5, h6⟩ := and3 h
      exact g_callv o (of_decide_eq_true h1) h2 h3 h4 h5 (sEs es F _ W X o h6)
    · cases h
  | .pop i, F, e, W, X, o, h => by
    rw [ckE] at h
    split at h
    · rename_i ob m hx
      obtain ⟨apos, cpos, rfl, hl⟩ := asMl_of hx
      split at h
      · rename_i x hn
        obtain ⟨p, rfl⟩ := asName_of hn
        obtain ⟨h1, h⟩ := and3 h
        obtain ⟨h2, h⟩ := and3 h
        obtain ⟨h3, h4⟩ := and3 h
        obtain rfl := of_decide_eq_true h1
        exact g_pop o (of_decide_eq_true h2) h3 h4 hl
      · cases h
    · cases h
  | .mx mn t a, F, e, W, X, o, h => by
    rw [ckE] at h
    split at h
    · rename_i f x hx
      obtain ⟨p, pos, rfl⟩ := asCall_of hx
      obtain ⟨h1, h⟩ := and3 h
      obtain ⟨h2, h⟩ := and3 h
      obtain ⟨h3, h4⟩ := and3 h
      obtain rfl := of_decide_eq_true h1
      refine g_mx o h2 ?_ ?_ h3 ?_ (sE a F x W X o h4)
      · cases mn <;> decide +kernel
      · cases mn <;> decide +kernel
      · cases mn <;> decide +kernel
    · cases h
  | .idxOf a b, F, e, W, X, o, h => by
    rw [ckE] at h
    split at h
    · rename_i x p m y hx
      obtain ⟨apos, cpos, rfl, hl⟩ := asM1_of hx
      obtain ⟨h1, h⟩ := and3 h
      obtain ⟨h2, h⟩ := and3 h
      obtain ⟨h3, h4⟩ := and3 h
      obtain rfl := of_decide_eq_true h1
      exact g_idxL o h2 hl (sE a F (.Name x p) W X o h3) (sE b F y W X o h4)
    · cases h
  | .rngv a, F, e, W, X, o, h => by
    rw [ckE] at h
    split at h
    · rename_i f x hx
      obtain ⟨p, pos, rfl⟩ := asCall_of hx
      obtain ⟨h1, h⟩ := and3 h
      obtain ⟨h2, h⟩ := and3 h
      obtain ⟨h3, h4⟩ := and3 h
      obtain rfl := of_decide_eq_true h1
      exact g_rngv o h2 h3 (sE a F x W X o h4)
    · cases h
  | .fz i, F, e, W, X, o, h => by
    rw [ckE] at h
    split at h
    · rename_i x hx
      obtain ⟨p, rfl⟩ := asName_of hx
      obtain ⟨h1, h⟩ := and3 h
      obtain ⟨h2, h3⟩ := and3 h
      exact g_fz o (of_decide_eq_true h1) h2 h3
    · cases h
  | .rev a, F, e, W, X, o, h => by
    rw [ckE] at h
    split at h
    · rename_i x hx
      obtain ⟨k, p1, p2, p3, pos, rfl⟩ := asRev_of hx
      exact g_revT (sE a F x W X o h)
    · cases h
  | .word g okv tab a, F, e, W, X, o, h => by
    rw [ckE] at h
    split at h
    · rename_i x body scope hx
      obtain ⟨p, lpos, pos, rfl⟩ := asLam_of hx
      obtain ⟨h1, h⟩ := and3 h
      obtain ⟨h2, h⟩ := and3 h
      obtain ⟨h3, h⟩ := and3 h
      obtain ⟨h4, h⟩ := and3 h
      obtain ⟨h5, h6⟩ := and3 h
      exact g_word o h1 (of_decide_eq_true h2) h3 h4 h5 fun W' X' o' => sE a _ body W' X' o' h6
    · cases h
  | .cnt a b, F, e, W, X, o, h => by
    rw [ckE] at h
    split at h
    · rename_i ob m x hx
      obtain ⟨apos, cpos, rfl, hl⟩ := asMl_of hx
      obtain ⟨h1, h⟩ := and3 h
      obtain ⟨h2, h⟩ := and3 h
      obtain ⟨h3, h⟩ := and3 h
      obtain ⟨h4, h5⟩ := and3 h
      obtain rfl := of_decide_eq_true h1
      exact g_cnt o h2 h3 hl (sE a F ob W X o h4) (sE b F x W X o h5)
    · cases h
  | .fld _ _, F, e, W, X, o, h => absurd (show false = true from h) Bool.false_ne_true
theorem sTR : ∀ (a : E) (F : Fr) (e : Expr) (W : XW) (X : Cx), XOk C M F cf k W X → ckTR M a F e = true → PE X e (rdE C W (evE cf (.un .tuple a)))
  | .frz (.ofR (.rng1 a)), F, e, W, X, o, h => by
    rw [ckTR] at h
    split at h
    · rename_i f y hx
      obtain ⟨p, pos, rfl⟩ := asCall_of hx
      split at h
      · rename_i f2 x hy
        obtain ⟨p2, pos2, rfl⟩ := asCall_of hy
        obtain ⟨h1, h⟩ := and3 h
        obtain ⟨h2, h⟩ := and3 h
        obtain ⟨h3, h⟩ := and3 h
        obtain ⟨h4, h⟩ := and3 h
        obtain ⟨h5, h6⟩ := and3 h
        obtain rfl := of_decide_eq_true h1
        obtain rfl := of_decide_eq_true h2
        exact g_tupR1 o h3 h4 h5 (sE a F x W X o h6)
      · cases h
    · cases h
  | .frz (.ofR (.rng2 a b)), F, e, W, X, o, h => by
    rw [ckTR] at h
    split at h
    · rename_i f y hx
      obtain ⟨p, pos, rfl⟩ := asCall_of hx
      split at h
      · rename_i f2 x z hy
        obtain ⟨p2, pos2, rfl⟩ := asCall_of hy
        obtain ⟨h1, h⟩ := and3 h
        obtain ⟨h2, h⟩ := and3 h
        obtain ⟨h3, h⟩ := and3 h
        obtain ⟨h4, h⟩ := and3 h
        obtain ⟨h5, h⟩ := and3 h
        obtain ⟨h6, h⟩ := and3 h
        obtain ⟨h7, h8⟩ := and3 h
        obtain rfl := of_decide_eq_true h1
        obtain rfl := of_decide_eq_true h2
        exact g_tupR2 o h3 h4 h5 h6 (sE a F x W X o h7) (sE b F z W X o h8)
      · cases h
    · cases h
  | .frz (.ofR (.ex _)), F, e, W, X, o, h => absurd (show false = true from h) Bool.false_ne_true
  | .frz (.ofR (.enum _)), F, e, W, X, o, h => absurd (show false = true from h) Bool.false_ne_true
  | .frz (.ofR (.zip _ _)), F, e, W, X, o, h => absurd (show false = true from h) Bool.false_ne_true
  | .frz (.ofR (.items _)), F, e, W, X, o, h => absurd (show false = true from h) Bool.false_ne_true
  | .frz (.disp _), F, e, W, X, o, h => absurd (show false = true from h) Bool.false_ne_true
  | .frz (.comp _ _ _ _ _), F, e, W, X, o, h => absurd (show false = true from h) Bool.false_ne_true
  | .frz (.comp2 _ _ _ _ _ _ _ _ _), F, e, W, X, o, h => absurd (show false = true from h) Bool.false_ne_true
  | .frz (.ofE _), F, e, W, X, o, h => absurd (show false = true from h) Bool.false_ne_true
  | .frz (.sorted _ _), F, e, W, X, o, h => absurd (show false = true from h) Bool.false_ne_true
  | .frz (.cat _ _), F, e, W, X, o, h => absurd (show false = true from h) Bool.false_ne_true
  | .frz (.rep _ _), F, e, W, X, o, h => absurd (show false = true from h) Bool.false_ne_true
  | .frz (.slc _ _ _), F, e, W, X, o, h => absurd (show false = true from h) Bool.false_ne_true
  | .frz (.vals _), F, e, W, X, o, h => absurd (show false = true from h) Bool.false_ne_true
  | .frz (.sortset _ _), F, e, W, X, o, h => absurd (show false = true from h) Bool.false_ne_true
  | .frz (.sortI _ _), F, e, W, X, o, h => absurd (show false = true from h) Bool.false_ne_true
  | .frz (.sortV _ _), F, e, W, X, o, h => absurd (show false = true from h) Bool.false_ne_true
  | .frz (.sumL _), F, e, W, X, o, h => absurd (show false = true from h) Bool.false_ne_true
  | .frz (.rev _), F, e, W, X, o, h => absurd (show false = true from h) Bool.false_ne_true
  | .var _, F, e, W, X, o, h => absurd (show false = true from h) Bool.false_ne_true
  | .lit _, F, e, W, X, o, h => absurd (show false = true from h) Bool.false_ne_true
  | .gc _ _, F, e, W, X, o, h => absurd (show false = true from h) Bool.false_ne_true
  | .glo _, F, e, W, X, o, h => absurd (show false = true from h) Bool.false_ne_true
  | .tup _, F, e, W, X, o, h => absurd (show false = true from h) Bool.false_ne_true
  | .un _ _, F, e, W, X, o, h => absurd (show false = true from h) Bool.false_ne_true
  | .bin _ _ _, F, e, W, X, o, h => absurd (show false = true from h) Bool.false_ne_true
  | .get1 _ _, F, e, W, X, o, h => absurd (show false = true from h) Bool.false_ne_true
  | .get2 _ _ _, F, e, W, X, o, h => absurd (show false = true from h) Bool.false_ne_true
  | .slc _ _ _, F, e, W, X, o, h => absurd (show false = true from h) Bool.false_ne_true
  | .ife _ _ _, F, e, W, X, o, h => absurd (show false = true from h) Bool.false_ne_true
  | .tv _, F, e, W, X, o, h => absurd (show false = true from h) Bool.false_ne_true
  | .new _, F, e, W, X, o, h => absurd (show false = true from h) Bool.false_ne_true
  | .frzM _, F, e, W, X, o, h => absurd (show false = true from h) Bool.false_ne_true
  | .newM _, F, e, W, X, o, h => absurd (show false = true from h) Bool.false_ne_true
  | .call _ _, F, e, W, X, o, h => absurd (show false = true from h) Bool.false_ne_true
  | .callv _ _, F, e, W, X, o, h => absurd (show false = true from h) Bool.false_ne_true
  | .pop _, F, e, W, X, o, h => absurd (show false = true from h) Bool.false_ne_true
  | .mx _ _ _, F, e, W, X, o, h => absurd (show false = true from h) Bool.false_ne_true
  | .idxOf _ _, F, e, W, X, o, h => absurd (show false = true from h) Bool.false_ne_true
  | .cnt _ _, F, e, W, X, o, h => absurd (show false = true from h) Bool.false_ne_true
  | .fld _ _, F, e, W, X, o, h => absurd (show false = true from h) Bool.false_ne_true
  | .rngv _, F, e, W, X, o, h => absurd (show false = true from h) Bool.false_ne_true
  | .fz _, F, e, W, X, o, h => absurd (show false = true from h) Bool.false_ne_true
  | .rev _, F, e, W, X, o, h => absurd (show false = true from h) Bool.false_ne_true
  | .word _ _ _ _, F, e, W, X, o, h => absurd (show false = true from h) Bool.false_ne_true
theorem sEs : ∀ (as : Es) (F : Fr) (es : List Expr) (W : XW) (X : Cx), XOk C M F cf k W X → ckEs M as F es = true → PA X es (rdA C W (evEs cf as))
  | .nil, F, [], W, X, o, h => g_nil
  | .nil, F, _ :: _, W, X, o, h => absurd (show false = true from h) Bool.false_ne_true
  | .cons a as, F, [], W, X, o, h => absurd (show false = true from h) Bool.false_ne_true
  | .cons a as, F, e :: es, W, X, o, h => by
    rw [ckEs] at h
    obtain ⟨h1, h⟩ := and3 h
    obtain ⟨h2, h3⟩ := and3 h
    exact g_cons h1 (sE a F e W X o h2) (sEs as F es W X o h3)
theorem sO : ∀ (a : Oe) (F : Fr) (e : Option Expr) (W : XW) (X : Cx), XOk C M F cf k W X → ckO M a F e = true → PO X e (rdO C W (evO cf a))
  | .none, F, none, W, X, o, h => g_oNone
  | .none, F, some _, W, X, o, h => absurd (show false = true from h) Bool.false_ne_true
  | .some a, F, none, W, X, o, h => absurd (show false = true from h) Bool.false_ne_true
  | .some a, F, some e, W, X, o, h => by
    rw [ckO] at h
    exact g_oSome (sE a F e W X o h)
theorem sT : ∀ (t : T) (F : Fr) (e : Expr) (W : XW) (X : Cx), XOk C M F cf k W X → ckT M t F e = true → Both C W X e (evT cf t)
  | .cmp c a b, F, e, W, X, o, h => by
    rw [ckT] at h
    split at h
    · rename_i x op y hx
      obtain ⟨p, rfl⟩ := asCmp1_of hx
      obtain ⟨h1, h⟩ := and3 h
      obtain ⟨h2, h⟩ := and3 h
      obtain ⟨h3, h4⟩ := and3 h
      exact g_cmp o h1 h2 (sE a F x W X o h3) (sE b F y W X o h4)
    · cases h
  | .chain c c' a b d, F, e, W, X, o, h => by
    rw [ckT] at h
    split at h
    · rename_i x op y op' z hx
      obtain ⟨p, rfl⟩ := asCmp2_of hx
      obtain ⟨h1, h⟩ := and3 h
      obtain ⟨h2, h⟩ := and3 h
      obtain ⟨h3, h⟩ := and3 h
      obtain ⟨h4, h⟩ := and3 h
      obtain ⟨h5, h6⟩ := and3 h
      exact g_chain o h1 h2 h3 (sE a F x W X o h4) (sE b F y W X o h5) (sE d F z W X o h6)
    · cases h
  | .not t, F, e, W, X, o, h => by
    rw [ckT] at h
    split at h
    · rename_i x hx
      obtain ⟨p, rfl⟩ := asNot_of hx
      exact g_not (sT t F x W X o h)
    · cases h
  | .and t u, F, e, W, X, o, h => by
    rw [ckT] at h
    split at h
    · rename_i x y p hx
      obtain rfl := asBool_of hx
      obtain ⟨h1, h2⟩ := and3 h
      exact g_and (sT t F x W X o h1) (g_one (sT u F y W X o h2))
    · rename_i x y z r p hx
      obtain rfl := asBool_of hx
      obtain ⟨h1, h2⟩ := and3 h
      exact g_and (sT t F x W X o h1) (sT u F _ W X o h2)
    · cases h
  | .or t u, F, e, W, X, o, h => by
    rw [ckT] at h
    split at h
    · rename_i x y p hx
      obtain rfl := asBool_of hx
      obtain ⟨h1, h2⟩ := and3 h
      exact g_or (sT t F x W X o h1) (g_one (sT u F y W X o h2))
    · rename_i x y z r p hx
      obtain rfl := asBool_of hx
      obtain ⟨h1, h2⟩ := and3 h
      exact g_or (sT t F x W X o h1) (sT u F _ W X o h2)
    · cases h
  | .tru a, F, e, W, X, o, h => by
    rw [ckT] at h
    obtain ⟨h1, h2⟩ := and3 h
    exact g_tru h1 (sE a F e W X o h2)
  | .emp _ _, F, e, W, X, o, h => absurd (show false = true from h) Bool.false_ne_true
theorem sTo : ∀ (t : To) (F : Fr) (es : List Expr) (W : XW) (X : Cx), XOk C M F cf k W X → ckTo M t F es = true → PTs X es (rdT C W (evTo cf t))
  | .yes, F, [], W, X, o, h => g_yes
  | .yes, F, _ :: _, W, X, o, h => absurd (show false = true from h) Bool.false_ne_true
  | .if1 t, F, [], W, X, o, h => absurd (show false = true from h) Bool.false_ne_true
  | .if1 t, F, [e], W, X, o, h => by
    rw [ckTo] at h
    exact g_if1 (sT t F e W X o h)
  | .if1 t, F, _ :: _ :: _, W, X, o, h => absurd (show false = true from h) Bool.false_ne_true
theorem sL : ∀ (l : L) (F : Fr) (e : Expr) (W : XW) (X : Cx), XOk C M F cf k W X → ckL M l F e = true → PE X e (rdL C W (evL cf l))
  | .disp es, F, e, W, X, o, h => by
    rw [ckL] at h
    split at h
    · rename_i l hx
      obtain ⟨p, rfl⟩ := asLst_of hx
      obtain ⟨h1, h⟩ := and3 h
      obtain ⟨h2, h3⟩ := and3 h
      exact g_disp (of_decide_eq_true h1) (of_decide_eq_true h2) (sEs es F l W X o h3)
    · cases h
  | .comp vs tg it ifs elt, F, e, W, X, o, h => by
    rw [ckL] at h
    split at h
    · rename_i x g s hx
      obtain ⟨p, rfl⟩ := asLC_of hx
      split at h
      · rename_i t i f hg
        obtain rfl := asG1_of hg
        obtain ⟨h1, h⟩ := and3 h
        obtain ⟨h2, h⟩ := and3 h
        obtain ⟨h3, h⟩ := and3 h
        obtain ⟨h4, h⟩ := and3 h
        obtain ⟨h5, h⟩ := and3 h
        obtain ⟨h6, h7⟩ := and3 h
        refine weak (pe_lc o.calm o.nd (sI it F t i W X o h4) (blk_ok o h1) (fun s' H c cl fp => g_tg (o.blk s' H c cl fp) tg t h5) (fun s' H c cl fp => sTo ifs _ f WF _ (o.blk s' H c cl fp) h6) (fun s' H c cl fp => sE elt _ x WF _ (o.blk s' H c cl fp) h7) (folded_set h2)) fun σ H Q hh => ?_
        rw [own_map]
        exact comp_rd (slB_of h3) hh
      · cases h
    · cases h
  | .comp2 vs tg it ifs vs1 tg1 it1 ifs1 elt, F, e, W, X, o, h => by
    rw [ckL] at h
    split at h
    · rename_i x g s hx
      obtain ⟨p, rfl⟩ := asLC_of hx
      split at h
      · rename_i t i f t1 i1 f1 hg
        obtain rfl := asG2_of hg
        obtain ⟨h1, h⟩ := and3 h
        obtain ⟨h2, h⟩ := and3 h
        obtain ⟨h3, h⟩ := and3 h
        obtain ⟨h4, h⟩ := and3 h
        obtain ⟨h5, h⟩ := and3 h
        obtain ⟨h6, h⟩ := and3 h
        obtain ⟨h7, h⟩ := and3 h
        obtain ⟨h8, h⟩ := and3 h
        obtain ⟨h9, h⟩ := and3 h
        obtain ⟨h10, h⟩ := and3 h
        obtain ⟨h11, h⟩ := and3 h
        obtain ⟨h12, h13⟩ := and3 h
        refine weak (pe_lc2 (vs1 := vs1) o.calm o.nd (sI it F t i W X o h7) (blk_ok o h1) (by rw [own_map]; exact slB_of h6) (fun s' H c cl fp => g_tg (o.blk s' H c cl fp) tg t h8) (fun s' H c cl fp => sTo ifs _ f WF _ (o.blk s' H c cl fp) h9) (fun s' H c cl fp => sI it1 _ t1 i1 WF _ (o.blk s' H c cl fp) h10) (fun s' H c cl fp => g_tg (o.blk s' H c cl fp) tg1 t1 h11) (fun s' H c cl fp => sTo ifs1 _ f1 WF _ (o.blk s' H c cl fp) h12) (fun s' H c cl fp => sE elt _ x WF _ (o.blk s' H c cl fp) h13) (folded_set h2) (fun env => folded_set h3)) fun σ H Q hh => ?_
        rw [own_map]
        exact comp2_rd (slB_of h4) (slB_of h5) hh
      · cases h
    · cases h
  | .ofE a, F, e, W, X, o, h => by
    rw [ckL] at h
    split at h
    · rename_i f x hx
      obtain ⟨p, pos, rfl⟩ := asCall_of hx
      obtain ⟨h1, h⟩ := and3 h
      obtain ⟨h2, h⟩ := and3 h
      obtain ⟨h3, h4⟩ := and3 h
      obtain rfl := of_decide_eq_true h1
      exact g_ofE o h2 h3 (sE a F x W X o h4)
    · cases h
  | .ofR (.rng1 a), F, e, W, X, o, h => by
    rw [ckL] at h
    split at h
    · rename_i f y hx
      obtain ⟨p, pos, rfl⟩ := asCall_of hx
      split at h
      · rename_i f2 x hy
        obtain ⟨p2, pos2, rfl⟩ := asCall_of hy
        obtain ⟨h1, h⟩ := and3 h
        obtain ⟨h2, h⟩ := and3 h
        obtain ⟨h3, h⟩ := and3 h
        obtain ⟨h4, h⟩ := and3 h
        obtain ⟨h5, h6⟩ := and3 h
        obtain rfl := of_decide_eq_true h1
        obtain rfl := of_decide_eq_true h2
        exact g_ofR1 o h3 h4 h5 (sE a F x W X o h6)
      · cases h
    · cases h
  | .ofR (.rng2 a b), F, e, W, X, o, h => by
    rw [ckL] at h
    split at h
    · rename_i f y hx
      obtain ⟨p, pos, rfl⟩ := asCall_of hx
      split at h
      · rename_i f2 x z hy
        obtain ⟨p2, pos2, rfl⟩ := asCall_of hy
        obtain ⟨h1, h⟩ := and3 h
        obtain ⟨h2, h⟩ := and3 h
        obtain ⟨h3, h⟩ := and3 h
        obtain ⟨h4, h⟩ := and3 h
        obtain ⟨h5, h⟩ := and3 h
        obtain ⟨h6, h⟩ := and3 h
        obtain ⟨h7, h8⟩ := and3 h
        obtain rfl := of_decide_eq_true h1
        obtain rfl := of_decide_eq_true h2
        exact g_ofR2 o h3 h4 h5 h6 (sE a F x W X o h7) (sE b F z W X o h8)
      · cases h
    · cases h
  | .ofR (.ex _), F, e, W, X, o, h => absurd (show false = true from h) Bool.false_ne_true
  | .ofR (.enum _), F, e, W, X, o, h => absurd (show false = true from h) Bool.false_ne_true
  | .ofR (.zip _ _), F, e, W, X, o, h => absurd (show false = true from h) Bool.false_ne_true
  | .ofR (.items _), F, e, W, X, o, h => absurd (show false = true from h) Bool.false_ne_true
  | .sorted t a, F, e, W, X, o, h => by
    rw [ckL] at h
    split at h
    · rename_i f x hx
      obtain ⟨p, pos, rfl⟩ := asCall_of hx
      obtain ⟨h1, h⟩ := and3 h
      obtain ⟨h2, h⟩ := and3 h
      obtain ⟨h3, h4⟩ := and3 h
      obtain rfl := of_decide_eq_true h1
      exact g_sorted o h2 h3 (sE a F x W X o h4)
    · cases h
  | .cat a b, F, e, W, X, o, h => by
    rw [ckL] at h
    split at h
    · rename_i x y hx
      obtain ⟨p, rfl⟩ := asBin_of hx
      obtain ⟨h1, h2⟩ := and3 h
      exact g_cat (sE a F x W X o h1) (sE b F y W X o h2)
    · cases h
  | .rep a b, F, e, W, X, o, h => by
    rw [ckL] at h
    split at h
    · rename_i x y hx
      obtain ⟨p, rfl⟩ := asBin_of hx
      obtain ⟨h1, h2⟩ := and3 h
      exact g_rep (sE a F x W X o h1) (sE b F y W X o h2)
    · cases h
  | .slc a lo hi, F, e, W, X, o, h => by
    rw [ckL] at h
    split at h
    · rename_i x s hx
      obtain ⟨p, rfl⟩ := asSub_of hx
      split at h
      · rename_i l u hs
        obtain ⟨p2, rfl⟩ := asSlice_of hs
        obtain ⟨h1, h⟩ := and3 h
        obtain ⟨h2, h3⟩ := and3 h
        exact g_lslc o (sE a F x W X o h1) (sO lo F l W X o h2) (sO hi F u W X o h3)
      · cases h
    · cases h
  | .vals a, F, e, W, X, o, h => by
    rw [ckL] at h
    split at h
    · rename_i f y hx
      obtain ⟨p, pos, rfl⟩ := asCall_of hx
      split at h
      · rename_i ob m hm
        obtain ⟨apos, cpos, rfl, hl⟩ := asMl_of hm
        obtain ⟨h1, h⟩ := and3 h
        obtain ⟨h2, h⟩ := and3 h
        obtain ⟨h3, h⟩ := and3 h
        obtain ⟨h4, h5⟩ := and3 h
        obtain rfl := of_decide_eq_true h1
        obtain rfl := of_decide_eq_true h2
        exact g_vals o h3 hl h4 (sE a F ob W X o h5)
      · cases h
    · cases h
  | .sortset t a, F, e, W, X, o, h => by
    rw [ckL] at h
    split at h
    · rename_i f y hx
      obtain ⟨p, pos, rfl⟩ := asCall_of hx
      split at h
      · rename_i g x hy
        obtain ⟨p2, pos2, rfl⟩ := asCall_of hy
        obtain ⟨h0, h⟩ := and3 h
        obtain ⟨h1, h⟩ := and3 h
        obtain ⟨h2, h⟩ := and3 h
        obtain ⟨h3, h⟩ := and3 h
        obtain ⟨h4, h⟩ := and3 h
        obtain ⟨h5, h6⟩ := and3 h
        obtain rfl := isIntSeq_of h0
        obtain rfl := of_decide_eq_true h1
        obtain rfl := of_decide_eq_true h2
        exact g_sortset o h3 h4 h5 (sE a F x W X o h6)
      · cases h
    · cases h
  | .sortI t a, F, e, W, X, o, h => by
    rw [ckL] at h
    split at h
    · rename_i f y hx
      obtain ⟨p, pos, rfl⟩ := asCall_of hx
      split at h
      · rename_i ob m hm
        obtain ⟨apos, cpos, rfl, hl⟩ := asMl_of hm
        obtain ⟨h1, h⟩ := and3 h
        obtain ⟨h2, h⟩ := and3 h
        obtain ⟨h3, h⟩ := and3 h
        obtain ⟨h4, h5⟩ := and3 h
        obtain rfl := of_decide_eq_true h1
        obtain rfl := of_decide_eq_true h2
        exact g_sortI o h3 hl h4 (sE a F ob W X o h5)
      · cases h
    · cases h
  | .sortV t a, F, e, W, X, o, h => by
    rw [ckL] at h
    split at h
    · rename_i f y hx
      obtain ⟨p, pos, rfl⟩ := asCall_of hx
      split at h
      · rename_i ob m hm
        obtain ⟨apos, cpos, rfl, hl⟩ := asMl_of hm
        obtain ⟨h1, h⟩ := and3 h
        obtain ⟨h2, h⟩ := and3 h
        obtain ⟨h3, h⟩ := and3 h
        obtain ⟨h4, h5⟩ := and3 h
        obtain rfl := of_decide_eq_true h1
        obtain rfl := of_decide_eq_true h2
        exact g_sortV o h3 hl h4 (sE a F ob W X o h5)
      · cases h
    · cases h
  | .sumL _, F, e, W, X, o, h => absurd (show false = true from h) Bool.false_ne_true
  | .rev a, F, e, W, X, o, h => by
    rw [ckL] at h
    split at h
    · rename_i x hx
      obtain ⟨k, p1, p2, p3, pos, rfl⟩ := asRev_of hx
      exact g_revL (sE a F x W X o h)
    · cases h
theorem sM : ∀ (m : Ev.M) (F : Fr) (e : Expr) (W : XW) (X : Cx), XOk C M F cf k W X → ckM M m F e = true → PE X e (rdM C W (evM cf m))
  | .disp .nil .nil, F, e, W, X, o, h => by
    rw [ckM] at h
    split at h
    · rename_i hx
      obtain ⟨p, rfl⟩ := asD0_of hx
      exact g_d0
    · cases h
  | .disp (.cons a .nil) (.cons b .nil), F, e, W, X, o, h => by
    rw [ckM] at h
    split at h
    · rename_i x y hx
      obtain ⟨p, rfl⟩ := asD1_of hx
      obtain ⟨h1, h2⟩ := and3 h
      exact g_d1 o (sE a F x W X o h1) (sE b F y W X o h2)
    · cases h
  | .disp .nil (.cons _ _), F, e, W, X, o, h => absurd (show false = true from h) Bool.false_ne_true
  | .disp (.cons _ (.cons _ _)) _, F, e, W, X, o, h => absurd (show false = true from h) Bool.false_ne_true
  | .disp (.cons _ .nil) .nil, F, e, W, X, o, h => absurd (show false = true from h) Bool.false_ne_true
  | .disp (.cons _ .nil) (.cons _ (.cons _ _)), F, e, W, X, o, h => absurd (show false = true from h) Bool.false_ne_true
  | .comp vs tg it ifs a b, F, e, W, X, o, h => by
    rw [ckM] at h
    split at h
    · rename_i x y g s hx
      obtain ⟨p, rfl⟩ := asDC_of hx
      split at h
      · rename_i t i f hg
        obtain rfl := asG1_of hg
        obtain ⟨h1, h⟩ := and3 h
        obtain ⟨h2, h⟩ := and3 h
        obtain ⟨h3, h⟩ := and3 h
        obtain ⟨h4, h⟩ := and3 h
        obtain ⟨h5, h⟩ := and3 h
        obtain ⟨h6, h⟩ := and3 h
        obtain ⟨h7, h8⟩ := and3 h
        refine weak (pe_dcx (bod := bEmit x y) (tb := tEmit X.prog X.w X.A (rdE C WF (evE cf a)) (rdE C WF (evE cf b))) o.calm o.nd (sI it F t i W X o h4) (blk_ok o h1) h2 (fun Y it D => turn_emit) (fun s' H c cl fp => g_tg (o.blk s' H c cl fp) tg t h5) (fun s' H c cl fp => sTo ifs _ f WF _ (o.blk s' H c cl fp) h6) (fun s' H c cl fp D => pb_emit (Y := X.blk s' H s (compEnvC s cl c X.env) fp) rfl (sE a _ x WF _ (o.blk s' H c cl fp) h7) (sE b _ y WF _ (o.blk s' H c cl fp) h8))) fun σ H Q hh => ?_
        rw [own_map]
        exact dcomp_rd o.prog o.w o.units (slB_of h3) hh
      · cases h
    · cases h
  | .comp2 vs tg it ifs vs1 tg1 it1 ifs1 a b, F, e, W, X, o, h => by
    rw [ckM] at h
    split at h
    · rename_i x y g s hx
      obtain ⟨p, rfl⟩ := asDC_of hx
      split at h
      · rename_i t i f t1 i1 f1 hg
        obtain rfl := asG2_of hg
        obtain ⟨h1, h⟩ := and3 h
        obtain ⟨h2, h⟩ := and3 h
        obtain ⟨h3, h⟩ := and3 h
        obtain ⟨h4, h⟩ := and3 h
        obtain ⟨h5, h⟩ := and3 h
        obtain ⟨h6, h⟩ := and3 h
        obtain ⟨h7, h⟩ := and3 h
        obtain ⟨h8, h⟩ := and3 h
        obtain ⟨h9, h⟩ := and3 h
        obtain ⟨h10, h⟩ := and3 h
        obtain ⟨h11, h⟩ := and3 h
        obtain ⟨h12, h⟩ := and3 h
        obtain ⟨h13, h14⟩ := and3 h
        refine weak (pe_dcx (bod := bIn (.DictComp x y [⟨t, i, f, 0⟩, ⟨t1, i1, f1, 0⟩] s p) i1) (tb := fun D => tIn (rdI C WF (evI cf it1)) (gRd C tg1) (rdT C WF (evTo cf ifs1)) (tEmit X.prog X.w X.A (rdE C WF (evE cf a)) (rdE C WF (evE cf b)) D) vs1) o.calm o.nd (sI it F t i W X o h7) (blk_ok o h1) h2 (fun Y it D => turn_out) (fun s' H c cl fp => g_tg (o.blk s' H c cl fp) tg t h8) (fun s' H c cl fp => sTo ifs _ f WF _ (o.blk s' H c cl fp) h9) (fun s' H c cl fp D => pb_in (Y := X.blk s' H s (compEnvC s cl c X.env) fp) rfl o.calm h3 (by rw [own_map]; exact slB_of h6) (sI it1 _ t1 i1 WF _ (o.blk s' H c cl fp) h10) (g_tg (o.blk s' H c cl fp) tg1 t1 h11) (sTo ifs1 _ f1 WF _ (o.blk s' H c cl fp) h12) (pb_emit (Y := X.blk s' H s (compEnvC s cl c X.env) fp) rfl (sE a _ x WF _ (o.blk s' H c cl fp) h13) (sE b _ y WF _ (o.blk s' H c cl fp) h14)))) fun σ H Q hh => ?_
        rw [own_map]
        exact dcomp2_rd o.prog o.w o.units (slB_of h4) (slB_of h5) hh
      · cases h
    · cases h
theorem sI : ∀ (i : I) (F : Fr) (t e : Expr) (W : XW) (X : Cx), XOk C M F cf k W X → ckI M i F t e = true → PI X t e (rdI C W (evI cf i))
  | .ex a, F, t, e, W, X, o, h => by
    rw [ckI] at h
    exact g_ex (sE a F e W X o h)
  | .rng1 a, F, t, e, W, X, o, h => by
    rw [ckI] at h
    split at h
    · rename_i f x hx
      obtain ⟨p, pos, rfl⟩ := asCall_of hx
      obtain ⟨h1, h⟩ := and3 h
      obtain ⟨h2, h⟩ := and3 h
      obtain ⟨h3, h4⟩ := and3 h
      obtain rfl := of_decide_eq_true h1
      exact g_rng1 o h2 h3 (sE a F x W X o h4)
    · cases h
  | .rng2 a b, F, t, e, W, X, o, h => by
    rw [ckI] at h
    split at h
    · rename_i f x y hx
      obtain ⟨p, pos, rfl⟩ := asCall_of hx
      obtain ⟨h1, h⟩ := and3 h
      obtain ⟨h2, h⟩ := and3 h
      obtain ⟨h3, h⟩ := and3 h
      obtain ⟨h4, h⟩ := and3 h
      obtain ⟨h5, h6⟩ := and3 h
      obtain rfl := of_decide_eq_true h1
      exact g_rng2 o h2 h3 h4 (sE a F x W X o h5) (sE b F y W X o h6)
    · cases h
  | .enum a, F, t, e, W, X, o, h => by
    rw [ckI] at h
    split at h
    · rename_i ts ht
      obtain ⟨kk, tp, rfl⟩ := asTup_of ht
      split at h
      · rename_i f x hx
        obtain ⟨p, pos, rfl⟩ := asCall_of hx
        obtain ⟨h1, h⟩ := and3 h
        obtain ⟨h2, h⟩ := and3 h
        obtain ⟨h3, h4⟩ := and3 h
        obtain rfl := of_decide_eq_true h1
        exact g_enum o h2 h3 (sE a F x W X o h4)
      · cases h
    · cases h
  | .zip a b, F, t, e, W, X, o, h => by
    rw [ckI] at h
    split at h
    · rename_i ts ht
      obtain ⟨kk, tp, rfl⟩ := asTup_of ht
      split at h
      · rename_i f x y hx
        obtain ⟨p, pos, rfl⟩ := asCall_of hx
        obtain ⟨h1, h⟩ := and3 h
        obtain ⟨h2, h⟩ := and3 h
        obtain ⟨h3, h⟩ := and3 h
        obtain ⟨h4, h⟩ := and3 h
        obtain ⟨h5, h6⟩ := and3 h
        obtain rfl := of_decide_eq_true h1
        exact g_zip o h2 h3 h4 (sE a F x W X o h5) (sE b F y W X o h6)
      · cases h
    · cases h
  | .items a, F, t, e, W, X, o, h => by
    rw [ckI] at h
    split at h
    · rename_i ts ht
      obtain ⟨kk, tp, rfl⟩ := asTup_of ht
      split at h
      · rename_i ob m hx
        obtain ⟨apos, cpos, rfl, hl⟩ := asMl_of hx
        obtain ⟨h1, h⟩ := and3 h
        obtain ⟨h2, h3⟩ := and3 h
        obtain rfl := of_decide_eq_true h1
        exact g_items o (base_of h2) hl (sE a F ob W X o h3)
      · cases h
    · cases h
end
end
end Ev

set_option Elab.async false
set_option linter.all false
set_option maxRecDepth 100000
set_option maxHeartbeats 4000000
namespace Ev
open PySem PySem.Spec PyProof.Rows L2

/-! ### statements -/
def postS (C : Gc) (W : XW) (k0 : Nat) (μ : List Addr) (H : Hp) (res : R Fl) (D : Ends) : Prop := match res with
  | .ok (.next r') st' => ∀ μ' H' σ', Ns k0 μ H μ' H' → Wd C H' μ' st' → REn C H' μ' r' σ' → D.nx σ' H'
  | .ok (.ret d) st' => ∀ μ' H' v, Ns k0 μ H μ' H' → Wd C H' μ' st' → RD C H' μ' d v → D.rt v H'
  | .exc c fs st' => ∀ μ' H' σ', Ns k0 μ H μ' H' → Wd C H' μ' st' → W c fs st' μ' H' σ'
  | .bad => False
def rdS (C : Gc) (W : XW) (k0 : Nat) (ev : En → St → R Fl) : TS := fun D σ H => ∃ μ st r, Wd C H μ st ∧ REn C H μ r σ ∧ k0 ≤ μ.length ∧ postS C W k0 μ H (ev r st) D
theorem weakS {X : Cx} {st : Stmt} {t t' : TS} (h : PS X st t) (f : ∀ D σ H, t' D σ H → t D σ H) : PS X st t' := ⟨fun pins s σ H D I q => h.run pins s σ H D I (f D σ H q)⟩
theorem weakSs {X : Cx} {st : List Stmt} {t t' : TS} (h : PSs X st t) (f : ∀ D σ H, t' D σ H → t D σ H) : PSs X st t' := ⟨fun pins s σ H D I q => h.run pins s σ H D I (f D σ H q)⟩
section
variable {C : Gc} {M : Md} {F : Fr} {cf : Cf} {k k0 : Nat} {W : XW} {X : Cx}
theorem postS.ns {μ μ1 : List Addr} {H H1 : Hp} {res : R Fl} {D : Ends} (hk : k0 ≤ μ.length) (h : postS C W k0 μ H res D) (n : Ns k0 μ H μ1 H1) : postS C W k0 μ1 H1 res D := by
  cases res with
  | ok fl st =>
    cases fl with
    | next r => exact fun μ' H' σ' n' w hr => h μ' H' σ' (n.trans hk n') w hr
    | ret d => exact fun μ' H' v n' w hr => h μ' H' v (n.trans hk n') w hr
  | exc c fs st => exact fun μ' H' σ' n' w => h μ' H' σ' (n.trans hk n') w
  | bad => exact h
theorem hereN {μ : List Addr} {H : Hp} {r' : En} {st : St} {D : Ends} {σ' : L2.St} (h : postS C W k0 μ H (.ok (.next r') st) D) (w : Wd C H μ st) (hr : REn C H μ r' σ') : D.nx σ' H := h μ H σ' (Ns.refl _ _ _) w hr
theorem hereR {μ : List Addr} {H : Hp} {d : D} {st : St} {D : Ends} {v : V} (h : postS C W k0 μ H (.ok (.ret d) st) D) (w : Wd C H μ st) (hr : RD C H μ d v) : D.rt v H := h μ H v (Ns.refl _ _ _) w hr
/-- STEP: an expression runs first -/
theorem stepS {α : Type} {ev : En → St → R α} {f : α → St → R Fl} {D : Ends} {ok1 : α → St → List Addr → Hp → Prop} {σ : L2.St} {H : Hp} {μ : List Addr} {st : St} {r : En}
    (w : Wd C H μ st) (hr : REn C H μ r σ) (hk : k0 ≤ μ.length) (h : postS C W k0 μ H ((ev r st).bind f) D)
    (kk : ∀ a st1 μ1 H1, Nx μ H μ1 H1 → Wd C H1 μ1 st1 → REn C H1 μ1 r σ → k0 ≤ μ1.length → postS C W k0 μ1 H1 (f a st1) D → ok1 a st1 μ1 H1) : rdG C W ev ok1 σ H := by
  refine ⟨μ, st, r, w, hr, ?_⟩
  cases e : ev r st with
  | ok a st1 =>
    rw [e] at h
    exact fun μ1 H1 n w1 => kk a st1 μ1 H1 n w1 (hr.nx n) (Nat.le_trans hk n.pre.length_le) (postS.ns hk h n.ns)
  | exc c fs st1 => rw [e] at h; exact fun μ1 H1 n w1 => h μ1 H1 σ n.ns w1
  | bad => rw [e] at h; exact h
theorem g_snil : PSs X [] (rdS C W k0 (evSs cf k0 .nil)) := weakSs pss_nil fun D σ H ⟨μ, st, r, w, hr, hk, h⟩ => by
  rw [evSs] at h
  exact hereN h w hr
theorem g_scons {a : S} {b : Ss} {st : Stmt} {rest : List Stmt} (h1 : PS X st (rdS C W k0 (evS cf k0 a))) (h2 : PSs X rest (rdS C W k0 (evSs cf k0 b))) : PSs X (st :: rest) (rdS C W k0 (evSs cf k0 (.cons a b))) := weakSs (pss_cons h1 h2) fun D σ H ⟨μ, s, r, w, hr, hk, h⟩ => by
  rw [evSs] at h
  refine ⟨μ, s, r, w, hr, hk, ?_⟩
  cases e : evS cf k0 a r s with
  | ok fl s1 =>
    rw [e] at h
    cases fl with
    | next r1 => exact fun μ' H' σ' n' w' hr' => ⟨μ', s1, r1, w', hr', n'.len hk, postS.ns hk h n'⟩
    | ret d => exact h
  | exc c fs s1 => rw [e] at h; exact h
  | bad => rw [e] at h; exact h
theorem g_ret {a : E} {e : Expr} {pos : Pos} (h1 : PE X e (rdE C W (evE cf a))) : PS X (.Return (some e) pos) (rdS C W k0 (evS cf k0 (.ret a))) := weakS (ps_ret h1) fun D σ H ⟨μ, st, r, w, hr, hk, h⟩ => by
  rw [evS] at h
  exact stepS w hr hk h fun d st1 μ1 H1 n1 w1 hr1 hk1 h1 v rv => hereR h1 w1 rv
theorem g_retN {pos : Pos} : PS X (.Return none pos) (rdS C W k0 (evS cf k0 .retN)) := weakS ps_retN fun D σ H ⟨μ, st, r, w, hr, hk, h⟩ => by
  rw [evS] at h
  exact hereR h w (show RP C H .non .non from RP.non_iff.mpr rfl)
theorem g_skip {pos : Pos} : PS X (.Pass pos) (rdS C W k0 (evS cf k0 .skip)) := weakS ps_pass fun D σ H ⟨μ, st, r, w, hr, hk, h⟩ => by
  rw [evS] at h
  exact hereN h w hr
theorem g_never {st : Stmt} : PS X st (rdS C W k0 (evS cf k0 .never)) := weakS ps_never fun D σ H ⟨μ, st, r, w, hr, hk, h⟩ => by
  rw [evS] at h
  exact h
theorem g_sex {a : E} {e : Expr} {pos : Pos} (hn : notComp e = true) (h1 : PE X e (rdE C W (evE cf a))) : PS X (.Expr e pos) (rdS C W k0 (evS cf k0 (.ex a))) := weakS (ps_expr h1 (swaps_no hn)) fun D σ H ⟨μ, st, r, w, hr, hk, h⟩ => by
  rw [evS] at h
  exact stepS w hr hk h fun d st1 μ1 H1 n1 w1 hr1 hk1 h1 v rv => hereN h1 w1 hr1
theorem g_sif {t : T} {a b : Ss} {c : Expr} {x y : List Stmt} {pos : Pos} (h1 : Both C W X c (evT cf t)) (h2 : PSs X x (rdS C W k0 (evSs cf k0 a))) (h3 : PSs X y (rdS C W k0 (evSs cf k0 b))) : PS X (.If c x y pos) (rdS C W k0 (evS cf k0 (.ife t a b))) := weakS (ps_if h1.1 h2 h3) fun D σ H ⟨μ, st, r, w, hr, hk, h⟩ => by
  rw [evS] at h
  refine stepS w hr hk h fun c st1 μ1 H1 n1 w1 hr1 hk1 h1 => ?_
  cases c with
  | true => simp only [okT, ite_t] at h1 ⊢; exact ⟨μ1, st1, r, w1, hr1, hk1, h1⟩
  | false => simp only [okT, ite_f] at h1 ⊢; exact ⟨μ1, st1, r, w1, hr1, hk1, h1⟩
/-- name = e -/
theorem asg_rd {i : Nat} {a : E} {D : Ends} {σ : L2.St} {H : Hp} (h : rdS C W k0 (evS cf k0 (.asg i a)) D σ H) : tAsg (rdE C W (evE cf a)) (gName i) D σ H := by
  obtain ⟨μ, st, r, w, hr, hk, h⟩ := h
  rw [evS] at h
  refine stepS w hr hk h fun d st1 μ1 H1 n1 w1 hr1 hk1 h1 v rv => ?_
  split at h1
  · exact hereN h1 w1 (hr1.set rv)
  · exact h1.elim
theorem g_asg (o : XOk C M F cf k W X) {i : Nat} {a : E} {x : Str} {e : Expr} {p pos : Pos} (hi : F.N[i]? = some x) (hl : locB F x = true) (hs : swapsWith e (some (.Name x p)) pos.line X.env = pure false) (h1 : PE X e (rdE C W (evE cf a))) : PS X (.Assign [.Name x p] e pos) (rdS C W k0 (evS cf k0 (.asg i a))) := by
  obtain ⟨l1, l2⟩ := o.loc hl
  exact weakS (ps_set o.nd (by rw [o.N]; exact hi) l1 h1 hs l2) fun D σ H h => asg_rd h
/-- .. a list, that is frozen then -/
theorem fr_asg {i : Nat} {l : L} {st : Stmt} (h1 : PS X st (tAsg (rdL C W (evL cf l)) (gName i))) : PS X st (rdS C W k0 (evS cf k0 (.asg i (.frz l)))) := by
  refine ⟨fun pins s σ H D I ⟨μ, st0, r, w, hr, hk, h⟩ => ?_⟩
  rw [evS, evE, bind_assoc] at h
  refine thn (h1.run pins s σ H { D with nx := fun σ' H2 => (∃ p xs l μ1 st1 H1, σ' = σ.set i (some (.ref p)) ∧ H1 p = none ∧ H2 = upd H1 p (.lst xs) ∧ RPs C H1 l xs ∧ Wd C H1 μ1 st1 ∧ REn C H1 μ1 r σ ∧
    postS C W k0 μ1 H1 (if i < r.length then .ok (.next (r.set i (some (.p (.lst l))))) st1 else .bad) D) } I (stepS w hr hk h fun l st1 μ1 H1 n1 w1 hr1 hk1 h1 p xs hp rr => ⟨p, xs, l, μ1, st1, H1, rfl, hp, rfl, rr, w1, hr1, h1⟩)) fun f s1 q => ?_
  cases f with
  | next =>
    obtain ⟨σ1, H2, I1, p, xs, l, μ1, st1, H1, rfl, hp, rfl, rr, w1, hr1, h1⟩ := q
    obtain ⟨od, I2⟩ := I1.lock upd_same trivial
    rw [upd_upd] at I2
    split at h1
    · refine ⟨_, _, I2, h1 μ1 _ _ (Nx.fresh hp).ns (w1.fresh hp) ?_⟩
      exact (hr1.nx (Nx.fresh hp)).set (d := .p (.lst l)) (RP.lst_iff.mpr ⟨p, xs, rfl, ImL.of upd_same, RPs.keep (Keep.new _ hp) _ _ rr⟩)
    · exact h1.elim
  | ret v => exact q
  | brk => exact q
  | cont => exact q
theorem nw_asg {i : Nat} {l : L} {st : Stmt} (h1 : PS X st (tAsg (rdL C W (evL cf l)) (gName i))) : PS X st (rdS C W k0 (evS cf k0 (.asg i (.new l)))) := weakS h1 fun D σ H ⟨μ, st0, r, w, hr, hk, h⟩ => by
  rw [evS, evE, bind_assoc] at h
  refine stepS w hr hk h fun l st1 μ1 H1 n1 w1 hr1 hk1 h1 p xs hp rr => ?_
  have h1 : postS C W k0 μ1 H1 (if i < r.length then .ok (.next (r.set i (some (.obj st1.length)))) (st1 ++ [.lst l]) else .bad) D := h1
  split at h1
  · refine h1 (μ1 ++ [p]) _ _ (Nx.push hp).ns (w1.push hp ⟨xs, upd_same, RPs.keep (Keep.new _ hp) _ _ rr⟩) ?_
    refine (hr1.nx (Nx.push hp)).set (d := .obj st1.length) ⟨p, ?_, rfl⟩
    rw [← w1.len, List.getElem?_append_right (Nat.le_refl _), Nat.sub_self]; rfl
  · exact h1.elim
theorem fr_asgM {i : Nat} {l : Ev.M} {st : Stmt} (h1 : PS X st (tAsg (rdM C W (evM cf l)) (gName i))) : PS X st (rdS C W k0 (evS cf k0 (.asg i (.frzM l)))) := by
  refine ⟨fun pins s σ H D I ⟨μ, st0, r, w, hr, hk, h⟩ => ?_⟩
  rw [evS, evE, bind_assoc] at h
  refine thn (h1.run pins s σ H { D with nx := fun σ' H2 => (∃ (p : Addr) (u : HO) (kv : List P × List P) (μ1 : List Addr) (st1 : St) (H1 : Hp), σ' = σ.set i (some (.ref p)) ∧ H1 p = none ∧ H2 = upd H1 p u ∧ Mut (some u) ∧ RDc C H1 p kv.1 kv.2 u ∧ Wd C H1 μ1 st1 ∧ REn C H1 μ1 r σ ∧
    postS C W k0 μ1 H1 (if i < r.length then .ok (.next (r.set i (some (.p (.dct kv.1 kv.2))))) st1 else .bad) D) } I (stepS w hr hk h fun kv st1 μ1 H1 n1 w1 hr1 hk1 h1 p u hp mu rr => ⟨p, u, kv, μ1, st1, H1, rfl, hp, rfl, mu, rr, w1, hr1, h1⟩)) fun f s1 q => ?_
  cases f with
  | next =>
    obtain ⟨σ1, H2, I1, p, u, kv, μ1, st1, H1, rfl, hp, rfl, mu, rr, w1, hr1, h1⟩ := q
    obtain ⟨od, I2⟩ := I1.lock upd_same mu
    rw [upd_upd] at I2
    split at h1
    · refine ⟨_, _, I2, h1 μ1 _ _ (Nx.fresh hp).ns (w1.fresh hp) ?_⟩
      exact (hr1.nx (Nx.fresh hp)).set (d := .p (.dct kv.1 kv.2)) (RP.dct_iff.mpr ⟨p, od, u, rfl, upd_same, rr.keep (Keep.new _ hp)⟩)
    · exact h1.elim
  | ret v => exact q
  | brk => exact q
  | cont => exact q
theorem nw_asgM {i : Nat} {l : Ev.M} {st : Stmt} (h1 : PS X st (tAsg (rdM C W (evM cf l)) (gName i))) : PS X st (rdS C W k0 (evS cf k0 (.asg i (.newM l)))) := weakS h1 fun D σ H ⟨μ, st0, r, w, hr, hk, h⟩ => by
  rw [evS, evE, bind_assoc] at h
  refine stepS w hr hk h fun kv st1 μ1 H1 n1 w1 hr1 hk1 h1 p u hp mu rr => ?_
  have h1 : postS C W k0 μ1 H1 (if i < r.length then .ok (.next (r.set i (some (.obj st1.length)))) (st1 ++ [.dct kv.1 kv.2]) else .bad) D := h1
  split at h1
  · refine h1 (μ1 ++ [p]) _ _ (Nx.push hp).ns (w1.push hp ⟨u, upd_same, rr.keep (Keep.new _ hp)⟩) ?_
    refine (hr1.nx (Nx.push hp)).set (d := .obj st1.length) ⟨p, ?_, rfl⟩
    rw [← w1.len, List.getElem?_append_right (Nat.le_refl _), Nat.sub_self]; rfl
  · exact h1.elim
/-- (a, b, ..) = e -/
theorem asTup_no {tg e : Expr} {env : Env} (h : asTup e = none) : swappedStores [tg] e env = pure none := by
  cases tg <;> cases e <;> first | rfl | cases h
theorem g_unp (o : XOk C M F cf k W X) {gs : Gs} {a : E} {tg e : Expr} {pos : Pos} (hg : ckG F (.tup gs) tg = true) (ht : asTup e = none) (hn : notComp e = true) (h1 : PE X e (rdE C W (evE cf a))) : PS X (.Assign [tg] e pos) (rdS C W k0 (evS cf k0 (.unp gs a))) := by
  have hns : notStar tg = true := by
    rw [ckG] at hg
    cases tg <;> first | rfl | cases hg
  refine weakS (ps_asg h1 (g_tg o (.tup gs) tg hg) (swapsSole_no hn) (asTup_no ht) (asg_cons hns)) fun D σ H ⟨μ, st, r, w, hr, hk, h⟩ => ?_
  rw [evS] at h
  refine stepS w hr hk h fun d st1 μ1 H1 n1 w1 hr1 hk1 h1 v rv => ?_
  split at h1
  · rename_i l
    split at h1
    · rename_i r1 e1
      exact ⟨μ1, .tup l, r, r1, hr1, rv, e1, fun σ' hr' off => hereN h1 w1 hr'⟩
    · exact h1.elim
  · exact h1.elim
/-! ### loops -/
theorem g_for (o : XOk C M F cf k W X) (own : PassesOwn (model X.prog X.w) X.A X.env X.xe) {g : G} {it : I} {b : Ss} {tg iter : Expr} {body : List Stmt} {pos : Pos} (hs : notSet iter = true) (hi : PI X tg iter (rdI C W (evI cf it))) (hg : PG X tg (gRd C g)) (hb : PSs X body (rdS C W k0 (evSs cf k0 b))) :
    PS X (.For tg iter body [] pos) (rdS C W k0 (evS cf k0 (.fo g it b))) := weakS (ps_for own o.calm hi hg hb (folded_set hs)) fun D σ H ⟨μ, st, r, w, hr, hk, h⟩ => by
  rw [evS] at h
  refine stepS w hr hk h fun l st1 μ1 H1 n1 w1 hr1 hk1 h1 J hJ => ?_
  generalize hf : (fun (x : P) (r1 : En) (s2 : St) => match asgG g x r1 with
      | some r2 => evSs cf k0 b r2 s2
      | none => .bad) = f at h1
  refine ⟨fun i m σ H => m = l.length - i ∧ i ≤ l.length ∧ Keep H1 H ∧ ∃ μ st r, Wd C H μ st ∧ REn C H μ r σ ∧ k0 ≤ μ.length ∧ postS C W k0 μ H (forGo f (l.drop i) r st) D, ⟨l.length, by simp, Nat.zero_le _, Keep.refl _, μ1, st1, r, w1, hr1, hk1, by rw [List.drop_zero]; exact h1⟩, ?_⟩
  rintro i m σ H ⟨rfl, hle, kp, μ, st, r, w, hr, hk, h⟩
  obtain ⟨y1, y2⟩ := hJ H kp
  by_cases hlt : i < l.length
  · obtain ⟨x, hx, hd⟩ := drop_at hlt
    rw [hd, forGo] at h
    obtain ⟨go, y3⟩ := y2 i x hx
    refine .inr ⟨go, fun σ' H' => i + 1 ≤ l.length ∧ Keep H1 H' ∧ ∃ μ st r, Wd C H' μ st ∧ REn C H' μ r σ' ∧ k0 ≤ μ.length ∧ postS C W k0 μ H' (forGo f (l.drop (i + 1)) r st) D, fun σ' H' q => ⟨l.length - (i + 1), by omega, rfl, q⟩, fun v H' hy => ?_⟩
    obtain ⟨sm, rx⟩ := y3 v H' hy
    have nS := Nx.same (μ := μ) sm
    rw [← hf] at h
    simp only at h
    cases ea : asgG g x r with
    | none => rw [ea] at h; exact h.elim
    | some r2 =>
      rw [ea] at h
      dsimp only at h
      refine ⟨μ, x, r, r2, hr.nx nS, rx, ea, fun σ2 hr2 off => ⟨μ, st, r2, w.same sm, hr2, hk, ?_⟩⟩
      have h := postS.ns hk h nS.ns
      cases eb : evSs cf k0 b r2 st with
      | ok fl s3 =>
        rw [eb] at h
        cases fl with
        | next r3 => exact fun μ' H'' σ' n' w' hr' => ⟨hlt, kp.trans (nS.keep.trans n'.keep), μ', s3, r3, w', hr', n'.len hk, by rw [← hf]; exact postS.ns hk h n'⟩
        | ret d => exact h
      | exc c fs s3 => rw [eb] at h; exact h
      | bad => rw [eb] at h; exact h
  · have e0 : i = l.length := by omega
    subst e0
    rw [List.drop_length, forGo] at h
    exact .inl ⟨y1 _ (Nat.le_refl _), hereN h w hr⟩
theorem g_whl (own : PassesOwn (model X.prog X.w) X.A X.env X.xe) {m : Mz} {t : T} {b : Ss} {c : Expr} {body : List Stmt} {pos : Pos} (hc : Both C W X c (evT cf t)) (hb : PSs X body (rdS C W k0 (evSs cf k0 b))) :
    PS X (.While c body [] pos) (rdS C W k0 (evS cf k0 (.whl m t b))) := weakS (ps_while own hc.1 hb) fun D σ H ⟨μ, st, r, w, hr, hk, h⟩ => by
  rw [evS] at h
  refine ⟨fun n σ H => ∃ μ st r, Wd C H μ st ∧ REn C H μ r σ ∧ k0 ≤ μ.length ∧ postS C W k0 μ H (whlGo (fun r1 s1 => evT cf t r1 s1) (fun r1 s1 => evSs cf k0 b r1 s1) n r st) D, ⟨_, μ, st, r, w, hr, hk, h⟩, ?_⟩
  rintro n σ H ⟨μ, st, r, w, hr, hk, h⟩
  cases n with
  | zero => exact h.elim
  | succ n =>
    rw [whlGo] at h
    refine stepS w hr hk h fun c st1 μ1 H1 n1 w1 hr1 hk1 h1 => ?_
    cases c with
    | true =>
      simp only [okT, ite_t] at h1 ⊢
      refine ⟨fun σ' H' => ∃ μ st r, Wd C H' μ st ∧ REn C H' μ r σ' ∧ k0 ≤ μ.length ∧ postS C W k0 μ H' (whlGo (fun r1 s1 => evT cf t r1 s1) (fun r1 s1 => evSs cf k0 b r1 s1) n r st) D, fun σ' H' q => ⟨n, Nat.lt_succ_self n, q⟩, μ1, st1, r, w1, hr1, hk1, ?_⟩
      cases eb : evSs cf k0 b r st1 with
      | ok fl s3 =>
        rw [eb] at h1
        cases fl with
        | next r3 => exact fun μ' H'' σ' n' w' hr' => ⟨μ', s3, r3, w', hr', n'.len hk1, postS.ns hk1 h1 n'⟩
        | ret d => exact h1
      | exc c fs s3 => rw [eb] at h1; exact h1
      | bad => rw [eb] at h1; exact h1
    | false => simp only [okT, ite_f] at h1 ⊢; exact hereN h1 w1 hr1
end
end Ev

set_option Elab.async false
set_option linter.all false
set_option maxRecDepth 100000
set_option maxHeartbeats 4000000
namespace Ev
open PySem PySem.Spec PyProof.Rows L2

/-! ### d[k] = v, l[i] = v -/
def rPut (C : Gc) : TSet := fun o i v H Q => (∃ p xs k j, o = .ref p ∧ i = .int k ∧ H p = some (.lst xs) ∧ L2.ixN xs.length k = some j ∧ Q (upd H p (.lst (xs.set j v)))) ∨
  (∃ D u ks vs ky z, o = .ref D ∧ H D = some u ∧ RDc C H D ks vs u ∧ keyOk ks ky = true ∧ ks.length < big ∧ RP C H ky i ∧ RP C H z v ∧ ∀ u', Mut (some u') → RDc C H D (dputK ks ky) (dputV ks vs ky z) u' → Q (upd H D u'))
/-- the slots of names, written from the left -/
def setS : List Nat → List V → L2.St → L2.St
  | i :: is, v :: vs, σ => setS is vs (σ.set i (some v))
  | _, _, σ => σ
def sName (is : List Nat) : TGs := fun vs σ H Q => vs.length = is.length ∧ Q (setS is vs σ) H
def ckNs (F : Fr) : List Nat → List Expr → Bool
  | [], [] => true
  | i :: is, e :: es => (match asName e with | some x => decide (F.N[i]? = some x) && locB F x | none => false) && ckNs F is es
  | _, _ => false
/-- are the stores of a tuple of names swapped? none: not told -/
def swV (F : Fr) (ts vs : List Expr) : Option (Option (List Str)) :=
  if (!(ts.length == 2 || ts.length == 3) || vs.length != ts.length) = true then some none
  else if (vs.any fun | .Starred .. => true | _ => false) = true then some none
  else if ((ts.filterMap fun
    | .Name id pos => if (F.sc.names.lookup id == some .local && pos.line == (ts.head?.map (·.pos.line)).getD 0) = true then some id else none
    | _ => none).length != ts.length || ((ts.filterMap fun
    | .Name id pos => if (F.sc.names.lookup id == some .local && pos.line == (ts.head?.map (·.pos.line)).getD 0) = true then some id else none
    | _ => none).eraseDups).length != (ts.filterMap fun
    | .Name id pos => if (F.sc.names.lookup id == some .local && pos.line == (ts.head?.map (·.pos.line)).getD 0) = true then some id else none
    | _ => none).length) = true then some none
  else if vs.all (foldedForSure 8) = true then some none
  else if vs.all (constantsAlone 8) = true then none
  else some (some (ts.filterMap fun
    | .Name id pos => if (F.sc.names.lookup id == some .local && pos.line == (ts.head?.map (·.pos.line)).getD 0) = true then some id else none
    | _ => none))
section
variable {C : Gc} {M : Md} {F : Fr} {cf : Cf} {k k0 : Nat} {W : XW} {X : Cx}
theorem sw_ok {ts vs : List Expr} {r : Option (List Str)} {a c : Nat} {b d : Pos} (hk : X.env.scope.kind = .function) (hsc : X.env.scope = F.sc) (h : swV F ts vs = some r) : swappedStores [.Tuple ts a b] (.Tuple vs c d) X.env = pure r := by
  have hb : X.env.blockKind = .function := by unfold Env.blockKind; rw [hk]; rfl
  have ek : ∀ id, X.env.kindOf id = F.sc.names.lookup id := fun id => by unfold Env.kindOf; rw [hsc]
  unfold swV at h
  unfold swappedStores
  simp only [hb, ek]
  have b0 : (ScopeKind.function != ScopeKind.function) = false := by decide
  simp only [b0, Bool.or_false]
  split at h
  · rename_i h1
    cases h
    exact if_pos h1
  · rename_i h1
    refine (if_neg h1).trans ?_
    split at h
    · rename_i h2
      cases h
      exact if_pos h2
    · rename_i h2
      refine (if_neg h2).trans ?_
      split at h
      · rename_i h3
        cases h
        exact if_pos h3
      · rename_i h3
        refine (if_neg h3).trans ?_
        split at h
        · rename_i h4
          cases h
          exact if_pos h4
        · rename_i h4
          refine (if_neg h4).trans ?_
          split at h
          · cases h
          · rename_i h5
            cases h
            exact if_neg h5
/-- the plain stores -/
theorem g_names (o : XOk C M F cf k W X) : ∀ (is : List Nat) (es : List Expr), ckNs F is es = true → PGs X es (sName is) ∧ es.all notStar = true ∧ is.length = es.length
  | [], [], _ => ⟨weakGs pgs_nil fun vs σ H Q ⟨hl, q⟩ => by
      have : vs = [] := List.eq_nil_of_length_eq_zero hl
      subst this
      exact ⟨rfl, q⟩, rfl, rfl⟩
  | [], _ :: _, h => by cases h
  | _ :: _, [], h => by cases h
  | i :: is, e :: es, h => by
    rw [ckNs, Bool.and_eq_true] at h
    obtain ⟨h, h2⟩ := h
    split at h
    · rename_i x hx
      obtain ⟨p, rfl⟩ := asName_of hx
      rw [Bool.and_eq_true, decide_eq_true_eq] at h
      obtain ⟨l1, l2⟩ := o.loc h.2
      obtain ⟨ih, ih2, ih3⟩ := g_names o is es h2
      refine ⟨weakGs (pgs_cons (pg_name o.nd (by rw [o.N]; exact h.1) l1 l2) ih) fun vs σ H Q ⟨hl, q⟩ => ?_, by rw [List.all_cons, ih2]; rfl, by rw [List.length_cons, List.length_cons, ih3]⟩
      cases vs with
      | nil => cases hl
      | cons v vs => exact ⟨v, vs, rfl, by simpa using hl, q⟩
    · cases h
theorem setAll_ren {μ : List Addr} {H : Hp} : ∀ {is : List Nat} {ds : List D} {vs : List V} {r r1 : En} {σ : L2.St}, REn C H μ r σ → RDs C H μ ds vs → setAll is ds r = some r1 → REn C H μ r1 (setS is vs σ) ∧ is.length = vs.length
  | [], [], vs, r, r1, σ, hr, rd, e => by
    cases e
    cases rd
    exact ⟨hr, rfl⟩
  | [], _ :: _, vs, r, r1, σ, hr, rd, e => by cases e
  | _ :: _, [], vs, r, r1, σ, hr, rd, e => by cases e
  | i :: is, d :: ds, vs, r, r1, σ, hr, rd, e => by
    cases rd with
    | cons r1' r2' =>
      rw [setAll] at e
      split at e
      · obtain ⟨a, b⟩ := setAll_ren (hr.set r1') r2' e
        exact ⟨a, by rw [List.length_cons, List.length_cons, b]⟩
      · cases e
theorem rds_rps {μ : List Addr} {H H' : Hp} {ds : List D} {vs : List V} (n : Nx μ H μ H') (h : RDs C H μ ds vs) : RDs C H' μ ds vs := h.nx n
theorem g_par (o : XOk C M F cf k W X) {is : List Nat} {as : Es} {ts vs : List Expr} {kt k2 : Nat} {pt pt2 pos : Pos} (hk : X.env.scope.kind = .function) (hn : ckNs F is ts = true) (hsw : swV F ts vs = some none) (hl : vs.length ≤ 1000) (hl2 : as.len = vs.length) (hl3 : is.length = vs.length) (h1 : PA X vs (rdA C W (evEs cf as))) :
    PS X (.Assign [.Tuple ts kt pt] (.Tuple vs k2 pt2) pos) (rdS C W k0 (evS cf k0 (.par is as))) := by
  obtain ⟨pg, hst, hlen⟩ := g_names o is ts hn
  refine weakS (ps_asg (pe_tup h1) (pg_tup (n := ts.length) o.calm pg (asg_len hst).1 (asg_len hst).2) (swapsSole_no rfl) (sw_ok hk o.sc hsw) (asg_cons rfl)) fun D σ H ⟨μ, st, r, w, hr, hk, h⟩ => ?_
  rw [evS] at h
  have hz := sizeLine_eq
  refine stepS w hr hk h fun ds st1 μ1 H1 n1 w1 hr1 hk1 h1 ws rws => ?_
  have h1 : postS C W k0 μ1 H1 (match setAll is ds r with | some r1 => R.ok (Fl.next r1) st1 | none => .bad) D := h1
  split at h1
  · rename_i r1 e1
    obtain ⟨a, b⟩ := setAll_ren hr1 rws e1
    refine ⟨by omega, fun p hp => ⟨p, ws, rfl, SqT.of upd_same, by omega, b.symm, ?_⟩⟩
    exact h1 μ1 _ _ (Nx.fresh hp).ns (w1.fresh hp) (a.nx (Nx.fresh hp))
  · exact h1.elim
theorem g_par2 (o : XOk C M F cf k W X) {i j : Nat} {as : Es} {x y : Str} {a b : Expr} {px py pt pt2 pos : Pos} {kt k2 : Nat} (hk : X.env.scope.kind = .function) (hi : F.N[i]? = some x) (hj : F.N[j]? = some y) (hij : i ≠ j) (hx : F.sc.names.lookup x = some .local) (hy : F.sc.names.lookup y = some .local)
    (hsw : swV F [.Name x px, .Name y py] [a, b] = some (some [x, y])) (h1 : PA X [a, b] (rdA C W (evEs cf as))) :
    PS X (.Assign [.Tuple [.Name x px, .Name y py] kt pt] (.Tuple [a, b] k2 pt2) pos) (rdS C W k0 (evS cf k0 (.par [i, j] as))) := by
  refine weakS (ps_par o.calm o.nd (by rw [o.N]; exact hi) (by rw [o.N]; exact hj) hij (by rw [o.sc]; exact hx) (by rw [o.sc]; exact hy) h1 (sw_ok hk o.sc hsw) (swapsSole_no rfl)) fun D σ H ⟨μ, st, r, w, hr, hk, h⟩ => ?_
  rw [evS] at h
  refine stepS w hr hk h fun ds st1 μ1 H1 n1 w1 hr1 hk1 h1 ws rws => ?_
  have h1 : postS C W k0 μ1 H1 (match setAll [i, j] ds r with | some r1 => R.ok (Fl.next r1) st1 | none => .bad) D := h1
  split at h1
  · rename_i r1 e1
    obtain ⟨a, b⟩ := setAll_ren hr1 rws e1
    match ws, b with
    | [v, w'], _ => exact ⟨v, w', rfl, hereN h1 w1 a⟩
  · exact h1.elim
/-! ### a written place -/
theorem set_put (o : XOk C M F cf k W X) : PSet X (rPut C) := by
  intro pins s σ H ob i v ov iv u Q I ro ri rv h
  rcases h with h | ⟨D, uu, ks, vs, ky, z, rfl, hD, r, hk, hz, rk, rz, q⟩
  · exact set_list pins s σ H ob i v ov iv u Q I ro ri rv h
  · cases ro
    obtain ⟨u', mu, r', _, wr⟩ := dct_write o.prog o.w o.units I hD r hk hz rk ri rz rv
    exact wr _ fun s' I' => ⟨_, I', q u' mu r'⟩
theorem sub_assign {o i : Expr} {p : Pos} {env : Env} (h : notSlice i = true) (v : Value) : assign (.Subscript o i p) env v = (do
      let ov ← holding [v] (eval o env)
      let iv ← holding [v, ov] (eval i env)
      standAt p
      holding [v, ov, iv] (setItem ov iv v)
      release [v, ov, iv] []) := by
  cases i <;> first | rfl | cases h
theorem dct_mut {a : Addr} {ks vs : List P} {H : Hp} {u : HO} (h : RDc C H a ks vs u) : ¬ Im u := by
  rcases h with ⟨kvs, rfl, _⟩ | ⟨_, _, _, rfl, _⟩ <;> exact fun z => z
theorem dct_nt {a : Addr} {ks vs : List P} {H : Hp} {u : HO} (h : RDc C H a ks vs u) : NT u := by
  rcases h with ⟨kvs, rfl, _⟩ | ⟨_, _, _, rfl, _⟩ <;> exact fun ps z => by cases z
theorem g_put (o : XOk C M F cf k W X) {i : Nat} {a b : E} {x : Str} {e e' : Expr} {p p2 pos : Pos} (hi : F.N[i]? = some x) (hv : visB F.sc x = true) (hn : nmB x = true) (hs : notSlice e = true) (hc : notComp e' = true) (h1 : PE X e (rdE C W (evE cf a))) (h2 : PE X e' (rdE C W (evE cf b))) :
    PS X (.Assign [.Subscript (.Name x p) e p2] e' pos) (rdS C W k0 (evS cf k0 (.put i a b))) := by
  obtain ⟨m1, m2, _⟩ := nmB_of hn
  have hx : PE X (.Name x p) (tVar i) := pe_var (by rw [o.N]; exact hi) (by rw [o.sc]; exact visB_of hv) m1 m2
  refine weakS (ps_asg h2 (pg_sub hx h1 (set_put o) (sub_assign hs)) (swapsSole_no hc) rfl (asg_cons rfl)) fun D σ H ⟨μ, st, r, w, hr, hk, h⟩ => ?_
  rw [evS] at h
  refine stepS w hr hk h fun d st1 μ1 H1 n1 w1 hr1 hk1 h1 v rv => ?_
  split at h1
  · rename_i n z er
    obtain ⟨vo, q1, aa, q2, rfl⟩ := hr1.at_ i (.obj n) er
    refine ⟨.ref aa, q1, ?_⟩
    refine stepS w1 hr1 hk1 h1 fun d' st2 μ2 H2 n2 w2 hr2 hk2 h2 v' rv' => ?_
    have ha := prefix_get n2.pre q2
    have rv : RP C H2 z v := RP.keep n2.keep _ _ rv
    have hm : aa ∈ μ2 := List.mem_of_getElem? ha
    split at h2
    · rename_i l kk es
      obtain ⟨xs, c1, c2⟩ := w2.at_ n aa _ ha es
      split at h2
      · rename_i j ej
        have ri : v' = .int kk := RP.int_iff.mp (show RP C H2 (.int kk) v' from rv')
        refine .inl ⟨aa, xs, kk, j, rfl, ri, c1, by rw [← c2.length]; exact ej, ?_⟩
        have ni : ¬ Im (.lst xs) := fun z => z
        refine h2 μ2 _ _ (Nx.mut hm c1 ni).ns (w2.set ha c1 ni ⟨_, upd_same, ?_⟩) (hr2.nx (Nx.mut hm c1 ni))
        exact RPs.keep (Keep.mut _ c1 ni) _ _ (c2.set rv j)
      · exact h2.elim
    · rename_i ks vs y es
      obtain ⟨u, c1, c2⟩ := w2.at_ n aa _ ha es
      split at h2
      · rename_i hh
        rw [Bool.and_eq_true, decide_eq_true_eq] at hh
        have ni := dct_mut c2
        refine .inr ⟨aa, u, ks, vs, y, z, rfl, c1, c2, hh.1, hh.2, rv', rv, fun u' mu r' => ?_⟩
        exact h2 μ2 _ _ (Nx.mut hm c1 ni).ns (w2.set ha c1 ni ⟨u', upd_same, r'.keep (Keep.mut _ c1 ni)⟩) (hr2.nx (Nx.mut hm c1 ni))
      · exact h2.elim
    · exact h2.elim
  · exact h1.elim
end
end Ev

set_option Elab.async false
set_option linter.all false
set_option maxRecDepth 100000
set_option maxHeartbeats 4000000
namespace Ev
open PySem PySem.Spec PyProof.Rows L2

section
variable {C : Gc} {M : Md} {F : Fr} {cf : Cf} {k k0 : Nat} {W : XW} {X : Cx}
/-! ### l.append(e) -/
theorem g_app (o : XOk C M F cf k W X) {i : Nat} {a : E} {x : Str} {e : Expr} {p apos cpos pos : Pos} (hi : F.N[i]? = some x) (hv : visB F.sc x = true) (hn : nmB x = true) (hs : notStar e = true) (hline : (apos.endLine == cpos.line) = true) (h1 : PE X e (rdE C W (evE cf a))) :
    PS X (.Expr (.Call (.Attribute (.Name x p) "append" apos) [e] [] cpos) pos) (rdS C W k0 (evS cf k0 (.app i a))) := by
  obtain ⟨m1, m2, _⟩ := nmB_of hn
  have hx : PE X (.Name x p) (tVar i) := pe_var (by rw [o.N]; exact hi) (by rw [o.sc]; exact visB_of hv) m1 m2
  refine weakS (ps_expr (pe_meth1 PySem.F.plainAttrs_list PySem.F.slot_list_append PySem.F.type_list_append mt_append hx (pa_cons h1 pa_nil (star_cons hs)) hs base_name hline) (swaps_no rfl)) fun D σ H ⟨μ, st, r, w, hr, hk, h⟩ => ?_
  rw [evS] at h
  split at h
  · rename_i n er
    split at h
    · rename_i l0 es0
      obtain ⟨vo, q1, aa, q2, rfl⟩ := hr.at_ i (.obj n) er
      obtain ⟨xs0, c1, c2⟩ := w.at_ n aa _ q2 es0
      refine ⟨.ref aa, q1, ty_list (.inl (.inl c1)), ?_⟩
      refine stepS w hr hk h fun d st1 μ1 H1 n1 w1 hr1 hk1 h1 v rv => ?_
      split at h1
      · rename_i l y es
        have ha := prefix_get n1.pre q2
        obtain ⟨xs, d1, d2⟩ := w1.at_ n aa _ ha es
        split at h1
        · rename_i hz
          have hz := of_decide_eq_true hz
          have ni : ¬ Im (.lst xs) := fun z => z
          have rv : RP C H1 y v := rv
          refine ⟨aa, xs, v, rfl, rfl, d1, by rw [← d2.length, ← big_line]; exact hz, ?_⟩
          have nx := Nx.mut (o := .lst (xs ++ [v])) (List.mem_of_getElem? ha) d1 ni
          exact h1 μ1 _ _ nx.ns (w1.set ha d1 ni ⟨_, upd_same, RPs.keep (Keep.mut _ d1 ni) _ _ (d2.append (.cons rv .nil))⟩) (hr1.nx nx)
        · exact h1.elim
      · exact h1.elim
    · exact h.elim
  · exact h.elim
/-! ### raise X('..') -/
theorem g_raise {c : Nat} {A : Addr} {x m : Str} {j : Nat} {p p2 pos pos2 : Pos} (hc : X.calm = true) (tk : L2N.Takes X fun cls d σ H => EW C W σ cls d H) (hA : C.ga[c]? = some A) (hm : X.mg x = some (.ref A)) (hg : Gl X x)
    (q1 : PySem.W.excIn X.K A [.type "ValueError", .type "Exception", .type "BaseException", .type "object"] "ValueError.__new__" = true) (q2 : PySem.W.keepIn X.K (.ref A) = true) (q3 : PySem.W.subIn X.K (.ref A) (.type "BaseException") = some true) (q4 : PySem.W.typeIn X.K (.ref A) = some (.type "type")) (hdb : (x == ("__debug__" : Str)) = false) :
    PS X (.Raise (some (.Call (.Name x p) [.Constant (.str m) j p2] [] pos)) none pos2) (rdS C W k0 (evS cf k0 (.raise c .nil))) := by
  refine weakS (L2N.ps_raise hc tk (L2N.pmk_own PySem.F.excBase_ValueError q1 hm q2 (raises_own q3 q4) hg hdb)) fun D σ H ⟨μ, st, r, w, hr, hk, h⟩ => ?_
  rw [evS, evEs] at h
  exact ⟨c, [], st, μ, A, hA, rfl, rfl, w, h μ H σ (Ns.refl _ _ _) w⟩
end
end Ev

set_option Elab.async false
set_option linter.all false
set_option maxRecDepth 100000
set_option maxHeartbeats 4000000
namespace Ev
open PySem PySem.Spec PyProof.Rows L2

/-! ### plain parameters bind -/
theorem zip_look : ∀ {ns : List Str} {us : List Value}, us.length = ns.length → ∀ n ∈ ns, ((ns.zip us).lookup n).isSome = true
  | [], us, h, n, hn => by cases hn
  | m :: ns, [], h, n, hn => by cases h
  | m :: ns, u :: us, h, n, hn => by
    rw [List.zip_cons_cons, List.lookup_cons]
    cases hb : n == m with
    | true => rfl
    | false =>
      rcases List.mem_cons.mp hn with rfl | hn
      · simp at hb
      · exact zip_look (by simpa using h) n hn
theorem zip_fm : ∀ {ns : List Str} {us : List Value} {l : List (Str × Value)}, us.length = ns.length → ns.Nodup → (∀ n ∈ ns, l.lookup n = (ns.zip us).lookup n) → (ns.filterMap fun n => (l.lookup n).map fun v => (n, v)) = ns.zip us
  | [], us, l, h, _, _ => by cases us <;> simp
  | m :: ns, [], l, h, _, _ => by cases h
  | m :: ns, u :: us, l, h, hn, hl => by
    rw [List.nodup_cons] at hn
    have h0 := hl m List.mem_cons_self
    rw [List.zip_cons_cons, List.lookup_cons, beq_self_eq_true] at h0
    rw [List.filterMap_cons, h0]
    show (m, u) :: _ = _
    rw [List.zip_cons_cons]
    congr 1
    refine zip_fm (by simpa using h) hn.2 fun n hm => ?_
    rw [hl n (List.mem_cons_of_mem _ hm), List.zip_cons_cons, List.lookup_cons]
    have : (n == m) = false := by
      cases hb : n == m with
      | false => rfl
      | true => exact absurd (eq_of_beq hb ▸ hm) hn.1
    rw [this]
theorem bind_plain {fd : FuncData} {as : List Arg} (hp : fd.params = ⟨[], as, none, [], [], none, []⟩) (hd : fd.defaults = .none) (hn : (as.map (·.arg)).Nodup) (us : List Value) (hl : us.length = (as.map (·.arg)).length) : bindArgs fd ⟨us, []⟩ = pure ((as.map (·.arg)).zip us) := by
  unfold bindArgs
  rw [hp, hd]
  have ms : (as.map (·.arg)).filter (fun n => (((as.map (·.arg)).zip us).lookup n).isNone) = [] := by
    rw [List.filter_eq_nil_iff]
    intro n hm
    have := zip_look hl n hm
    cases h : ((as.map (·.arg)).zip us).lookup n with
    | none => rw [h] at this; cases this
    | some v => simp
  have fm := zip_fm (l := (as.map (·.arg)).zip us) hl hn fun _ _ => rfl
  have hs : seqItems? Value.none = pure none := rfl
  have g1 : (decide (us.length > (as.map (·.arg)).length) && (none : Option Arg).isNone) = false := by
    rw [hl]; simp
  simp only [List.map_nil, List.nil_append, List.forIn_nil, pure_bind, hs, Option.getD_none, List.isEmpty_nil, g1, Bool.false_eq_true, if_false, List.append_nil, List.drop_nil, List.length_nil, Nat.sub_zero, List.take_length, ms, Bool.not_true, List.drop_length, List.zip_nil_left, List.isEmpty_nil, fm]

/-! ### name = [..], name = {..} -/
def swB (F : Fr) (e : Expr) (y : Str) (py : Pos) : Bool := match e with
  | .ListComp _ _ s p => F.sc.names.lookup y == some .local && py.line == p.line && !(s.names.any fun (n, k) => n == y && (k == .local || k == .cell))
  | .SetComp _ _ s p => F.sc.names.lookup y == some .local && py.line == p.line && !(s.names.any fun (n, k) => n == y && (k == .local || k == .cell))
  | .DictComp _ _ _ s p => F.sc.names.lookup y == some .local && py.line == p.line && !(s.names.any fun (n, k) => n == y && (k == .local || k == .cell))
  | _ => false
theorem sw_is {X : Cx} {F : Fr} (hk : X.env.scope.kind = .function) (hsc : X.env.scope = F.sc) (e : Expr) (y : Str) (py : Pos) (l : Nat) : swapsWith e (some (.Name y py)) l X.env = pure (swB F e y py) := by
  have hb : X.env.blockKind = .function := by unfold Env.blockKind; rw [hk]; rfl
  have ek : X.env.kindOf y = F.sc.names.lookup y := by unfold Env.kindOf; rw [hsc]
  cases e <;> first
    | rfl
    | (unfold swapsWith swB
       simp only [hb, ek, Expr.pos]
       rfl)
theorem ckM_disp {M : Md} {F : Fr} {e : Expr} {ks vs : Es} (h : ckM M (.disp ks vs) F e = true) : (asDC e).isSome = false := by
  cases ks with
  | nil =>
    cases vs with
    | nil =>
      rw [ckM] at h
      split at h
      · rename_i hx
        obtain ⟨p, rfl⟩ := asD0_of hx
        rfl
      · cases h
    | cons b bs => exact absurd (show false = true from h) Bool.false_ne_true
  | cons a as =>
    cases as with
    | nil =>
      cases vs with
      | nil => exact absurd (show false = true from h) Bool.false_ne_true
      | cons b bs =>
        cases bs with
        | nil =>
          rw [ckM] at h
          split at h
          · rename_i hx
            obtain ⟨p, rfl⟩ := asD1_of hx
            rfl
          · cases h
        | cons c cs => exact absurd (show false = true from h) Bool.false_ne_true
    | cons a2 as2 => exact absurd (show false = true from h) Bool.false_ne_true
section
variable {C : Gc} {M : Md} {F : Fr} {cf : Cf} {k k0 : Nat} {W : XW} {X : Cx}
theorem sLs (o : XOk C M F cf k W X) {i : Nat} {y : Str} {py spos : Pos} {l : L} {e : Expr} (hy : F.N[i]? = some y) (hl : F.sc.names.lookup y = some .local) (hsw : swapsWith e (some (.Name y py)) spos.line X.env = pure true) (hc : (asLC e).isSome = true) (h : ckL M l F e = true) : PS X (.Assign [.Name y py] e spos) (tAsg (rdL C W (evL cf l)) (gName i)) := by
  have hy : X.N[i]? = some y := by rw [o.N]; exact hy
  have hl : X.env.scope.names.lookup y = some .local := by rw [o.sc]; exact hl
  cases l with
  | comp vs tg it ifs elt =>
    rw [ckL] at h
    split at h
    · rename_i x g s hx
      obtain ⟨p, rfl⟩ := asLC_of hx
      split at h
      · rename_i t it' f hg
        obtain rfl := asG1_of hg
        obtain ⟨h1, h⟩ := and3 h
        obtain ⟨h2, h⟩ := and3 h
        obtain ⟨h3, h⟩ := and3 h
        obtain ⟨h4, h⟩ := and3 h
        obtain ⟨h5, h⟩ := and3 h
        obtain ⟨h6, h7⟩ := and3 h
        refine weakS (ps_setLc o.calm o.nd hy hl hsw (sI it F t it' W X o h4) (blk_ok o h1) (fun s' H c cl fp => g_tg (o.blk s' H c cl fp) tg t h5) (fun s' H c cl fp => sTo ifs _ f WF _ (o.blk s' H c cl fp) h6) (fun s' H c cl fp => sE elt _ x WF _ (o.blk s' H c cl fp) h7) (folded_set h2)) fun D σ H hh => ?_
        rw [own_map]
        exact comp_rd (slB_of h3) (show rdL C W (evL cf (.comp vs tg it ifs elt)) σ H (fun x H1 => gName i x σ H1 D.nx) from hh)
      · cases h
    · cases h
  | comp2 vs tg it ifs vs1 tg1 it1 ifs1 elt =>
    rw [ckL] at h
    split at h
    · rename_i x g s hx
      obtain ⟨p, rfl⟩ := asLC_of hx
      split at h
      · rename_i t it' f t1 i1 f1 hg
        obtain rfl := asG2_of hg
        obtain ⟨h1, h⟩ := and3 h
        obtain ⟨h2, h⟩ := and3 h
        obtain ⟨h3, h⟩ := and3 h
        obtain ⟨h4, h⟩ := and3 h
        obtain ⟨h5, h⟩ := and3 h
        obtain ⟨h6, h⟩ := and3 h
        obtain ⟨h7, h⟩ := and3 h
        obtain ⟨h8, h⟩ := and3 h
        obtain ⟨h9, h⟩ := and3 h
        obtain ⟨h10, h⟩ := and3 h
        obtain ⟨h11, h⟩ := and3 h
        obtain ⟨h12, h13⟩ := and3 h
        refine weakS (ps_setLc2 (vs1 := vs1) o.calm o.nd hy hl hsw (sI it F t it' W X o h7) (blk_ok o h1) (by rw [own_map]; exact slB_of h6) (fun s' H c cl fp => g_tg (o.blk s' H c cl fp) tg t h8) (fun s' H c cl fp => sTo ifs _ f WF _ (o.blk s' H c cl fp) h9) (fun s' H c cl fp => sI it1 _ t1 i1 WF _ (o.blk s' H c cl fp) h10) (fun s' H c cl fp => g_tg (o.blk s' H c cl fp) tg1 t1 h11) (fun s' H c cl fp => sTo ifs1 _ f1 WF _ (o.blk s' H c cl fp) h12) (fun s' H c cl fp => sE elt _ x WF _ (o.blk s' H c cl fp) h13) (folded_set h2) (fun env => folded_set h3)) fun D σ H hh => ?_
        rw [own_map]
        exact comp2_rd (slB_of h4) (slB_of h5) (show rdL C W (evL cf (.comp2 vs tg it ifs vs1 tg1 it1 ifs1 elt)) σ H (fun x H1 => gName i x σ H1 D.nx) from hh)
      · cases h
    · cases h
  | disp es =>
    cases e <;> first | (exact absurd hc Bool.false_ne_true) | (rw [ckL] at h; cases h)
  | ofE a => cases e <;> first | (exact absurd hc Bool.false_ne_true) | (rw [ckL] at h; cases h)
  | ofR a => cases e <;> first | (exact absurd hc Bool.false_ne_true) | (cases a <;> first | (exact absurd (show false = true from h) Bool.false_ne_true) | (rw [ckL] at h; cases h))
  | sorted t a => cases e <;> first | (exact absurd hc Bool.false_ne_true) | (rw [ckL] at h; cases h)
  | cat a b => cases e <;> first | (exact absurd hc Bool.false_ne_true) | (rw [ckL] at h; cases h)
  | rep a b => cases e <;> first | (exact absurd hc Bool.false_ne_true) | (rw [ckL] at h; cases h)
  | slc a b c => cases e <;> first | (exact absurd hc Bool.false_ne_true) | (rw [ckL] at h; cases h)
  | vals a => cases e <;> first | (exact absurd hc Bool.false_ne_true) | (rw [ckL] at h; cases h)
  | sortset _ _ => cases e <;> first | (exact absurd hc Bool.false_ne_true) | (rw [ckL] at h; cases h)
  | sortI _ _ => cases e <;> first | (exact absurd hc Bool.false_ne_true) | (rw [ckL] at h; cases h)
  | sortV _ _ => cases e <;> first | (exact absurd hc Bool.false_ne_true) | (rw [ckL] at h; cases h)
  | sumL _ => exact absurd (show false = true from h) Bool.false_ne_true
  | rev _ => cases e <;> first | (exact absurd hc Bool.false_ne_true) | (rw [ckL] at h; cases h)
theorem sMs (o : XOk C M F cf k W X) {i : Nat} {y : Str} {py spos : Pos} {m : Ev.M} {e : Expr} (hy : F.N[i]? = some y) (hl : F.sc.names.lookup y = some .local) (hsw : swapsWith e (some (.Name y py)) spos.line X.env = pure true) (hc : (asDC e).isSome = true) (h : ckM M m F e = true) : PS X (.Assign [.Name y py] e spos) (tAsg (rdM C W (evM cf m)) (gName i)) := by
  have hy : X.N[i]? = some y := by rw [o.N]; exact hy
  have hl : X.env.scope.names.lookup y = some .local := by rw [o.sc]; exact hl
  cases m with
  | disp ks vs =>
    exact absurd hc (by rw [ckM_disp h]; exact Bool.false_ne_true)
  | comp vs tg it ifs a b =>
    rw [ckM] at h
    split at h
    · rename_i x z g s hx
      obtain ⟨p, rfl⟩ := asDC_of hx
      split at h
      · rename_i t it' f hg
        obtain rfl := asG1_of hg
        obtain ⟨h1, h⟩ := and3 h
        obtain ⟨h2, h⟩ := and3 h
        obtain ⟨h3, h⟩ := and3 h
        obtain ⟨h4, h⟩ := and3 h
        obtain ⟨h5, h⟩ := and3 h
        obtain ⟨h6, h⟩ := and3 h
        obtain ⟨h7, h8⟩ := and3 h
        refine weakS (ps_setDcx (bod := bEmit x z) (tb := tEmit X.prog X.w X.A (rdE C WF (evE cf a)) (rdE C WF (evE cf b))) o.calm o.nd (sI it F t it' W X o h4) (blk_ok o h1) h2 (fun Y it D => turn_emit) (fun s' H c cl fp => g_tg (o.blk s' H c cl fp) tg t h5) (fun s' H c cl fp => sTo ifs _ f WF _ (o.blk s' H c cl fp) h6) (fun s' H c cl fp D => pb_emit (Y := X.blk s' H s (compEnvC s cl c X.env) fp) rfl (sE a _ x WF _ (o.blk s' H c cl fp) h7) (sE b _ z WF _ (o.blk s' H c cl fp) h8)) hy hl hsw) fun D σ H hh => ?_
        rw [own_map]
        exact dcomp_rd o.prog o.w o.units (slB_of h3) (show rdM C W (evM cf (.comp vs tg it ifs a b)) σ H (fun x H1 => gName i x σ H1 D.nx) from hh)
      · cases h
    · cases h
  | comp2 vs tg it ifs vs1 tg1 it1 ifs1 a b =>
    rw [ckM] at h
    split at h
    · rename_i x z g s hx
      obtain ⟨p, rfl⟩ := asDC_of hx
      split at h
      · rename_i t it' f t1 i1 f1 hg
        obtain rfl := asG2_of hg
        obtain ⟨h1, h⟩ := and3 h
        obtain ⟨h2, h⟩ := and3 h
        obtain ⟨h3, h⟩ := and3 h
        obtain ⟨h4, h⟩ := and3 h
        obtain ⟨h5, h⟩ := and3 h
        obtain ⟨h6, h⟩ := and3 h
        obtain ⟨h7, h⟩ := and3 h
        obtain ⟨h8, h⟩ := and3 h
        obtain ⟨h9, h⟩ := and3 h
        obtain ⟨h10, h⟩ := and3 h
        obtain ⟨h11, h⟩ := and3 h
        obtain ⟨h12, h⟩ := and3 h
        obtain ⟨h13, h14⟩ := and3 h
        refine weakS (ps_setDcx (bod := bIn (.DictComp x z [⟨t, it', f, 0⟩, ⟨t1, i1, f1, 0⟩] s p) i1) (tb := fun D => tIn (rdI C WF (evI cf it1)) (gRd C tg1) (rdT C WF (evTo cf ifs1)) (tEmit X.prog X.w X.A (rdE C WF (evE cf a)) (rdE C WF (evE cf b)) D) vs1) o.calm o.nd (sI it F t it' W X o h7) (blk_ok o h1) h2 (fun Y it D => turn_out) (fun s' H c cl fp => g_tg (o.blk s' H c cl fp) tg t h8) (fun s' H c cl fp => sTo ifs _ f WF _ (o.blk s' H c cl fp) h9) (fun s' H c cl fp D => pb_in (Y := X.blk s' H s (compEnvC s cl c X.env) fp) rfl o.calm h3 (by rw [own_map]; exact slB_of h6) (sI it1 _ t1 i1 WF _ (o.blk s' H c cl fp) h10) (g_tg (o.blk s' H c cl fp) tg1 t1 h11) (sTo ifs1 _ f1 WF _ (o.blk s' H c cl fp) h12) (pb_emit (Y := X.blk s' H s (compEnvC s cl c X.env) fp) rfl (sE a _ x WF _ (o.blk s' H c cl fp) h13) (sE b _ z WF _ (o.blk s' H c cl fp) h14))) hy hl hsw) fun D σ H hh => ?_
        rw [own_map]
        exact dcomp2_rd o.prog o.w o.units (slB_of h4) (slB_of h5) (show rdM C W (evM cf (.comp2 vs tg it ifs vs1 tg1 it1 ifs1 a b)) σ H (fun x H1 => gName i x σ H1 D.nx) from hh)
      · cases h
    · cases h
end
end Ev

set_option Elab.async false
set_option linter.all false
set_option maxRecDepth 100000
set_option maxHeartbeats 2000000
namespace Ev
open PySem PySem.Spec PyProof.Rows L2 PySem.W

theorem and3' {a b : Bool} (h : (a && b) = true) : a = true ∧ b = true := by simpa using h
/-- a class of errors with such an __init__ -/
structure IniP (P : Program) (K : PySem.W.Frag) (mg : Str → Option Value) (A : Addr) : Prop where
  kp : keepIn K (.ref A) = true
  sup : mg "super" = none
  ex : ∃ (fI cda cc : Addr) (name qual : Str) (params : Arguments) (scope : Scope) (dV kV doc pm ct : Value) (an : Option Addr) (n1 n2 pre : Str) (body : List Stmt),
    findIn K (.ref A) "__init__" = some (some (.ref fI)) ∧ typeIn K (.ref fI) = some (.type "function") ∧ L2.Binds K (ksFn name qual params body scope dV kV doc pm an (.ref cda) ct cc) [n1, n2] [] ∧
      IniK P K A fI cda cc name qual params scope dV kV doc pm ct an n1 n2 pre "limit" body ∧ pre.length ≤ 1000
def oexB (K : PySem.W.Frag) (A : Addr) : Bool := (match K.lookup A with
  | some ⟨.type ty, _, .cls cd, sl⟩ => decide (ty = "type") && (match cd.mro, sl.toList with
    | .ref C' :: bm, [_, _, _, _, some (.builtin n), _] => decide (C' = A) && (decide (n = "ValueError.__new__") && (!cd.hasDel && (cd.hasDict && PySem.HandSPX.refsVE bm)))
    | _, _ => false)
  | _ => false) && (decide (findIn K (.ref A) "__setattr__" = some (some (.builtin "object.__setattr__"))) && (decide (subIn K (.ref A) (.type "BaseException") = some true) && (decide (typeIn K (.ref A) = some (.type "type")) && keepIn K (.ref A))))
theorem oexB_ok {K : PySem.W.Frag} {A : Addr} (h : oexB K A = true) : OexC K A := by
  obtain ⟨h0, h⟩ := and3' h
  obtain ⟨h1, h⟩ := and3' h
  obtain ⟨h2, h⟩ := and3' h
  obtain ⟨h3, h4⟩ := and3' h
  refine ⟨?_, of_decide_eq_true h1, of_decide_eq_true h2, of_decide_eq_true h3, h4⟩
  split at h0
  · rename_i ty dd cd sl lk
    obtain ⟨k1, h0⟩ := and3' h0
    split at h0
    · rename_i C' bm k0 k1' k2 k3 n k5 em es
      obtain ⟨k2', h0⟩ := and3' h0
      obtain ⟨k3', h0⟩ := and3' h0
      obtain ⟨k4', h0⟩ := and3' h0
      obtain ⟨k5', k6'⟩ := and3' h0
      obtain rfl := of_decide_eq_true k1
      obtain rfl := of_decide_eq_true k2'
      obtain rfl := of_decide_eq_true k3'
      obtain ⟨nm, bs, mro, ns, qn, hd, sn, sb, ab, col, dl⟩ := cd
      dsimp only at em k4' k5'
      have e1 : dl = false := by simpa using k4'
      subst em e1 k5'
      have e2 : sl = #[k0, k1', k2, k3, some (.builtin "ValueError.__new__"), k5] := by
        apply Array.ext'
        exact es
      subst e2
      exact ⟨nm, qn, ns, bs, bm, sn, sb, ab, col, dd, k0, k1', k2, k3, k5, lk, k6'⟩
    · cases h0
  · cases h0
def asIni (n1 n2 : Str) : List Stmt → Option Str
  | [.Expr (.Call (.Attribute (.Call (.Name sup _) [] [] _) ini p2) [.BinOp (.Constant (.str pre) _ _) .Add (.Call (.Name st _) [.Name z _] [] _) _] [] p8) _, .Assign [.Attribute (.Name s _) f _] (.Name y _) _] =>
    if decide (sup = "super") && (decide (ini = "__init__") && (decide (st = "str") && (decide (z = n2) && (decide (s = n1) && (decide (f = "limit") && (decide (y = n2) && (p2.endLine == p8.line))))))) then some pre else none
  | _ => none
theorem asIni_of {n1 n2 pre : Str} {body : List Stmt} (h : asIni n1 n2 body = some pre) : ∃ (p0 p1 p2 p3 p4 p5 p6 p7 p8 p9 p10 p11 p12 p13 : Pos) (j : Nat), body = [.Expr (.Call (.Attribute (.Call (.Name "super" p0) [] [] p1) "__init__" p2) [.BinOp (.Constant (.str pre) j p3) .Add (.Call (.Name "str" p4) [.Name n2 p5] [] p6) p7] [] p8) p9,
    .Assign [.Attribute (.Name n1 p10) "limit" p11] (.Name n2 p12) p13] ∧ (p2.endLine == p8.line) = true := by
  unfold asIni at h
  split at h
  · rename_i sup p0 p1 ini p2 pre' j p3 st p4 z p5 p6 p7 p8 p9 s p10 f p11 y p12 p13
    split at h
    · rename_i c
      cases h
      obtain ⟨c1, c⟩ := and3' c
      obtain ⟨c2, c⟩ := and3' c
      obtain ⟨c3, c⟩ := and3' c
      obtain ⟨c4, c⟩ := and3' c
      obtain ⟨c5, c⟩ := and3' c
      obtain ⟨c6, c⟩ := and3' c
      obtain ⟨c7, c8⟩ := and3' c
      obtain rfl := of_decide_eq_true c1
      obtain rfl := of_decide_eq_true c2
      obtain rfl := of_decide_eq_true c3
      obtain rfl := of_decide_eq_true c4
      obtain rfl := of_decide_eq_true c5
      obtain rfl := of_decide_eq_true c6
      have e7 := of_decide_eq_true c7
      subst e7
      exact ⟨p0, p1, p2, p3, p4, p5, p6, p7, p8, p9, p10, p11, p12, p13, j, rfl, c8⟩
    · cases h
  · cases h
def iniSB (sc : Scope) (n1 n2 : Str) : Bool :=
  decide (sc.kind = .function) && (!sc.isCoroutine && (!sc.isGenerator && (decide (n1 ≠ n2) && (decide (sc.names.lookup n1 = some .local) && (decide (sc.names.lookup n2 = some .local) && (sc.names.all (fun x => decide (x.2 ≠ .cell) && (decide (x.2 ≠ .free) || decide (x.1 = ("__class__" : Str)))) &&
    (decide (sc.names.lookup ("__class__" : Str) = some .free) && (decide (sc.names.lookup ("super" : Str) = some .globalImplicit) && decide (sc.names.lookup ("str" : Str) = some .globalImplicit)))))))))
theorem iniSB_ok {sc : Scope} {n1 n2 : Str} (h : iniSB sc n1 n2 = true) : IniS sc n1 n2 := by
  obtain ⟨h1, h⟩ := and3' h
  obtain ⟨h2, h⟩ := and3' h
  obtain ⟨h3, h⟩ := and3' h
  obtain ⟨h4, h⟩ := and3' h
  obtain ⟨h5, h⟩ := and3' h
  obtain ⟨h6, h⟩ := and3' h
  obtain ⟨h7, h⟩ := and3' h
  obtain ⟨h8, h⟩ := and3' h
  obtain ⟨h9, h10⟩ := and3' h
  refine ⟨of_decide_eq_true h1, by simpa using h2, by simpa using h3, of_decide_eq_true h4, of_decide_eq_true h5, of_decide_eq_true h6, fun x hx => ?_, fun x hx e => ?_, of_decide_eq_true h8, of_decide_eq_true h9, of_decide_eq_true h10⟩
  · exact of_decide_eq_true (and3' (List.all_eq_true.mp h7 x hx)).1
  · have z := (and3' (List.all_eq_true.mp h7 x hx)).2
    rw [Bool.or_eq_true] at z
    rcases z with z | z
    · exact absurd e (of_decide_eq_true z)
    · exact of_decide_eq_true z
def fileB (K : PySem.W.Frag) (cda : Addr) (file : Str) : Bool := match K.lookup cda with
  | some ⟨_, _, .fields vs, _⟩ => (match (vs[2]? : Option Value) with
    | some (.str f _) => decide (f = file)
    | _ => false)
  | _ => false
def cellB (K : PySem.W.Frag) (cc A : Addr) : Bool := match K.lookup cc with
  | some ⟨_, _, .cell (some (.ref C)), _⟩ => decide (C = A)
  | _ => false
def dbB (x : Str) : Bool := !(x == ("__debug__" : Str)) && !(x == ("__classdict__" : Str))
theorem dbB_ok {x : Str} (h : dbB x = true) : (x == ("__debug__" : Str)) = false ∧ (x == ("__classdict__" : Str)) = false := by
  obtain ⟨h1, h2⟩ := and3' h
  exact ⟨by simpa using h1, by simpa using h2⟩
def iniB (K : PySem.W.Frag) (file : Str) (A : Addr) : Bool := match findIn K (.ref A) "__init__" with
  | some (some (.ref fI)) => (match K.lookup fI with
    | some ob => (match ob.data with
      | .func fd => (match fd.params, fd.body, fd.defaults, fd.closure, fd.code with
        | ⟨[], [a1, a2], none, [], [], none, []⟩, .stmts body, .none, [(cn, cc)], .ref cda => (match asIni a1.arg a2.arg body with
          | some pre => decide (typeIn K (.ref fI) = some (.type "function")) && (decide (fd.globals = mainGlobals) && (decide (fd.builtins = builtinsNs) && (decide (cn = ("__class__" : Str)) && (codeIn K (.ref cda) fd.qualname && (oexB K A && (iniSB fd.scope a1.arg a2.arg && (fileB K cda file && (cellB K cc A && ((clsIn K A).isSome &&
            (decide (mroIn K A (.ref A) = some true) && (decide (nsIn K cStatics "thirdparty.any" = some none) && (decide (ks_superIn K A A "__init__" = some (some (.builtin "ValueError.__init__"))) && (decide (subIn K (.ref A) (.type "ValueError") = some true) && (decide (findIn K (.ref A) "limit" = some none) && (dbB a1.arg && (dbB a2.arg && (decide (a1.arg ≠ a2.arg) && decide (pre.length ≤ 1000))))))))))))))))))
          | none => false)
        | _, _, _, _, _ => false)
      | _ => false)
    | none => false)
  | _ => false
/-- what is looked at in the program's own text -/
def progB (file : Str) (P : Program) : Bool := decide (P.main.file = file) && !(P.main.scope.names.lookup ("super" : Str)).isSome
theorem iniB_ok {P : Program} {K : PySem.W.Frag} {mg : Str → Option Value} {file : Str} {A : Addr} (hp : progB file P = true) (hs : mg "super" = none) (h : iniB K file A = true) : IniP P K mg A := by
  obtain ⟨hp1, hp2⟩ := and3' hp
  have hf := of_decide_eq_true hp1
  have ht : (P.main.scope.names.lookup ("super" : Str)).isSome = false := by simpa using hp2
  unfold iniB at h
  split at h
  · rename_i fI hi
    split at h
    · rename_i ob lk
      split at h
      · rename_i fd ed
        split at h
        · rename_i a1 a2 body cn cc cda hpar hb hd hc hcd
          split at h
          · rename_i pre has
            obtain ⟨g1, h⟩ := and3' h
            obtain ⟨g2, h⟩ := and3' h
            obtain ⟨g3, h⟩ := and3' h
            obtain ⟨g4, h⟩ := and3' h
            obtain ⟨g5, h⟩ := and3' h
            obtain ⟨g6, h⟩ := and3' h
            obtain ⟨g7, h⟩ := and3' h
            obtain ⟨g8, h⟩ := and3' h
            obtain ⟨g9, h⟩ := and3' h
            obtain ⟨g10, h⟩ := and3' h
            obtain ⟨g11, h⟩ := and3' h
            obtain ⟨g12, h⟩ := and3' h
            obtain ⟨g13, h⟩ := and3' h
            obtain ⟨g14, h⟩ := and3' h
            obtain ⟨g15, h⟩ := and3' h
            obtain ⟨g16, h⟩ := and3' h
            obtain ⟨g17, h⟩ := and3' h
            obtain ⟨g18, g19⟩ := and3' h
            have bd : L2.Binds K fd [a1.arg, a2.arg] [] := .all fun us hl => bind_plain (as := [a1, a2]) hpar hd (by
              have := of_decide_eq_true g18
              simp [this]) us hl
            have T := oexB_ok g6
            obtain ⟨oc, od, dt, osl⟩ := ob
            obtain ⟨name, qual, params, fbody, scope, globals, closure, defaults, kV, doc, pm, an, cdv, ct, bts⟩ := fd
            dsimp only at ed hpar hb hd hc hcd g2 g3 g5 g7 bd
            obtain rfl := of_decide_eq_true g2
            obtain rfl := of_decide_eq_true g3
            obtain rfl := of_decide_eq_true g4
            subst ed hb hc hcd
            refine ⟨T.kC, hs, fI, cda, cc, name, qual, params, scope, defaults, kV, doc, pm, ct, an, a1.arg, a2.arg, pre, body, hi, of_decide_eq_true g1, bd, ?_, of_decide_eq_true g19⟩
            refine ⟨T, iniSB_ok g7, ⟨oc, od, osl, lk⟩, g5, ⟨a1, by rw [hpar]; rfl, rfl⟩, ?_, ?_, ?_, of_decide_eq_true g11, ht, of_decide_eq_true g12, of_decide_eq_true g13, of_decide_eq_true g14, of_decide_eq_true g15, asIni_of has, dbB_ok g16, dbB_ok g17⟩
            · unfold fileB at g8
              split at g8
              · rename_i c1 c2 vs c3 lc
                split at g8
                · rename_i f tf hv
                  have e := of_decide_eq_true g8
                  subst e
                  exact ⟨c1, c2, vs, c3, tf, lc, by rw [hf]; exact hv⟩
                · cases g8
              · cases g8
            · unfold cellB at g9
              split at g9
              · rename_i c1 c2 C c3 lc
                have e := of_decide_eq_true g9
                subst e
                exact ⟨c1, c2, c3, lc⟩
              · cases g9
            · exact Option.isSome_iff_exists.mp g10
          · cases h
        · cases h
      · cases h
    · cases h
  · cases h
end Ev

set_option Elab.async false
set_option linter.all false
set_option maxRecDepth 100000
set_option maxHeartbeats 2000000
namespace Ev
open PySem PySem.Spec PyProof.Rows L2

/-! ### raise X(n), X with an own __init__ -/
/-- a constant that such an error may tell -/
def iniE : E → Bool
  | .gc (.int i) _ => decide (i.natAbs.log2 < 1920) && decide ((Str.ofString (toString i)).length ≤ 1000)
  | _ => false
theorem iniE_of {a : E} (h : iniE a = true) : ∃ i nm, a = .gc (.int i) nm ∧ i.natAbs.log2 < 1920 ∧ (Str.ofString (toString i)).length ≤ 1000 := by
  unfold iniE at h
  split at h
  · obtain ⟨h1, h2⟩ := and3' h
    exact ⟨_, _, rfl, of_decide_eq_true h1, of_decide_eq_true h2⟩
  · cases h
section
variable {C : Gc} {W : XW} {X : Cx} {cf : Cf} {k0 : Nat}
theorem g_raiseI {c : Nat} {A : Addr} {x : Str} {a : E} {e : Expr} {p pos pos2 : Pos} (hc : X.calm = true) (tk : L2N.Takes X fun cls d σ H => EW C W σ cls d H) (hA : C.ga[c]? = some A) (hm : X.mg x = some (.ref A)) (hg : Gl X x)
    (q : IniP X.prog X.K X.mg A) (hblt : ∀ x ∈ bltNames, X.mg x = none) (hr : Room 2 X.A) (ha : iniE a = true) (hs : notStar e = true) (h1 : PE X e (rdE C W (evE cf a))) (hdb : (x == ("__debug__" : Str)) = false) :
    PS X (.Raise (some (.Call (.Name x p) [e] [] pos)) none pos2) (rdS C W k0 (evS cf k0 (.raise c (.cons a .nil)))) := by
  obtain ⟨i, nm, rfl, hi, hz⟩ := iniE_of ha
  obtain ⟨fI, cda, cc, name, qual, params, scope, dV, kV, doc, pm, ct, an, n1, n2, pre, body, k1, k2, k3, D, k4⟩ := q.ex
  have F1 := ini_fn (CXg := L2N.CX X.prog X.w) (w := X.w) (base := X.base) (k := 0) D q.sup (hblt "str" (by decide))
  refine weakS (L2N.ps_raise hc tk (pmk_ini D.T q.kp k1 k2 F1 hr k3 (L2N.passes_call tk fun _ _ _ _ z => z.elim) hg hm (pa_cons h1 pa_nil (star_cons hs)) hdb (star_cons hs))) fun D' σ H ⟨μ, st, r, w, hr', hk, h⟩ => ?_
  have e0 : evS cf k0 (.raise c (.cons (.gc (.int i) nm) .nil)) r st = .exc c [.int i] st := by
    rw [evS, evEs, evE]
    rfl
  rw [e0] at h
  show rdE C W (evE cf (.gc (.int i) nm)) σ H _
  refine ⟨μ, st, r, w, hr', ?_⟩
  rw [evE]
  intro μ' H' n' w' v rv
  obtain rfl : v = .int i := RP.int_iff.mp (show RP C H' (.int i) v from rv)
  have hsz := sizeLine_eq
  refine ⟨i, rfl, hi, by omega, fun d hd => ?_⟩
  have w2 : Wd C (upd H' d (.xd [(("limit" : Str), .int i)])) μ' st := w'.fresh hd
  exact ⟨c, [.int i], st, μ', A, hA, rfl, ⟨d, .int i, rfl, upd_same, RP.int_iff.mpr rfl⟩, w2, h μ' _ σ (n'.trans (Nx.fresh hd)).ns w2⟩
end
end Ev

set_option Elab.async false
set_option linter.all false
set_option maxRecDepth 100000
set_option maxHeartbeats 4000000
namespace Ev
open PySem PySem.Spec PyProof.Rows L2

/-! ### the check of statements -/
def sAsg1 : Stmt → Option (Str × Pos × Expr × Pos)
  | .Assign [.Name x p] e pos => some (x, p, e, pos)
  | _ => none
theorem sAsg1_of {s : Stmt} {x : Str} {p pos : Pos} {e : Expr} (h : sAsg1 s = some (x, p, e, pos)) : s = .Assign [.Name x p] e pos := by
  unfold sAsg1 at h
  split at h
  · cases h; rfl
  · cases h
def sAsg : Stmt → Option (Expr × Expr)
  | .Assign [t] e _ => some (t, e)
  | _ => none
theorem sAsg_of {s : Stmt} {t e : Expr} (h : sAsg s = some (t, e)) : ∃ pos, s = .Assign [t] e pos := by
  unfold sAsg at h
  split at h
  · cases h; exact ⟨_, rfl⟩
  · cases h
def sRet : Stmt → Option (Option Expr)
  | .Return e _ => some e
  | _ => none
theorem sRet_of {s : Stmt} {e : Option Expr} (h : sRet s = some e) : ∃ pos, s = .Return e pos := by
  cases s <;> first | (cases h; exact ⟨_, rfl⟩) | cases h
def sEx : Stmt → Option Expr
  | .Expr e _ => some e
  | _ => none
theorem sEx_of {s : Stmt} {e : Expr} (h : sEx s = some e) : ∃ pos, s = .Expr e pos := by
  cases s <;> first | (cases h; exact ⟨_, rfl⟩) | cases h
def sIf : Stmt → Option (Expr × List Stmt × List Stmt)
  | .If c a b _ => some (c, a, b)
  | _ => none
theorem sIf_of {s : Stmt} {c : Expr} {a b : List Stmt} (h : sIf s = some (c, a, b)) : ∃ pos, s = .If c a b pos := by
  cases s <;> first | (cases h; exact ⟨_, rfl⟩) | cases h
def sFor : Stmt → Option (Expr × Expr × List Stmt)
  | .For t i b [] _ => some (t, i, b)
  | _ => none
theorem sFor_of {s : Stmt} {t i : Expr} {b : List Stmt} (h : sFor s = some (t, i, b)) : ∃ pos, s = .For t i b [] pos := by
  unfold sFor at h
  split at h
  · cases h; exact ⟨_, rfl⟩
  · cases h
def sWhl : Stmt → Option (Expr × List Stmt)
  | .While c b [] _ => some (c, b)
  | _ => none
theorem sWhl_of {s : Stmt} {c : Expr} {b : List Stmt} (h : sWhl s = some (c, b)) : ∃ pos, s = .While c b [] pos := by
  unfold sWhl at h
  split at h
  · cases h; exact ⟨_, rfl⟩
  · cases h
def isPass : Stmt → Bool
  | .Pass _ => true
  | _ => false
/-- raise X('..') -/
def sRaise : Stmt → Option Str
  | .Raise (some (.Call (.Name x _) [.Constant (.str _) _ _] [] _)) none _ => some x
  | _ => none
theorem sRaise_of {s : Stmt} {x : Str} (h : sRaise s = some x) : ∃ m j p p2 pos pos2, s = .Raise (some (.Call (.Name x p) [.Constant (.str m) j p2] [] pos)) none pos2 := by
  unfold sRaise at h
  split at h
  · cases h; exact ⟨_, _, _, _, _, _, rfl⟩
  · cases h
/-- raise X(e) -/
def sRaise1 : Stmt → Option (Str × Expr)
  | .Raise (some (.Call (.Name x _) [e] [] _)) none _ => some (x, e)
  | _ => none
theorem sRaise1_of {s : Stmt} {x : Str} {e : Expr} (h : sRaise1 s = some (x, e)) : ∃ p pos pos2, s = .Raise (some (.Call (.Name x p) [e] [] pos)) none pos2 := by
  unfold sRaise1 at h
  split at h
  · cases h; exact ⟨_, _, _, rfl⟩
  · cases h
/-- the two names of a swapped pair -/
def two : List Expr → Option (Str × Str)
  | [.Name x _, .Name y _] => some (x, y)
  | _ => none
theorem two_of {l : List Expr} {x y : Str} (h : two l = some (x, y)) : ∃ p q, l = [.Name x p, .Name y q] := by
  unfold two at h
  split at h
  · cases h; exact ⟨_, _, rfl⟩
  · cases h
def isLoc (F : Fr) (x : Str) : Bool := match F.sc.names.lookup x with
  | some .local => true
  | _ => false
theorem isLoc_of {F : Fr} {x : Str} (h : isLoc F x = true) : F.sc.names.lookup x = some .local := by
  unfold isLoc at h
  split at h
  · assumption
  · cases h
def ckPar (F : Fr) (is : List Nat) (ts vs : List Expr) : Bool := match swV F ts vs with
  | some none => ckNs F is ts && decide (is.length = vs.length)
  | some (some names) => (match is, two ts, vs with
    | [i, j], some (x, y), [_, _] => decide (F.N[i]? = some x) && (decide (F.N[j]? = some y) && (decide (i ≠ j) && (isLoc F x && (isLoc F y && decide (names = [x, y])))))
    | _, _, _ => false)
  | none => false
section
variable (M : Md)
/-- name = e, where the store goes ahead of the block's end -/
def ckX : E → Fr → Expr → Bool
  | .frz l, F, e => (asLC e).isSome && ckL M l F e
  | .new l, F, e => (asLC e).isSome && ckL M l F e
  | .frzM m, F, e => (asDC e).isSome && ckM M m F e
  | .newM m, F, e => (asDC e).isSome && ckM M m F e
  | _, _, _ => false
mutual
def ckS : S → Fr → Stmt → Bool
  | .asg i a, F, s => (match sAsg1 s with
    | some (x, p, e, _) => decide (F.N[i]? = some x) && (locB F x && (if swB F e x p = true then isLoc F x && ckX M a F e else ckE M a F e))
    | none => false)
  | .unp gs a, F, s => (match sAsg s with
    | some (t, e) => ckG F (.tup gs) t && ((asTup e).isNone && (notComp e && ckE M a F e))
    | none => false)
  | .par is as, F, s => (match sAsg s with
    | some (t, e) => (match asTup t, asTup e with
      | some ts, some vs => ckPar F is ts vs && (decide (vs.length ≤ 1000) && (decide (as.len = vs.length) && ckEs M as F vs))
      | _, _ => false)
    | none => false)
  | .put i a b, F, s => (match sAsg s with
    | some (t, e') => (match asSub t with
      | some (o, e) => (match asName o with
        | some x => decide (F.N[i]? = some x) && (visB F.sc x && (nmB x && (notSlice e && (notComp e' && (ckE M a F e && ckE M b F e')))))
        | none => false)
      | none => false)
    | none => false)
  | .ex a, F, s => (match sEx s with | some e => notComp e && ckE M a F e | none => false)
  | .ret a, F, s => (match sRet s with | some (some e) => ckE M a F e | _ => false)
  | .retN, F, s => (match sRet s with | some none => true | _ => false)
  | .ife t a b, F, s => (match sIf s with | some (c, x, y) => ckT M t F c && (ckSs a F x && ckSs b F y) | none => false)
  | .fo g it b, F, s => (match sFor s with | some (t, i, x) => notSet i && (ckI M it F t i && (ckG F g t && ckSs b F x)) | none => false)
  | .whl m t b, F, s => (match sWhl s with | some (c, x) => ckT M t F c && ckSs b F x | none => false)
  | .app i a, F, s => (match sEx s with
    | some c => (match asM1 c with
      | some (x, p, m, e) => decide (m = "append") && (decide (F.N[i]? = some x) && (visB F.sc x && (nmB x && (notStar e && ckE M a F e))))
      | none => false)
    | none => false)
  | .raise c .nil, F, s => (match sRaise s with
    | some x => decide (M.exs.lookup x = some c) && (glB F.sc x && nmB x)
    | none => false)
  | .raise c (.cons a .nil), F, s => (match sRaise1 s with
    | some (x, e) => decide (M.exi.lookup x = some c) && (glB F.sc x && (nmB x && (iniE a && (notStar e && ckE M a F e))))
    | none => false)
  | .skip, F, s => isPass s
  | .never, F, s => true
  | _, _, _ => false
def ckSs : Ss → Fr → List Stmt → Bool
  | .nil, _, [] => true
  | .cons a as, F, s :: ss => ckS a F s && ckSs as F ss
  | _, _, _ => false
end
end
/-- a class of errors without an own __init__ -/
structure ExcP (K : PySem.W.Frag) (A : Addr) : Prop where
  q1 : PySem.W.excIn K A [.type "ValueError", .type "Exception", .type "BaseException", .type "object"] "ValueError.__new__" = true
  q2 : PySem.W.keepIn K (.ref A) = true
  q3 : PySem.W.subIn K (.ref A) (.type "BaseException") = some true
  q4 : PySem.W.typeIn K (.ref A) = some (.type "type")
/-- a def's body: what statements want -/
structure SOk (C : Gc) (M : Md) (F : Fr) (cf : Cf) (k : Nat) (W : XW) (X : Cx) : Prop where
  x : XOk C M F cf k W X
  own : PassesOwn (model X.prog X.w) X.A X.env X.xe
  kind : X.env.scope.kind = .function
  tk : L2N.Takes X fun cls d σ H => EW C W σ cls d H
  exs : ∀ x c, M.exs.lookup x = some c → ∃ A, C.ga[c]? = some A ∧ X.mg x = some (.ref A) ∧ ExcP X.K A
  exi : ∀ x c, M.exi.lookup x = some c → ∃ A, C.ga[c]? = some A ∧ X.mg x = some (.ref A) ∧ IniP X.prog X.K X.mg A
  rm : Room 2 X.A
section
variable {C : Gc} {M : Md} {F : Fr} {cf : Cf} {k k0 : Nat} {W : XW} {X : Cx}
theorem ckX_ok (o : SOk C M F cf k W X) {i : Nat} {a : E} {x : Str} {p pos : Pos} {e : Expr} (hi : F.N[i]? = some x) (hl : isLoc F x = true) (hsw : swapsWith e (some (.Name x p)) pos.line X.env = pure true) (h : ckX M a F e = true) : PS X (.Assign [.Name x p] e pos) (rdS C W k0 (evS cf k0 (.asg i a))) := by
  cases a with
  | frz l =>
    obtain ⟨h1, h2⟩ := and3 h
    exact fr_asg (sLs o.x hi (isLoc_of hl) hsw h1 h2)
  | new l =>
    obtain ⟨h1, h2⟩ := and3 h
    exact nw_asg (sLs o.x hi (isLoc_of hl) hsw h1 h2)
  | frzM m =>
    obtain ⟨h1, h2⟩ := and3 h
    exact fr_asgM (sMs o.x hi (isLoc_of hl) hsw h1 h2)
  | newM m =>
    obtain ⟨h1, h2⟩ := and3 h
    exact nw_asgM (sMs o.x hi (isLoc_of hl) hsw h1 h2)
  | _ => exact absurd (show false = true from h) Bool.false_ne_true
theorem par_ok (o : SOk C M F cf k W X) {is : List Nat} {as : Es} {t e : Expr} {ts vs : List Expr} {pos : Pos} (ht : asTup t = some ts) (he : asTup e = some vs) (h : ckPar F is ts vs = true) (hl : vs.length ≤ 1000) (hl2 : as.len = vs.length) (h1 : PA X vs (rdA C W (evEs cf as))) : PS X (.Assign [t] e pos) (rdS C W k0 (evS cf k0 (.par is as))) := by
  obtain ⟨kt, pt, rfl⟩ := asTup_of ht
  obtain ⟨k2, pt2, rfl⟩ := asTup_of he
  unfold ckPar at h
  split at h
  · rename_i hs
    obtain ⟨h3, h4⟩ := and3 h
    exact g_par o.x o.kind h3 hs hl hl2 (of_decide_eq_true h4) h1
  · rename_i names hs
    split at h
    · rename_i i j x y a b h2
      obtain ⟨px, py, rfl⟩ := two_of h2
      obtain ⟨q1, h⟩ := and3 h
      obtain ⟨q2, h⟩ := and3 h
      obtain ⟨q3, h⟩ := and3 h
      obtain ⟨q4, h⟩ := and3 h
      obtain ⟨q5, q6⟩ := and3 h
      obtain rfl := of_decide_eq_true q6
      exact g_par2 o.x o.kind (of_decide_eq_true q1) (of_decide_eq_true q2) (of_decide_eq_true q3) (isLoc_of q4) (isLoc_of q5) hs h1
    · cases h
  · cases h
mutual
theorem sS (o : SOk C M F cf k W X) : ∀ (a : S) (s : Stmt), ckS M a F s = true → PS X s (rdS C W k0 (evS cf k0 a))
  | .asg i a, s, h => by
    rw [ckS] at h
    split at h
    · rename_i x p e pos hx
      obtain rfl := sAsg1_of hx
      obtain ⟨h1, h⟩ := and3 h
      obtain ⟨h2, h3⟩ := and3 h
      have sw := sw_is (l := pos.line) o.kind o.x.sc e x p
      by_cases hb : swB F e x p = true
      · rw [if_pos hb] at h3
        rw [hb] at sw
        obtain ⟨h4, h5⟩ := and3 h3
        exact ckX_ok o (of_decide_eq_true h1) h4 sw h5
      · rw [if_neg hb] at h3
        have hb : swB F e x p = false := by simpa using hb
        rw [hb] at sw
        exact g_asg o.x (of_decide_eq_true h1) h2 sw (sE a F e W X o.x h3)
    · cases h
  | .mv i j, s, h => absurd (show false = true from h) Bool.false_ne_true
  | .unp gs a, s, h => by
    rw [ckS] at h
    split at h
    · rename_i t e hx
      obtain ⟨pos, rfl⟩ := sAsg_of hx
      obtain ⟨h1, h⟩ := and3 h
      obtain ⟨h2, h⟩ := and3 h
      obtain ⟨h3, h4⟩ := and3 h
      exact g_unp o.x h1 (by simpa using h2) h3 (sE a F e W X o.x h4)
    · cases h
  | .par is as, s, h => by
    rw [ckS] at h
    split at h
    · rename_i t e hx
      obtain ⟨pos, rfl⟩ := sAsg_of hx
      split at h
      · rename_i ts vs ht he
        obtain ⟨h1, h⟩ := and3 h
        obtain ⟨h2, h⟩ := and3 h
        obtain ⟨h3, h4⟩ := and3 h
        exact par_ok o ht he h1 (of_decide_eq_true h2) (of_decide_eq_true h3) (sEs as F vs W X o.x h4)
      · cases h
    · cases h
  | .put i a b, s, h => by
    rw [ckS] at h
    split at h
    · rename_i t e' hx
      obtain ⟨pos, rfl⟩ := sAsg_of hx
      split at h
      · rename_i ob e hs
        obtain ⟨p2, rfl⟩ := asSub_of hs
        split at h
        · rename_i x hn
          obtain ⟨p, rfl⟩ := asName_of hn
          obtain ⟨h1, h⟩ := and3 h
          obtain ⟨h2, h⟩ := and3 h
          obtain ⟨h3, h⟩ := and3 h
          obtain ⟨h4, h⟩ := and3 h
          obtain ⟨h5, h⟩ := and3 h
          obtain ⟨h6, h7⟩ := and3 h
          exact g_put o.x (of_decide_eq_true h1) h2 h3 h4 h5 (sE a F e W X o.x h6) (sE b F e' W X o.x h7)
        · cases h
      · cases h
    · cases h
  | .app i a, s, h => by
    rw [ckS] at h
    split at h
    · rename_i c hx
      obtain ⟨pos, rfl⟩ := sEx_of hx
      split at h
      · rename_i x p m e hm
        obtain ⟨apos, cpos, rfl, hl⟩ := asM1_of hm
        obtain ⟨h1, h⟩ := and3 h
        obtain ⟨h2, h⟩ := and3 h
        obtain ⟨h3, h⟩ := and3 h
        obtain ⟨h4, h⟩ := and3 h
        obtain ⟨h5, h6⟩ := and3 h
        obtain rfl := of_decide_eq_true h1
        exact g_app o.x (of_decide_eq_true h2) h3 h4 h5 hl (sE a F e W X o.x h6)
      · cases h
    · cases h
  | .upd i a, s, h => absurd (show false = true from h) Bool.false_ne_true
  | .fld i f a, s, h => absurd (show false = true from h) Bool.false_ne_true
  | .ex a, s, h => by
    rw [ckS] at h
    split at h
    · rename_i e hx
      obtain ⟨pos, rfl⟩ := sEx_of hx
      obtain ⟨h1, h2⟩ := and3 h
      exact g_sex h1 (sE a F e W X o.x h2)
    · cases h
  | .ret a, s, h => by
    rw [ckS] at h
    split at h
    · rename_i e hx
      obtain ⟨pos, rfl⟩ := sRet_of hx
      exact g_ret (sE a F e W X o.x h)
    · cases h
  | .retv i, s, h => absurd (show false = true from h) Bool.false_ne_true
  | .retN, s, h => by
    rw [ckS] at h
    split at h
    · rename_i hx
      obtain ⟨pos, rfl⟩ := sRet_of hx
      exact g_retN
    · cases h
  | .ife t a b, s, h => by
    rw [ckS] at h
    split at h
    · rename_i c x y hx
      obtain ⟨pos, rfl⟩ := sIf_of hx
      obtain ⟨h1, h⟩ := and3 h
      obtain ⟨h2, h3⟩ := and3 h
      exact g_sif (sT t F c W X o.x h1) (sSs o a x h2) (sSs o b y h3)
    · cases h
  | .fo g it b, s, h => by
    rw [ckS] at h
    split at h
    · rename_i t i x hx
      obtain ⟨pos, rfl⟩ := sFor_of hx
      obtain ⟨h1, h⟩ := and3 h
      obtain ⟨h2, h⟩ := and3 h
      obtain ⟨h3, h4⟩ := and3 h
      exact g_for o.x o.own h1 (sI it F t i W X o.x h2) (g_tg o.x g t h3) (sSs o b x h4)
    · cases h
  | .whl m t b, s, h => by
    rw [ckS] at h
    split at h
    · rename_i c x hx
      obtain ⟨pos, rfl⟩ := sWhl_of hx
      obtain ⟨h1, h2⟩ := and3 h
      exact g_whl o.own (sT t F c W X o.x h1) (sSs o b x h2)
    · cases h
  | .raise c .nil, s, h => by
    rw [ckS] at h
    split at h
    · rename_i x hx
      obtain ⟨m, j, p, p2, pos, pos2, rfl⟩ := sRaise_of hx
      obtain ⟨h1, h⟩ := and3 h
      obtain ⟨h2, h3⟩ := and3 h
      obtain ⟨A, a1, a2, q⟩ := o.exs x c (of_decide_eq_true h1)
      exact g_raise o.x.calm o.tk a1 a2 (glB_of o.x.sc h2) q.q1 q.q2 q.q3 q.q4 (nmB_of h3).1
    · cases h
  | .raise c (.cons a .nil), s, h => by
    rw [ckS] at h
    split at h
    · rename_i x e hx
      obtain ⟨p, pos, pos2, rfl⟩ := sRaise1_of hx
      obtain ⟨h1, h⟩ := and3 h
      obtain ⟨h2, h⟩ := and3 h
      obtain ⟨h3, h⟩ := and3 h
      obtain ⟨h4, h⟩ := and3 h
      obtain ⟨h5, h6⟩ := and3 h
      obtain ⟨A, a1, a2, q⟩ := o.exi x c (of_decide_eq_true h1)
      exact g_raiseI o.x.calm o.tk a1 a2 (glB_of o.x.sc h2) q o.x.blt o.rm h4 h5 (sE a F e W X o.x h6) (nmB_of h3).1
    · cases h
  | .raise c (.cons _ (.cons _ _)), s, h => absurd (show false = true from h) Bool.false_ne_true
  | .skip, s, h => by
    rw [ckS] at h
    cases s <;> first | exact g_skip | cases h
  | .never, s, h => g_never
theorem sSs (o : SOk C M F cf k W X) : ∀ (a : Ss) (s : List Stmt), ckSs M a F s = true → PSs X s (rdS C W k0 (evSs cf k0 a))
  | .nil, [], h => g_snil
  | .nil, _ :: _, h => absurd (show false = true from h) Bool.false_ne_true
  | .cons a as, [], h => absurd (show false = true from h) Bool.false_ne_true
  | .cons a as, s :: ss, h => by
    rw [ckSs] at h
    obtain ⟨h1, h2⟩ := and3 h
    exact g_scons (sS o a s h1) (sSs o as ss h2)
end
end
end Ev

set_option Elab.async false
set_option linter.all false
set_option maxRecDepth 100000
set_option maxHeartbeats 4000000
namespace Ev
open PySem PySem.Spec PyProof.Rows L2

/-! ### a def of the written part -/
/-- the def at f is the term fn: N its names, the parameters first -/
def lamB (cs : List (Addr × Addr)) (tbs : List (Addr × Str)) (lam : Bool) (cd : Value) (q : Str) : Bool := !lam || (match cd with
  | .ref c => cs.any fun p => decide (p.1 = c) && (decide ((p.2, q) ∈ tbs) && tbs.all fun t => !decide (t.1 = p.2) || decide (t.2 = q))
  | _ => false)
theorem lamB_ok {cs : List (Addr × Addr)} {tbs : List (Addr × Str)} {lam : Bool} {cd : Value} {q : Str} (h : lamB cs tbs lam cd q = true) (hl : lam = true) : ∃ c P, cd = .ref c ∧ (c, P) ∈ cs ∧ (P, q) ∈ tbs ∧ ∀ p ∈ tbs, p.1 = P → p.2 = q := by
  unfold lamB at h
  rw [hl, Bool.not_true, Bool.false_or] at h
  split at h
  · rename_i c
    obtain ⟨p, hp, h2⟩ := List.any_eq_true.mp h
    obtain ⟨h3, h2⟩ := and3 h2
    obtain ⟨h4, h5⟩ := and3 h2
    obtain rfl := of_decide_eq_true h3
    refine ⟨p.1, p.2, rfl, hp, of_decide_eq_true h4, fun t ht e => ?_⟩
    have h6 := List.all_eq_true.mp h5 t ht
    rw [e] at h6
    simpa using h6
  · cases h
def defB (K : PySem.W.Frag) (M : Md) (cs : List (Addr × Addr)) (tbs : List (Addr × Str)) (f : Addr) (fn : Fn) (N : List Str) (lam : Bool) : Bool := match K.lookup f with
  | some ob => (match ob.data with
    | .func fd => (match fd.params, fd.body, fd.defaults, fd.closure with
      | ⟨[], as, none, [], [], none, []⟩, .stmts body, .none, [] =>
        decide (fd.globals = mainGlobals) && (decide (fd.builtins = builtinsNs) && (PySem.W.codeIn K fd.code fd.qualname && (PySem.W.keepIn K (.ref f) && (C8.scC N (as.map (·.arg)) fd.scope && (decide (as.length = fn.np) && (decide (N.length = fn.ns) && (ckSs M fn.body ⟨N, fd.scope, fun _ => true, lam⟩ body && (lamB cs tbs lam fd.code (fd.qualname ++ ".<locals>." ++ "<lambda>") && decide (as.map (·.arg)).Nodup))))))))
      | _, _, _, _ => false)
    | _ => false)
  | none => false
structure DefIs (K : PySem.W.Frag) (M : Md) (cs : List (Addr × Addr)) (tbs : List (Addr × Str)) (lam : Bool) (f : Addr) (fn : Fn) (N : List Str) (fd : FuncData) (ps : List Str) : Prop where
  bindA : ∀ us : List Value, us.length = ps.length → bindArgs fd ⟨us, []⟩ = pure (ps.zip us)
  kp : PySem.W.keepIn K (.ref f) = true
  np : ps.length = fn.np
  ns : N.length = fn.ns
  ex : ∃ (name qual : Str) (params : Arguments) (body : List Stmt) (scope : Scope) (dV kV doc pm cdv ct oc : Value) (an od : Option Addr) (osl : Array (Option Value)),
    fd = PySem.W.fnOf name qual params body scope dV kV doc pm an cdv ct ∧ K.lookup f = some ⟨oc, od, .func (PySem.W.fnOf name qual params body scope dV kV doc pm an cdv ct), osl⟩ ∧ PySem.W.codeIn K cdv qual = true ∧ FnScope N ps scope ∧ ckSs M fn.body ⟨N, scope, fun _ => true, lam⟩ body = true ∧
      (lam = true → ∃ c P, cdv = .ref c ∧ (c, P) ∈ cs ∧ (P, qual ++ ".<locals>." ++ "<lambda>") ∈ tbs ∧ ∀ p ∈ tbs, p.1 = P → p.2 = qual ++ ".<locals>." ++ "<lambda>")
theorem DefIs.bind {K : PySem.W.Frag} {M : Md} {cs : List (Addr × Addr)} {tbs : List (Addr × Str)} {lam : Bool} {f : Addr} {fn : Fn} {N : List Str} {fd : FuncData} {ps : List Str} (D : DefIs K M cs tbs lam f fn N fd ps) : Binds K fd ps [] := .all D.bindA
theorem defB_ok {K : PySem.W.Frag} {M : Md} {cs : List (Addr × Addr)} {tbs : List (Addr × Str)} {lam : Bool} {f : Addr} {fn : Fn} {N : List Str} (h : defB K M cs tbs f fn N lam = true) : ∃ fd ps, DefIs K M cs tbs lam f fn N fd ps := by
  unfold defB at h
  split at h
  · rename_i ob lk
    split at h
    · rename_i fd ed
      split at h
      · rename_i as body hp hb hd hc
        obtain ⟨h1, h⟩ := and3 h
        obtain ⟨h2, h⟩ := and3 h
        obtain ⟨h3, h⟩ := and3 h
        obtain ⟨h4, h⟩ := and3 h
        obtain ⟨h5, h⟩ := and3 h
        obtain ⟨h6, h⟩ := and3 h
        obtain ⟨h7, h⟩ := and3 h
        obtain ⟨h8, h⟩ := and3 h
        obtain ⟨h10, h9⟩ := and3 h
        refine ⟨fd, as.map (·.arg), fun us hl => bind_plain hp hd (of_decide_eq_true h9) us hl, h4, by rw [List.length_map]; exact of_decide_eq_true h6, of_decide_eq_true h7, ?_⟩
        obtain ⟨oc, od, dt, osl⟩ := ob
        obtain ⟨name, qual, params, fbody, scope, globals, closure, defaults, kV, doc, pm, an, cdv, ct, bts⟩ := fd
        dsimp only at ed hb hc h1 h2 h3 h5 h8 h10
        subst ed hb hc
        obtain rfl := of_decide_eq_true h1
        obtain rfl := of_decide_eq_true h2
        exact ⟨name, qual, params, body, scope, defaults, kV, doc, pm, cdv, ct, oc, an, od, osl, rfl, lk, h3, C8.fnScope_by h5, h8, lamB_ok h10⟩
      · cases h
    · cases h
  · cases h
/-- the module, as its defs see it -/
structure MOk (C : Gc) (M : Md) (mg : Str → Option Value) (Tb : List Fn) (Ns : List (List Str × Bool)) (cs : List (Addr × Addr)) : Prop where
  exs : ∀ x c, M.exs.lookup x = some c → ∃ A, C.ga[c]? = some A ∧ mg x = some (.ref A) ∧ ExcP C.K A
  exi : ∀ x c, M.exi.lookup x = some c → ∃ A, C.ga[c]? = some A ∧ mg x = some (.ref A) ∧ IniP C.P C.K mg A
  blt : ∀ x ∈ bltNames, mg x = none
  fns : ∀ x g, M.fns.lookup x = some g → ∃ f, C.ga[g]? = some f ∧ mg x = some (.ref f)
  fnf : ∀ x g, M.fns.lookup x = some g → g < M.nf
  far : ∀ n g ds st, M.nf ≤ g → callN Tb n g ds st = .bad
  gcs : ∀ x p, M.gcs.lookup x = some p → ∃ u v, mg x = some u ∧ RelV v u ∧ ∀ H, RP C H p v
  defs : ∀ g f, C.ga[g]? = some f → g < M.nf → ∃ fn N, Tb[g]? = some fn ∧ Ns[g]? = some N ∧ defB C.K M cs C.tbs f fn N.1 N.2 = true
/-- what a base gives -/
structure BOk (C : Gc) (M : Md) (mg : Str → Option Value) (base : Heap) (cs : List (Addr × Addr)) : Prop where
  tab : ∀ p ∈ cs, LamX.TabB base mg p.1 p.2
  cts : ∀ x okv tab, (x, okv, tab) ∈ M.cts → CatchOk C mg base x okv tab
theorem paired_at {α β : Type} {F : α → β → Prop} {i : Nat} {x : α} : ∀ {l : List α} {m : List β}, Paired F l m → l[i]? = some x → ∃ y, m[i]? = some y ∧ F x y := by
  induction i with
  | zero =>
    intro l m r e
    cases r with
    | nil => cases e
    | cons h t => cases e; exact ⟨_, rfl, h⟩
  | succ i ih =>
    intro l m r e
    cases r with
    | nil => cases e
    | cons h t => exact ih t (by simpa using e)
theorem start_ren {C : Gc} {H : Hp} {μ : List Addr} {N : List Str} {fn : Fn} {ds : List D} {vs : List V} (hn : N.length = fn.ns) (r : RDs C H μ ds vs) : REn C H μ (enter fn ds) (L2.start N vs) := by
  have l : ds.length = vs.length := Paired.length r
  unfold enter L2.start
  refine ⟨by simp only [List.length_append, List.length_map, List.length_replicate]; omega, fun i d e => ?_⟩
  have hi : i < ds.length := by
    by_cases hi : i < ds.length
    · exact hi
    · rw [List.getElem?_append_right (by simpa using hi), List.getElem?_replicate] at e
      split at e <;> cases e
  rw [List.getElem?_append_left (by simpa using hi), List.getElem?_map] at e
  cases q : ds[i]? with
  | none => rw [q] at e; cases e
  | some x =>
    rw [q] at e
    cases e
    obtain ⟨v, q2, q3⟩ := paired_at r q
    refine ⟨v, ?_, q3⟩
    rw [List.getElem?_append_left (by rw [List.length_map, ← l]; exact hi), List.getElem?_map, q2]; rfl
section
variable {C : Gc} {M : Md} {mg : Str → Option Value} {base : Heap} {Tb : List Fn} {Ns : List (List Str × Bool)} {cs : List (Addr × Addr)}
/-- the store behind the def: as it was, and what is handed back -/
theorem back {μ μ' : List Addr} {H H' : Hp} {st st' : St} (w : Wd C H μ st) (n : Ev.Ns st.length μ H μ' H') (w' : Wd C H' μ' st') : μ'.take st.length = μ ∧ Nx μ H (μ'.take st.length) H' ∧ Wd C H' (μ'.take st.length) (st'.take st.length) := by
  have e : μ'.take st.length = μ := by
    have p := n.pre
    rw [← w.len, List.take_length] at p
    obtain ⟨t, rfl⟩ := p
    rw [← w.len, List.take_left]
  refine ⟨e, ?_, w'.take _⟩
  rw [e]
  exact ⟨List.prefix_rfl, n.keep, n.rest, fun b m z => absurd m z⟩
theorem back_obj {μ μ' : List Addr} {H H' : Hp} {st st' : St} {n : Nat} {a : Addr} {o : Ob} (w : Wd C H μ st) (hn : Ev.Ns st.length μ H μ' H') (w' : Wd C H' μ' st') (hl : ¬ n < st.length) (ha : μ'[n]? = some a) (ho : st'[n]? = some o) :
    Nx μ H (μ'.take st.length ++ [a]) H' ∧ Wd C H' (μ'.take st.length ++ [a]) (st'.take st.length ++ [o]) := by
  obtain ⟨e, n1, w1⟩ := back w hn w'
  have hm : a ∉ μ'.take st.length := fun z => by
    obtain ⟨i, hi, ei⟩ := List.mem_iff_getElem.mp z
    rw [List.length_take] at hi
    rw [List.getElem_take] at ei
    obtain ⟨l2, e2⟩ := List.getElem?_eq_some_iff.mp ha
    have := (List.getElem_inj w'.nd).mp (ei.trans e2.symm)
    omega
  have hne : H a = none ∨ ∃ ps, H a = some (.tbl ps) := hn.new a (List.mem_of_getElem? ha) (by rw [← e]; exact hm)
  have hnd : (μ'.take st.length ++ [a]).Nodup := by
    rw [List.nodup_append]
    refine ⟨w1.nd, by simp, fun x m y my q => ?_⟩
    have : y = a := by simpa using my
    subst this
    subst q
    exact hm m
  have sub : ∀ b, b ∉ μ' → b ∉ μ'.take st.length ++ [a] := fun b nb m => by
    rcases List.mem_append.mp m with m | m
    · exact nb (List.mem_of_mem_take m)
    · have : b = a := by simpa using m
      subst this
      exact nb (List.mem_of_getElem? ha)
  have tb : TabO C H' (μ'.take st.length ++ [a]) := fun p hp => by
    obtain ⟨ps, t1, t2, t3, t4⟩ := w'.tab p hp
    refine ⟨ps, t1, t2, sub _ t3, fun pos cv hc => ?_⟩
    obtain ⟨c, e1, e2, e3⟩ := t4 pos cv hc
    exact ⟨c, e1, e2, sub _ e3⟩
  refine ⟨⟨?_, n1.keep, n1.rest, fun b m z => ?_⟩, ?_, hnd, tb, fun i b o' h1 h2 => ?_⟩
  · rw [e]; exact List.prefix_append _ _
  · rcases List.mem_append.mp m with m | m
    · exact n1.new b m z
    · have : b = a := by simpa using m
      subst this
      exact hne
  · rw [List.length_append, List.length_append, w1.len]; rfl
  · by_cases hi : i < (μ'.take st.length).length
    · rw [List.getElem?_append_left hi] at h1
      rw [List.getElem?_append_left (by rw [← w1.len]; exact hi)] at h2
      exact w1.at_ i b o' h1 h2
    · rw [List.getElem?_append_right (by omega)] at h1
      rw [List.getElem?_append_right (by rw [← w1.len]; omega)] at h2
      have e1 : i - (μ'.take st.length).length = 0 := by
        have := (List.getElem?_eq_some_iff.mp h1).1
        simp at this ⊢; omega
      have e2 : i - (st'.take st.length).length = 0 := by rw [← w1.len]; exact e1
      rw [e1] at h1
      rw [e2] at h2
      simp at h1 h2
      subst h1 h2
      exact w'.at_ n a o ha ho
/-- a def's promise, one level deeper -/
theorem def_step (mo : MOk C M mg Tb Ns cs) (bo : BOk C M mg base cs) {n g : Nat} {f : Addr} {fn : Fn} {N : List Str} {lam : Bool} {fd : FuncData} {ps : List Str} (e1 : Tb[g]? = some fn) (D : DefIs C.K M cs C.tbs lam f fn N fd ps)
    (rec : ∀ g f, C.ga[g]? = some f → g < M.nf → ∃ fd ps, PySem.W.keepIn C.K (.ref f) = true ∧ Binds C.K fd ps [] ∧ FnOk C.P C.w C.K mg base (L2N.CX C.P C.w) (3 * n) f fd ps (spG C (callN Tb n) ps.length g) ∧ ∀ ds st, ds.length ≠ ps.length → callN Tb n g ds st = .bad) :
    FnOk C.P C.w C.K mg base (L2N.CX C.P C.w) (3 * (n + 1)) f fd ps (spG C (callN Tb (n + 1)) ps.length g) := by
  obtain ⟨name, qual, params, body, scope, dV, kV, doc, pm, cdv, ct, oc, an, od, osl, rfl, lk, hcd, S, hck, hlam⟩ := D.ex
  refine L2.fn_of (k := 3 * n + 2) lk hcd S (fun vs H Q E h => h.1) fun A outer s H vs Q E hr ⟨hlen, μ, st, ds, w, rd, h⟩ => ?_
  have tk := L2N.takes_of (X := cxOf (L2N.CX C.P C.w) C.P C.w C.K mg base N qual scope f cdv A outer s H E) rfl rfl rfl rfl
  have o : SOk C M ⟨N, scope, fun _ => true, lam⟩ (callN Tb n) (3 * n) (leaveX C E) (cxOf (L2N.CX C.P C.w) C.P C.w C.K mg base N qual scope f cdv A outer s H E) := by
    refine ⟨⟨rfl, rfl, rfl, rfl, rfl, S.nd, rfl, fun _ _ => rfl, hr.mono (by omega), mo.blt, mo.fns, rec, mo.fnf, mo.far n, mo.gcs, fun σ => ?_, fun z => ?_, bo.cts⟩, passes_of rfl, S.kind, tk.imp fun c d σ H ⟨c0, fs, st, μ, A, hA, ec, hd, _, hw⟩ => by subst ec; exact hw A hA d hd, mo.exs, mo.exi, hr.mono (by omega)⟩
    · exact fun pins H1 s1 e s' I c => tk e s' (L2N.XE.of_call I (fun cls d H' ⟨c, fs, st, μ, A, hA, ec, hd, _, hw⟩ => by subst ec; exact hw A hA d hd) c)
    · obtain ⟨c, P, q1, q2, q3, q4⟩ := hlam z
      exact ⟨hr, c, P, q1, bo.tab _ q2, q3, q4⟩
  refine ⟨_, sSs (k0 := st.length) o fn.body body hck, μ, st, enter fn ds, w, start_ren D.ns rd, by rw [w.len]; exact Nat.le_refl _, ?_⟩
  have hl : ds.length = fn.np := by rw [Paired.length rd, hlen, D.np]
  rw [callN, e1] at h
  dsimp only at h
  rw [if_pos hl] at h
  cases er : evSs (callN Tb n) st.length fn.body (enter fn ds) st with
  | ok fl st' =>
    rw [er] at h
    cases fl with
    | next r' =>
      intro μ' H' σ' n' w' hr'
      obtain ⟨_, b2, b3⟩ := back w n' w'
      exact h _ H' b2 b3 .non (show RP C H' .non .non from RP.non_iff.mpr rfl)
    | ret d =>
      intro μ' H' v n' w' rv
      obtain ⟨b1, b2, b3⟩ := back w n' w'
      cases d with
      | p x => exact h _ H' b2 b3 v rv
      | obj m =>
        obtain ⟨a, ha, rfl⟩ := rv
        by_cases hm : m < st.length
        · rw [show leave st.length (.ok (.ret (.obj m)) st') = .ok (.obj m) (st'.take st.length) from if_pos hm] at h
          refine h _ H' b2 b3 (.ref a) ⟨a, ?_, rfl⟩
          rw [List.getElem?_take_of_lt hm]; exact ha
        · cases ho : st'[m]? with
          | none =>
            rw [show leave st.length (.ok (.ret (.obj m)) st') = .bad from (if_neg hm).trans (by rw [ho])] at h
            exact h.elim
          | some ob =>
            rw [show leave st.length (.ok (.ret (.obj m)) st') = .ok (.obj st.length) (st'.take st.length ++ [ob]) from (if_neg hm).trans (by rw [ho])] at h
            obtain ⟨c1, c2⟩ := back_obj w n' w' hm ha ho
            refine h _ H' c1 c2 (.ref a) ⟨a, ?_, rfl⟩
            have e : (μ'.take st.length).length = st.length := by rw [b1, w.len]
            rw [List.getElem?_append_right (by omega), e, Nat.sub_self]; rfl
  | exc c fs st' =>
    rw [er] at h
    intro μ' H' σ' n' w'
    obtain ⟨_, b2, b3⟩ := back w n' w'
    exact fun A hA d hd => h _ H' A b2 b3 hA d hd
  | bad => rw [er] at h; exact h.elim
/-- THE DEFS: every def of the module keeps the evaluator's promise -/
theorem defs_ok (mo : MOk C M mg Tb Ns cs) (bo : BOk C M mg base cs) : ∀ (n g : Nat) (f : Addr), C.ga[g]? = some f → g < M.nf → ∃ fd ps, PySem.W.keepIn C.K (.ref f) = true ∧ Binds C.K fd ps [] ∧ FnOk C.P C.w C.K mg base (L2N.CX C.P C.w) (3 * n) f fd ps (spG C (callN Tb n) ps.length g) ∧ ∀ ds st, ds.length ≠ ps.length → callN Tb n g ds st = .bad
  | 0, g, f, hg, hx => by
    obtain ⟨fn, N, e1, e2, h⟩ := mo.defs g f hg hx
    obtain ⟨fd, ps, D⟩ := defB_ok h
    refine ⟨fd, ps, D.kp, D.bind, ⟨fun vs H Q E h => h.1, fun A outer s H args us vs Q E hr e0 hb rv h => ?_⟩, fun ds st hl => by rw [callN]⟩
    obtain ⟨_, μ, st, ds, _, _, h⟩ := h
    rw [callN] at h
    exact h.elim
  | n + 1, g, f, hg, hx => by
    obtain ⟨fn, N, e1, e2, h⟩ := mo.defs g f hg hx
    obtain ⟨fd, ps, D⟩ := defB_ok h
    refine ⟨fd, ps, D.kp, D.bind, def_step mo bo e1 D (defs_ok mo bo n), fun ds st hl => ?_⟩
    rw [callN, e1]
    dsimp only
    rw [if_neg (by rw [← D.np]; exact hl)]
end
end Ev

set_option Elab.async false
set_option linter.all false
set_option maxRecDepth 100000
set_option maxHeartbeats 4000000
namespace Ev
open PySem PySem.Spec PyProof.Rows L2

/-! ### a def that calls what it gets, and tells of its error by a word for each class -/
theorem pe_at {X : Cx} {e : Expr} {t : TE} (h : PE X e t) : PE X e (fun σ H Q => ∃ Q' : VK, (∀ v H', Q' v H' → Q v H') ∧ t σ H Q') :=
  ⟨fun pins s σ H Q I ⟨Q', m, z⟩ => thn (h.run pins s σ H Q' I z) fun v s1 ⟨x, H1, I1, r1, q1⟩ => ⟨x, H1, I1, r1, m _ _ q1⟩⟩
def conPV : Expr → Option (P × V)
  | .Constant .none _ _ => some (.non, .non)
  | .Constant (.bool b) _ _ => some (.bl b, .bl b)
  | .Constant (.str x) _ _ => some (.str x, .str x)
  | _ => none
theorem conPV_ok {X : Cx} {e : Expr} {p : P} {v : V} (h : conPV e = some (p, v)) : PE X e (tC v) := by
  unfold conPV at h
  split at h
  · cases h; exact pe_non
  · cases h; exact pe_bl
  · cases h; exact pe_str
  · cases h
theorem conPV_rp {e : Expr} {p : P} {v : V} (h : conPV e = some (p, v)) (C : Gc) (H : Hp) : RP C H p v := by
  unfold conPV at h
  split at h
  · cases h; exact RP.non_iff.mpr rfl
  · cases h; exact RP.bl_iff.mpr rfl
  · cases h; exact RP.str_iff.mpr rfl
  · cases h
theorem lookup_mem {α β : Type} [BEq α] [LawfulBEq α] {x : α} {y : β} : ∀ {l : List (α × β)}, l.lookup x = some y → (x, y) ∈ l
  | [], h => by cases h
  | (a, b) :: r, h => by
    rw [List.lookup_cons] at h
    split at h
    · rename_i hb
      cases h
      rw [eq_of_beq hb]
      exact List.mem_cons_self
    · exact List.mem_cons_of_mem _ (lookup_mem h)
/-- except x: return constant -/
def asHand : ExceptHandler → Option (Str × P × V)
  | .ExceptHandler (some (.Name x _)) none [.Return (some e) _] _ => (match conPV e with | some (p, v) => some (x, p, v) | none => none)
  | _ => none
def asHands : List ExceptHandler → Option (List (Str × P × V))
  | [] => some []
  | h :: r => match asHand h with
    | some y => (match asHands r with | some l => some (y :: l) | none => none)
    | none => none
/-- the word that the clauses have for a class -/
def hitB (K : PySem.W.Frag) (cls : Value) (w : P) : List (Str × P × V) → Bool
  | [] => false
  | (x, p, _) :: r => match PySem.W.exmOne K cls (.ref (He.ga K x)) with
    | some true => decide (p = w)
    | some false => hitB K cls w r
    | none => false
def catBody (a : Str) : List Stmt → Option (List (Str × P × V) × P × V)
  | [.Try [.Expr (.Call (.Name b _) [] [] _) _] (h0 :: hds) [] [] _, .Return (some e) _] =>
    if a = b then (match asHands (h0 :: hds), conPV e with | some l, some (p, v) => some (l, p, v) | _, _ => none) else none
  | _ => none
def hsOf (K : PySem.W.Frag) (l : List (Str × P × V)) : List (Value × (Addr → Value → Option Addr → TS)) := l.map fun y => (.ref (He.ga K y.1), fun _ _ _ D _ H => D.rt y.2.2 H)
def wantB (K : PySem.W.Frag) (ga : List Addr) (l : List (Str × P × V)) (tab : List (Nat × Tell)) : Bool := tab.all fun q => match q.2, ga[q.1]? with
  | .txt w, some A => hitB K (.ref A) w l
  | _, _ => false
theorem takes0N {X : Cx} : L2N.Takes X (fun _ _ _ _ => False) := fun _ _ ⟨_, _, _, _, _, _, _, _, _, _, _, _, _, _, _, _, z⟩ => z.elim
section
variable {C : Gc} {mg : Str → Option Value} {base : Heap}
theorem hands_ok {X : Cx} {sc : Scope} (hsc : X.env.scope = sc) : ∀ {hds : List ExceptHandler} {l : List (Str × P × V)}, asHands hds = some l → (∀ y ∈ l, glB sc y.1 = true ∧ (y.1 == ("__debug__" : Str)) = false ∧ X.mg y.1 = some (.ref (He.ga X.K y.1))) → L2N.HdsOk X hds (hsOf X.K l)
  | [], l, h, _ => by cases h; exact .nil
  | hd :: r, l, h, hl => by
    rw [asHands] at h
    split at h
    · rename_i y hy
      split at h
      · rename_i l' hr
        cases h
        unfold asHand at hy
        split at hy
        · rename_i x p1 e p2 p3
          split at hy
          · rename_i p v hc
            cases hy
            obtain ⟨h1, h2, h3⟩ := hl _ List.mem_cons_self
            have hg : Gl X x := glB_of (F := ⟨[], sc, fun _ => false, false⟩) hsc h1
            exact .cons ⟨hg, h2, .inl h3⟩ (fun a oe cls d pn _ _ => pss_one (ps_ret (conPV_ok hc))) (hands_ok hsc hr fun y hy => hl y (List.mem_cons_of_mem _ hy))
          · cases hy
        · cases hy
      · cases h
    · cases h
theorem hit_ok {K : PySem.W.Frag} {cls : Value} {w : P} {Wout : WX} {D : Ends} {d : Option Addr} {σ : L2.St} {H : Hp} (hw : ∀ v, RP C H w v → D.rt v H) : ∀ {l : List (Str × P × V)}, hitB K cls w l = true → (∀ y ∈ l, RP C H y.2.1 y.2.2) → wMany K Wout D (hsOf K l) cls d σ H
  | [], h, _ => by cases h
  | (x, p, v) :: r, h, hv => by
    unfold hitB at h
    split at h
    · rename_i e
      obtain rfl := of_decide_eq_true h
      exact ⟨true, e, fun _ a _ => hw v (hv _ List.mem_cons_self), fun z => (by cases z)⟩
    · rename_i e
      exact ⟨false, e, fun z => (by cases z), fun _ => hit_ok hw h fun y hy => hv y (List.mem_cons_of_mem _ hy)⟩
    · cases h
theorem asHands_rp {H : Hp} : ∀ {hds : List ExceptHandler} {l : List (Str × P × V)}, asHands hds = some l → ∀ y ∈ l, RP C H y.2.1 y.2.2
  | [], l, h, y, hy => by cases h; cases hy
  | hd :: r, l, h, y, hy => by
    rw [asHands] at h
    split at h
    · rename_i y0 h0
      split at h
      · rename_i l' hr
        cases h
        rcases List.mem_cons.mp hy with e | hy
        · subst e
          unfold asHand at h0
          split at h0
          · split at h0
            · rename_i hc
              cases h0
              exact conPV_rp hc _ _
            · cases h0
          · cases h0
        · exact asHands_rp hr y hy
      · cases h
    · cases h
theorem catch_gives {x a : Str} {g : Addr} {sg : Scope} {cdg : Value} {bg : List Stmt} {l : List (Str × P × V)} {okp : P} {okv : V} {tab : List (Nat × Tell)} {q : Str} {X : Cx} (hb : catBody a bg = some (l, okp, okv))
    (hl : ∀ y ∈ l, glB sg y.1 = true ∧ (y.1 == ("__debug__" : Str)) = false ∧ X.mg y.1 = some (.ref (He.ga X.K y.1))) (hK : X.K = C.K) (hw : wantB X.K C.ga l tab = true) :
    GivesN X [a] x sg g cdg bg a q (TTw C okp tab) := by
  unfold catBody at hb
  split at hb
  · rename_i b p1 p2 p3 h0 hds p4 e p5
    split at hb
    · rename_i hab
      subst hab
      split at hb
      · rename_i l' p' v' h1 h2
        cases hb
        intro f c' s H Q tl act hc h
        let X' : Cx := (cxOf C8.CX0 X.prog X.w X.K X.mg X.base [a] x sg g cdg X.A X.stack s H C8.E0).nox
        have tr := L2N.ps_try_many (X := X') (body := [.Expr (.Call (.Name a p1) [] [] p2) p3]) (h₀ := h0) (hds := hds) (pos := p4) (Wout := fun _ _ _ _ => False)
          (tb := fun W D σ H => ∃ (Ech : XK) (Qch : VK), (∀ cls d H', Ech cls d H' → W cls d σ H') ∧ (∀ v H', Qch v H' → D.nx σ H') ∧ σ[0]? = some (some (.ref f)) ∧ H c' = some (LamX.CodeO c' q) ∧ tl Ech H Qch)
          rfl rfl takes0N (fun W pn xe tk _ => ⟨fun pins s' σ H' D I ⟨Ech, Qch, hW, hQ, z1, z2, z3⟩ =>
            (pss_one (ps_expr (pe_at (act W pn xe Ech p1 p2 tk)) rfl)).run pins s' σ H' D I ⟨Qch, hQ, z1, z2, hW, z3⟩⟩) (hands_ok (X := X') rfl h1 hl)
        refine ⟨_, pss_cons tr (pss_one (ps_ret (conPV_ok h2))), ?_⟩
        refine ⟨_, _, fun cls d H' hE => ?_, fun v H' hQ => ?_, rfl, hc, h⟩
        · obtain ⟨c, A, fs, w, hA, ec, hxd, hwd, hq⟩ := hE
          subst ec
          clear hxd
          unfold wordOf at hwd
          have go : ∀ {t : Tell}, tab.lookup c = some t → ∃ w', t = .txt w' ∧ hitB X.K (.ref A) w' l = true := fun {t} e => by
            have z := List.all_eq_true.mp hw _ (lookup_mem e)
            dsimp only at z
            rw [hA] at z
            cases t with
            | txt w' => exact ⟨w', rfl, z⟩
            | pre y => cases z
          split at hwd
          · rename_i e
            cases hwd
            obtain ⟨w', e1, e2⟩ := go e
            cases e1
            exact hit_ok (C := C) (fun v rv => hq H' v (Same.refl _) rv) e2 (asHands_rp h1)
          · rename_i e
            obtain ⟨w', e1, _⟩ := go e
            cases e1
          · cases hwd
        · exact hQ H' okv (Same.refl _) (conPV_rp h2 _ _)
      · cases hb
    · cases hb
  · cases hb
end
end Ev

set_option Elab.async false
set_option linter.all false
set_option maxRecDepth 100000
set_option maxHeartbeats 4000000
namespace Ev
open PySem PySem.Spec PyProof.Rows L2

/-- an empty table -/
abbrev tab0 : Obj := { cls := .none, data := .fields #[] }
/-- the end of a law: the script a frozen list, empty tables of the defs with lambdas, nothing else tracked -/
theorem law_end {P : Program} {w : World} {K : PySem.W.Frag} {mg mb : Str → Option Value} {CX : CXT} {k : Nat} {fa a : Addr} {cs : List (Addr × Addr)} {fd : FuncData} {x : Str} {sp : Sp} {s : Shared} {vs : List Value} {ns : List Int}
    (KX : K.In s.heap) (hns : s.heap.Ns mainGlobals mg) (hb : s.heap.Ns builtinsNs mb) (hbb : ∀ x : Str, x ≠ "__name__" → mb x = bootBuiltins x) (hlim : s.heap.NoLimit) (hg : s.gens = #[])
    (hT : ∀ p ∈ cs, PySem.W.CodeHd s.heap p.1 p.2 ∧ s.heap.get? p.2 = some tab0 ∧ K.lookup p.2 = none)
    (hbm : ∃ (bm : Addr) (ob : Obj), mg "__builtins__" = some (.ref bm) ∧ bm ≠ builtinsNs ∧ s.heap.get? bm = some ob ∧ ob.cls = .type "module" ∧ ob.dict = some builtinsNs ∧ ob.data = .plain)
    (ha : s.heap.get? a = some { cls := .type "list", data := .seq vs.toArray }) (ka : K.lookup a = none) (hi : IntsAre vs ns) (hl : ns.length ≤ sizeLine) (hr : Room k callerA)
    (F : ∀ base : Heap, K.In base → base.Ns mainGlobals mg → (∀ p ∈ cs, LamX.TabB base mg p.1 p.2) → FnOk P w K mg base CX k fa fd [x] sp) (hbind : ∀ (s : Shared) (u : Value), BindsTo s fd ⟨[u], []⟩ [(x, u)])
    (hsp : ∀ H : Hp, (∀ p ∈ cs, H p.2 = some (.tbl #[])) → (∃ o, H a = some (.frz o (.lst (ns.map V.int)))) → sp [.ref a] H (fun v _ => v = .bl true) fun _ _ _ => False)
    (hCX : ∀ H e s', CX [] H s (fun _ _ _ => False) e s' → False) :
    codeAny (model P w) callerA (.call (.ref fa) ⟨[.ref a], []⟩) (fun r s' => r = .ok (.ret (.bool true)) ∧ OldK s.heap s'.heap ∧ s'.os = s.os ∧ AllBare s'.gens) s := by
  have rv := vals_ints hi
  obtain ⟨ts, hts⟩ : ∃ ts : List Addr, ts = cs.map (·.2) := ⟨_, rfl⟩
  have inT : ∀ p ∈ cs, p.2 ∈ ts := fun p hp => by rw [hts]; exact List.mem_map.mpr ⟨p, hp, rfl⟩
  have ofT : ∀ b ∈ ts, ∃ p ∈ cs, p.2 = b := fun b m => by rw [hts] at m; exact List.mem_map.mp m
  have objT : ∀ b ∈ ts, s.heap.get? b = some tab0 := fun b m => by obtain ⟨p, hp, rfl⟩ := ofT b m; exact (hT p hp).2.1
  have aT : a ∉ ts := fun m => by
    have q := ha.symm.trans (objT a m)
    have q' : Data.seq vs.toArray _ = Data.fields #[] := congrArg Obj.data (Option.some.inj q)
    cases q'
  obtain ⟨H, hH⟩ : ∃ H : Hp, ∀ b, H b = if b = a then some (.frz { cls := .type "list", data := .seq vs.toArray } (.lst (ns.map V.int))) else if b ∈ ts then some (.tbl #[]) else none := ⟨_, fun _ => rfl⟩
  have Ha : H a = some (.frz { cls := .type "list", data := .seq vs.toArray } (.lst (ns.map V.int))) := by rw [hH, if_pos rfl]
  have neA : ∀ b ∈ ts, b ≠ a := fun b m e => aT (e ▸ m)
  have Ht : ∀ b ∈ ts, H b = some (.tbl #[]) := fun b m => by rw [hH, if_neg (neA b m), if_pos m]
  have Hn : ∀ b, b ≠ a → b ∉ ts → H b = none := fun b n m => by rw [hH, if_neg n, if_neg m]
  have hok : HOk P w H s.heap := fun b u e => by
    by_cases q : b = a
    · subst q
      rw [Ha] at e
      cases e
      exact ⟨ha, by rw [List.length_map]; exact hl, vs, _, rv, ha⟩
    · by_cases m : b ∈ ts
      · rw [Ht b m] at e
        cases e
        exact objT b m
      · rw [Hn b q m] at e
        cases e
  have out : ∀ {b : Addr} {o : Obj}, s.heap.get? b = some o → o.data ≠ .seq vs.toArray → o.data ≠ .fields #[] → H b = none := fun {b o} e h1 h2 => by
    refine Hn b (fun q => ?_) fun m => ?_
    · rw [q, ha] at e
      cases e
      exact h1 rfl
    · rw [objT b m] at e
      cases e
      exact h2 rfl
  have keepNs : ∀ {b : Addr} {m : Str → Option Value}, s.heap.Ns b m → (hidT s.heap H).Ns b m := fun {b m} ⟨o, es, ep, e, d, r⟩ =>
    ⟨o, es, ep, hidT_get e (out e (by rw [d]; exact fun z => by cases z) (by rw [d]; exact fun z => by cases z)), d, r⟩
  have kb : K.In (hidT s.heap H) := fun b o e => hidT_get (KX b o e) (Hn b (fun q => by rw [q, ka] at e; cases e) fun m => by
    obtain ⟨p, hp, q⟩ := ofT b m
    rw [← q, (hT p hp).2.2] at e
    cases e)
  have hM : L2.Mod K mg (hidT s.heap H) := ⟨kb, keepNs hns, ⟨mb, keepNs hb, hbb⟩, let ⟨mc, h1, h2⟩ := hlim; ⟨mc, keepNs h1, h2⟩⟩
  have gT : mainGlobals ∉ ts := fun m => by
    obtain ⟨o, es, ep, e, hd, _⟩ := hns
    rw [objT _ m] at e
    cases e
    cases hd
  have TB : ∀ p ∈ cs, LamX.TabB (hidT s.heap H) mg p.1 p.2 := fun p hp => by
    refine ⟨?_, ?_, fun z => gT (z ▸ inT p hp)⟩
    · obtain ⟨o, us, file, tf, flags, tg, inF, text, tt, e1, r1, r2, r3, r⟩ := (hT p hp).1
      refine ⟨o, us, file, tf, flags, tg, inF, text, tt, hidT_get e1 (out e1 (by rw [r2]; exact fun z => by cases z) ?_), r1, r2, r3, r⟩
      rw [r2]
      intro z
      cases z
      simp at r3
    · obtain ⟨bm, ob, b1, b2, b3, b4, b5, b6⟩ := hbm
      refine ⟨bm, ob, b1, b2, fun q => ?_, fun q => ?_, hidT_get b3 (out b3 (by rw [b6]; exact fun z => by cases z) (by rw [b6]; exact fun z => by cases z)), b4, b5, b6⟩
      · obtain ⟨o, es, ep, e, hd, _⟩ := hns
        rw [q, e] at b3
        cases b3
        rw [hd] at b6
        cases b6
      · rw [q, (hT p hp).2.1] at b3
        cases b3
        cases b6
  have e0 : Env0 P w K mg (hidT s.heap H) callerA [] s H := ⟨rfl, hM, fun b o e => of_hidT e, Nat.le_of_eq (hidT_size _ _), trivial, fun b hb => absurd (show b ∈ ([] : List Addr) from hb) (by simp), hok, .of_eq hg⟩
  refine codeAny_mono ((F _ kb (keepNs hns) TB).run callerA [] s H ⟨[.ref a], []⟩ [.ref a] [.ref a] _ _ hr e0 (hbind s (.ref a)) (.cons rfl .nil) (hsp H (fun p hp => Ht _ (inT p hp)) ⟨_, Ha⟩)) fun r s' h => ?_
  cases r with
  | error e => exact (hCX H e s' h).elim
  | ok fl =>
    cases fl with
    | ret u =>
      obtain ⟨v, H', os, bare, un, hok', r', q⟩ := h
      obtain rfl : v = .bl true := q
      obtain rfl : u = Value.bool true := r'
      have old : ∀ b o, b ∉ ts → s.heap.get? b = some o → s'.heap.get? b = some o := fun b o m e => by
        by_cases q : b = a
        · subst q
          rw [ha] at e
          cases e
          exact (hok' b _ (un.frzs b _ _ Ha)).1
        · exact un.keep b o e (Hn b q m) (by intro z; exact absurd (show b ∈ ([] : List Addr) from z) (by simp)) (by simp)
      have new : ∀ b ∈ ts, ∃ more : Array Value, s'.heap.get? b = some { cls := .none, data := .fields more } := fun b m => by
        obtain ⟨more, z⟩ := un.tbls b #[] (Ht b m)
        exact ⟨_, hok' b _ z⟩
      refine ⟨rfl, ⟨fun b o e => ?_, fun b o e => ?_⟩, os, bare⟩
      · by_cases m : b ∈ ts
        · obtain ⟨more, hm⟩ := new b m
          obtain ⟨p, hp, rfl⟩ := ofT b m
          rw [(hT p hp).2.1] at e
          cases e
          exact .inr (.inl ⟨((hT p hp).1.tab (hT p hp).2.1).isCodeTable, rfl, #[], more, rfl, by rw [Array.empty_append]; exact hm⟩)
        · exact .inl (old b o m e)
      · by_cases m : b ∈ ts
        · obtain ⟨more, hm⟩ := new b m
          exact ⟨_, hm⟩
        · exact ⟨o, old b o m e⟩
    | next => exact False.elim h
    | brk => exact False.elim h
    | cont => exact False.elim h
end Ev

set_option Elab.async false
set_option linter.all false
set_option maxRecDepth 100000
set_option maxHeartbeats 2000000
/-! a list walked to its end while an exception is handled -/
namespace EvHot
open PySem PySem.Spec PyProof.Rows HotX
variable {prog : Program} {w : World} {A : Around} {E : Value → Shared → Prop} {s : Shared}
theorem list_end_hot {it l x1 : Addr} {i : Nat} {items : Array Value} {Q : Option Value → Shared → Prop} (hot : HotAt A x1 s.heap) (hne : x1 ≠ it)
    (hit : s.heap.IsListIter it l i) (hl : s.heap.IsList l items) (hx : items[i]? = none)
    (hQ : ∀ h', Heap.ExtBut it s.heap h' → Q none { s with heap := h' }) : wpAny (model prog w) A (pyNext (.ref it)) Q E s := by
  obtain ⟨hh, o1, vs1, h1, d1, c1⟩ := hot
  obtain ⟨o, ho, hc, hd⟩ := id hit
  obtain ⟨ol, hol, _, nl, hdl⟩ := hl
  unfold pyNext
  refine wpAny_bind (wpAny_attempt (wpAny_callSpecial?_slot (name := Str.ofString "__next__") hit.typeIs slot_listiter_next
    (wpAny_call_entry slot_listiter_next hit.typeIs entry_listiter_next ?_ (args_listiter_next _))))
  show wpAny _ _ (field (.ref it) 0 >>= _) _ _ s
  refine wpAny_bind (wpAny_field ho hd (x := .ref l) rfl ?_)
  show wpAny _ _ (if (Value.ref l == Value.none) = true then _ else _) _ _ s
  rw [if_neg (show ¬ ((Value.ref l == Value.none) = true) from Bool.false_ne_true)]
  show wpAny _ _ (field (.ref it) 1 >>= _) _ _ s
  refine wpAny_bind (wpAny_field ho hd (x := .int i 0) rfl ?_)
  show wpAny _ _ (seqItems? (.ref l) >>= _) _ _ s
  refine wpAny_bind (wpAny_seqItems hol hdl ?_)
  simp only [Int.toNat_natCast, hx]
  refine wpAny_bind (wpAny_rule (wpAny_bind (wpAny_setField ho hd (by simp) ?_)))
  have h1u : (s.heap.update it (Obj.mapFields (·.setIfInBounds 0 .none))).get? x1 = some o1 := by
    rw [Heap.get?_update_other _ _ hne.symm]; exact h1
  show wpAny _ _ (newExc (.type "StopIteration") [] >>= _) _ _ _
  refine wpAny_bind ?_
  simp only [newExc, newTuple]
  refine wpAny_bind (wpAny_newObj_type ?_ (by size_fits))
  refine wpAny_bind (m := firstArgMember _ _) (wpAny_of_eq (a := Value.none) (by first | rfl | (simp only [firstArgMember]; rfl)) ?_)
  refine wpAny_newObj_type ?_ (by size_fits)
  refine raiseNew_hot ⟨hh, o1, vs1, Heap.get?_push_of_some _ (Heap.get?_push_of_some _ h1u), d1, c1⟩ (Nat.ne_of_lt (Heap.lt_size (Heap.get?_push_of_some _ h1u))) (Heap.get?_push_size _ rfl) rfl (by first | (simp; done) | (simp; omega) | (simp only [Array.size_append]; simp; omega)) ?_
  refine wpAny_bind (wpAny_isInstance (T := "StopIteration") (b := true) ⟨_, Heap.get?_update_self _ (Heap.get?_push_size _ rfl) rfl, rfl⟩ isSubtype_stop ?_)
  refine wpAny_pure (hQ _ fun b o hb e => ?_)
  have e2 : (s.heap.update it (Obj.mapFields (·.setIfInBounds 0 .none))).get? b = some o := by
    rw [Heap.get?_update_other _ _ (Ne.symm hb)]; exact e
  rw [Heap.get?_update_other _ _ (Nat.ne_of_gt (Heap.lt_size (Heap.get?_push_of_some _ e2)))]
  exact Heap.get?_push_of_some _ (Heap.get?_push_of_some _ e2)
end EvHot

set_option Elab.async false
set_option linter.all false
set_option maxRecDepth 100000
set_option maxHeartbeats 2000000
namespace EvHot
open PySem PySem.Spec PyProof.Rows HotX L2 L2H
theorem turn_listH {P : Program} {w : World} {K : PySem.W.Frag} {tg : Expr} (a it : Addr) : TurnH P w K tg (Itl K a) [it] it (fun i h => h.IsListIter it a i) where
  mem := by simp
  obj := (turn_list (P := P) (w := w) (K := K) (tg := tg) a it).obj
  keep := (turn_list (P := P) (w := w) (K := K) (tg := tg) a it).keep
  item := by
    intro X hP hw hK hc i pins s σ H E I hf st hg
    subst hP hw hK
    obtain ⟨xs, x, hq, hx⟩ := hg
    obtain ⟨its, rv, p, hz⟩ := I.list hq
    obtain ⟨u, hu, ru⟩ := rv.get hx
    obtain ⟨f0, f1, f2, f3, f4, f5⟩ := hf it (by simp)
    refine wpAny_pyNext_list_item st p.isList (x := u) (by simpa using hu) fun h' st' sb => ?_
    have I1 : Inv X pins σ H { s with heap := h' } := I.turned (t' := s.toks) (fun b o hb e => (sb.2 b hb).trans e) f0 f1 f3 f4 f5
    obtain ⟨o, e, c, d⟩ := id st'
    exact ⟨u, rfl, go_of (s := { s with heap := h' }) e c d (by decide) ⟨x, H, I1, ru, ⟨rfl, fun ys hy => by rw [I.list_inj hy hq]; exact hx⟩, st', fun b hb => (hf b hb).1⟩⟩
  done := by
    intro X hP hw hK hc i pins s σ H E I hf st hg
    subst hP hw hK
    obtain ⟨xs, hq, hx⟩ := hg
    obtain ⟨its, rv, p, hz⟩ := I.list hq
    obtain ⟨f0, f1, f2, f3, f4, f5⟩ := hf it (by simp)
    have hl := rv.length
    obtain ⟨pp, ⟨hh, v1, e1, c1⟩, hp⟩ := hc
    have hne : pp.1 ≠ it := f5 pp (List.mem_append_left _ hp)
    exact list_end_hot ⟨hh, pp.2, v1, (I.pin pp (List.mem_append_left _ hp)).1, e1, c1⟩ hne st p.isList (by simp; omega) fun h' eb => ⟨rfl, I.turned (t' := s.toks) (fun b o hb e => eb b o hb e) f0 f1 f3 f4 f5⟩
  self := fun _ _ _ _ _ st h => wpAny_pyIter_listiter st h
end EvHot

set_option Elab.async false
set_option linter.all false
set_option maxRecDepth 100000
set_option maxHeartbeats 2000000
namespace EvHot
open PySem PySem.Spec PyProof.Rows HotX L2 L2H
/-- a comprehension's block, the handled exception kept in sight -/
abbrev blkH (X : Cx) (s : Shared) (H : Hp) (scope : Scope) (cenv : Env) (fp : List Addr) (p : Addr × Obj) : Cx := { X.blk s H scope cenv fp with pn := [p] }
section
variable {X : Cx} {pins : List (Addr × Obj)} {σ : L2.St} {H : Hp} {s : Shared}
theorem ok_blkH {s0 : Shared} {H0 : Hp} {scope : Scope} {ce : Env} {fp : List Addr} {p : Addr × Obj} (ok : (X.blk s0 H0 scope ce fp).Ok) : (blkH X s0 H0 scope ce fp p).Ok :=
  ⟨ok.mod, ok.kind, ok.glob, ok.blt, ok.above, ok.inj, ok.has, ok.cab, ok.hd, ok.frames, ok.stk, ok.exf, ok.bs, ok.bsz, ok.noex, ok.exfs, ok.funs, ok.frf⟩
theorem inv_blkH {s0 : Shared} {H0 : Hp} {scope : Scope} {ce : Env} {fp : List Addr} {p : Addr × Obj} (I : Inv (X.blk s0 H0 scope ce fp) pins σ H s)
    (hp : s.heap.get? p.1 = some p.2 ∧ H p.1 = none ∧ p.1 ≠ ce.locals ∧ p.1 ∉ frs X.stack ∧ ∀ v, p.2.data ≠ .cell v) : Inv (blkH X s0 H0 scope ce fp p) pins σ H s :=
  ⟨ok_blkH I.ok, I.os, I.bare, I.base, I.loc, I.cell, I.free, I.freeC, fun q hq => by
    rcases List.mem_cons.mp (show q ∈ p :: pins from hq) with rfl | hq
    · exact hp
    · exact I.pin q hq, I.hok, I.len⟩
theorem inv_unblkH {s0 : Shared} {H0 : Hp} {scope : Scope} {ce : Env} {fp : List Addr} {p : Addr × Obj} (I : Inv (blkH X s0 H0 scope ce fp p) pins σ H s) : Inv (X.blk s0 H0 scope ce fp) pins σ H s :=
  ⟨⟨I.ok.mod, I.ok.kind, I.ok.glob, I.ok.blt, I.ok.above, I.ok.inj, I.ok.has, I.ok.cab, I.ok.hd, I.ok.frames, I.ok.stk, I.ok.exf, I.ok.bs, I.ok.bsz, I.ok.noex, I.ok.exfs, I.ok.funs, I.ok.frf⟩, I.os, I.bare, I.base, I.loc, I.cell, I.free, I.freeC, fun q hq => I.pin q (List.mem_cons_of_mem p (show q ∈ pins from hq)), I.hok, I.len⟩
/-- the handled exception is no caller's frame -/
theorem pin_stack {p : Addr × Obj} (I : Inv X pins σ H s) (hp : p ∈ X.pn) : p.1 ∉ frs X.stack := by
  obtain ⟨_, _, h3, h4, _⟩ := I.pin p (List.mem_append_left _ hp)
  rcases I.ok.stk with e | ⟨e, f⟩
  · rw [e]; exact h4
  · rw [e]
    intro z
    unfold frs at z
    rw [List.filterMap_cons, f] at z
    rcases List.mem_cons.mp z with z | z
    · exact h3 z
    · exact h4 z
end
end EvHot

set_option Elab.async false
set_option linter.all false
set_option maxRecDepth 100000
set_option maxHeartbeats 2000000
namespace EvHot
open PySem PySem.Spec PyProof.Rows HotX L2 L2H
section
variable {prog : Program} {w : World} {A : Around} {E : Value → Shared → Prop} {s : Shared}
theorem tuple_end_hot {it t x1 : Addr} {i : Nat} {items : Array Value} {Q : Option Value → Shared → Prop} (hot : HotAt A x1 s.heap) (hne : x1 ≠ it)
    (hit : IsTupIter s.heap it t i) (ht : IsTup s.heap t items) (hx : items[i]? = none)
    (hQ : ∀ h', Heap.ExtBut it s.heap h' → Q none { s with heap := h' }) : wpAny (model prog w) A (pyNext (.ref it)) Q E s := by
  obtain ⟨hh, o1, vs1, h1, d1, c1⟩ := hot
  obtain ⟨o, ho, hc, hd⟩ := id hit
  obtain ⟨ol, hol, _, nl, hdl⟩ := ht
  unfold pyNext
  refine wpAny_bind (wpAny_attempt (wpAny_callSpecial?_slot (name := Str.ofString "__next__") hit.typeIs slot_tupleiter_next
    (wpAny_call_entry slot_tupleiter_next hit.typeIs entry_tupleiter_next ?_ (args_tupleiter_next _))))
  show wpAny _ _ (field (.ref it) 0 >>= _) _ _ s
  refine wpAny_bind (wpAny_field ho hd (x := .ref t) rfl ?_)
  show wpAny _ _ (if (Value.ref t == Value.none) = true then _ else _) _ _ s
  rw [if_neg (show ¬ ((Value.ref t == Value.none) = true) from Bool.false_ne_true)]
  show wpAny _ _ (field (.ref it) 1 >>= _) _ _ s
  refine wpAny_bind (wpAny_field ho hd (x := .int i 0) rfl ?_)
  show wpAny _ _ (seqItems? (.ref t) >>= _) _ _ s
  refine wpAny_bind (wpAny_seqItems hol hdl ?_)
  simp only [Int.toNat_natCast, hx]
  refine wpAny_bind (wpAny_rule (wpAny_bind (wpAny_setField ho hd (by simp) ?_)))
  have h1u : (s.heap.update it (Obj.mapFields (·.setIfInBounds 0 .none))).get? x1 = some o1 := by
    rw [Heap.get?_update_other _ _ hne.symm]; exact h1
  show wpAny _ _ (newExc (.type "StopIteration") [] >>= _) _ _ _
  refine wpAny_bind ?_
  simp only [newExc, newTuple]
  refine wpAny_bind (wpAny_newObj_type ?_ (by size_fits))
  refine wpAny_bind (m := firstArgMember _ _) (wpAny_of_eq (a := Value.none) (by first | rfl | (simp only [firstArgMember]; rfl)) ?_)
  refine wpAny_newObj_type ?_ (by size_fits)
  refine raiseNew_hot ⟨hh, o1, vs1, Heap.get?_push_of_some _ (Heap.get?_push_of_some _ h1u), d1, c1⟩ (Nat.ne_of_lt (Heap.lt_size (Heap.get?_push_of_some _ h1u))) (Heap.get?_push_size _ rfl) rfl (by first | (simp; done) | (simp; omega) | (simp only [Array.size_append]; simp; omega)) ?_
  refine wpAny_bind (wpAny_isInstance (T := "StopIteration") (b := true) ⟨_, Heap.get?_update_self _ (Heap.get?_push_size _ rfl) rfl, rfl⟩ isSubtype_stop ?_)
  refine wpAny_pure (hQ _ fun b o hb e => ?_)
  have e2 : (s.heap.update it (Obj.mapFields (·.setIfInBounds 0 .none))).get? b = some o := by
    rw [Heap.get?_update_other _ _ (Ne.symm hb)]; exact e
  rw [Heap.get?_update_other _ _ (Nat.ne_of_gt (Heap.lt_size (Heap.get?_push_of_some _ e2)))]
  exact Heap.get?_push_of_some _ (Heap.get?_push_of_some _ e2)
theorem unpackItems_hot {t x1 : Addr} {items : Array Value} {Q : List Value → Shared → Prop} (hot : HotAt A x1 s.heap) (ht : IsTup s.heap t items)
    (hQ : ∀ h', Heap.ExtBut s.heap.objs.size s.heap h' → Q items.toList { s with heap := h' }) : wpAny (model prog w) A (unpackItems (.ref t) items.size none) Q E s := by
  have hlt : t ≠ s.heap.objs.size := by obtain ⟨o, ho, _⟩ := ht; exact Nat.ne_of_lt (Heap.lt_size ho)
  obtain ⟨hh, o1, vs1, h1, d1, c1⟩ := hot
  have hx1 : x1 ≠ s.heap.objs.size := Nat.ne_of_lt (Heap.lt_size h1)
  unfold unpackItems
  refine wpAny_bind ?_
  · unfold notIterableAtAll
    refine wpAny_bind (wpAny_specialOf ht.typeIs slot_tuple_iter.lookup ?_)
    refine wpAny_pure ?_
    simp only [Bool.false_eq_true, if_false]
    refine wpAny_bind (wpAny_holding (iter_tuple ht ?_))
    refine wpAny_bind (wpAny_holding (draw_tuple hlt items.size 0 _ _ ⟨_, Heap.get?_push_size _ rfl, rfl, rfl⟩ (ht.push _) (by omega) fun h₁ hit₁ hs₁ => ?_))
    have hall : List.take items.size (List.drop 0 items.toList) = items.toList := by
      rw [List.drop_zero]; exact List.take_of_length_le (by simp)
    rw [hall]
    rw [if_neg (by simp)]
    have ht₁ : IsTup h₁ t items := (ht.push _).extBut hs₁.extBut hlt
    have hot₁ : HotAt A x1 h₁ := ⟨hh, o1, vs1, hs₁.extBut x1 o1 hx1 (Heap.get?_push_of_some _ h1), d1, c1⟩
    refine wpAny_bind (wpAny_holding (tuple_end_hot hot₁ hx1 hit₁ ht₁ (by simp) fun h₂ he₂ => ?_))
    simp only [Option.isSome_none, Bool.false_eq_true, if_false]
    refine wpAny_pure (hQ h₂ fun b o hb e => he₂ b o hb (hs₁.extBut b o hb (Heap.get?_push_of_some _ e)))
theorem unpack_hot {t x1 : Addr} {items : Array Value} {targets : List (Bool × (Value → Sem Unit))} {Q : Unit → Shared → Prop} (hot : HotAt A x1 s.heap) (ht : IsTup s.heap t items)
    (hn : targets.length = items.size) (hstar : targets.findIdx? (·.1) = none)
    (h : ∀ h', Heap.ExtBut s.heap.objs.size s.heap h' → wpAny (model prog w) A (assignInOrder (targets.map (·.2)) items.toList) Q E { s with heap := h' }) :
    wpAny (model prog w) A (unpack (.ref t) targets) Q E s := by
  unfold unpack
  rw [hn, hstar]
  exact wpAny_bind (wpAny_holding (unpackItems_hot hot ht h))
end
section
variable {X : Cx} {pos : Pos}
theorem pg_tupH {es : List Expr} {k : Nat} {t : TGs} {n : Nat} (hc : HotC X) (h : PGs X es t)
    (hn : (assignEach es X.env).length = n := by rfl) (hst : (assignEach es X.env).findIdx? (·.1) = none := by rfl) : PG X (.Tuple es k pos) (gTup X.K n t) := by
  refine ⟨fun pins s σ H v u Q I r hw => ?_⟩
  obtain ⟨a, xs, e1, hq, hl, hw⟩ := hw
  subst e1
  cases r
  obtain ⟨its, rv, ht, hz⟩ := I.tuple hq
  obtain ⟨x1, hot⟩ := hc.at I
  rw [assign_Tuple]
  refine wpAny_bind (wpAny_standAt (unpack_hot hot ht (by simp [hn, ← hl, rv.length]) hst fun h' hx => ?_))
  have I1 : Inv X pins σ H { s with heap := h' } := I.kept (t' := s.toks) fun b o e => hx b o (Nat.ne_of_lt (Heap.lt_size e)) e
  exact h.run pins _ σ H xs _ Q I1 (by simpa using rv) hw
end
end EvHot

set_option Elab.async false
set_option linter.all false
set_option maxRecDepth 100000
set_option maxHeartbeats 2000000
namespace EvHot
open PySem PySem.Spec PyProof.Rows HotX L2 L2H
section
variable {X : Cx} {tg : Expr}
theorem pi_listH {l : Expr} {tl : TE} (hl : PE X l tl) : PIH X tg l (iList X.K tl) := by
  constructor
  intro pins s σ H R I h
  refine thn (hl.run pins s σ H _ I h) fun v s1 ⟨x, H1, I1, r1, a, e, ⟨xs, hq⟩, q⟩ => ?_
  subst e
  cases r1
  have I2 := fun (o : Obj) => I1.kept (t' := s1.toks) (h' := s1.heap.push o) fun b o' e' => Heap.get?_push_of_some _ e'
  obtain ⟨its, rv, p, hz⟩ := I1.list hq
  refine wpAny_pyIter_list p.isList ⟨s1.heap.objs.size, [s1.heap.objs.size], _, _, H1, rfl, I2 _, turn_listH a _, ⟨_, Heap.get?_push_size _ rfl, rfl, rfl⟩, fun b hb => ?_, q⟩
  rw [List.mem_singleton.mp hb]
  exact I1.fpOk (Nat.le_refl _) (I1.hok.fresh (Nat.le_refl _))
end
end EvHot

set_option Elab.async false
set_option linter.all false
set_option maxRecDepth 100000
set_option maxHeartbeats 2000000
/-! a list comprehension while an exception is handled -/
namespace EvHot
open PySem PySem.Spec PyProof.Rows HotX L2 L2H
section
variable {X : Cx} {pins : List (Addr × Obj)} {s : Shared} {σ : L2.St} {H : Hp} {Q : VK} {elt tg iter : Expr} {ifs : List Expr} {scope : Scope} {own : List (Str × Nat)} {pos pos' : Pos} {wi : TI} {g : TG} {tt : TT} {te : TE} {use : Option (Value → Sem Unit)} {Qf : Value → Shared → Prop} {p : Addr × Obj}
abbrev BG (X : Cx) (p : Addr × Obj) (scope : Scope) (tg : Expr) (g : TG) : Prop := ∀ (s : Shared) (H : Hp) (C : Addr) (cl : List (Str × Addr)) (fp : List Addr), PG (blkH X s H scope (compEnvC scope cl C X.env) fp p) tg g
abbrev BT (X : Cx) (p : Addr × Obj) (scope : Scope) (ifs : List Expr) (tt : TT) : Prop := ∀ (s : Shared) (H : Hp) (C : Addr) (cl : List (Str × Addr)) (fp : List Addr), PTs (blkH X s H scope (compEnvC scope cl C X.env) fp p) ifs tt
abbrev BE (X : Cx) (p : Addr × Obj) (scope : Scope) (elt : Expr) (te : TE) : Prop := ∀ (s : Shared) (H : Hp) (C : Addr) (cl : List (Str × Addr)) (fp : List Addr), PE (blkH X s H scope (compEnvC scope cl C X.env) fp p) elt te
theorem lc_hot (hot : Hot1 X.A p) (hp : p ∈ X.pn) (hN : X.N.Nodup) (I : Inv X pins σ H s) (hi : PIH X tg iter wi) (ok : BlkOk X.N X.env.scope scope own)
    (hg : BG X p scope tg g) (ht : BT X p scope ifs tt) (he : BE X p scope elt te) (hs : ∀ x, foldedSetIterable iter X.env x = pure x)
    (h : tLc wi g tt te (own.map (·.2)) σ H Q)
    (back : ∀ D C s' m H', Inv X pins σ H' s' → Q (.ref D) H' → s'.heap.Ns C m → FpOk X pins H' C → compPost (model X.prog X.w) X.A X.xe use Qf (.ref D) C (.ok .next) s') :
    wpAny (model X.prog X.w) X.A (comprehension (.ListComp elt [⟨tg, iter, ifs, 0⟩] scope pos) scope X.env pos' (newList []) false (eval iter X.env) use) Qf X.xe s := by
  have fr : ∀ z ∈ scope.names, z.2 = .free → ∃ c, X.env.cells.lookup z.1 = some c := fun z hz e => (ok.free z hz e).elim (fun k => I.ok.has _ (.inl k)) fun k => I.ok.has _ (.inr k)
  refine wpAny_comprehension_free (use := use) rfl hs (closure_ok fr) ok.kind (fun y hy e => by rw [ok.uniq y hy, e]) (thn (hi.run pins s σ H _ I h) fun xv s1 hx => thn hx fun itv s2 h2 => ?_)
  obtain ⟨it, fp, tn, J, HA, rfl, IA, T, t0, fA, q⟩ := h2
  refine wpAny_newObj_type (newEnv_comp ?_) (by show 0 ≤ sizeLine; decide)
  generalize hD : s2.heap.objs.size = D
  have freshD : HA D = none := IA.hok.fresh (Nat.le_of_eq hD)
  obtain ⟨W, ⟨m0, w0⟩, turn⟩ := q D freshD
  generalize hB : ({ s2 with heap := s2.heap.push { cls := .type "list", data := .seq ([] : List Value).toArray } } : Shared) = sB
  have heapB : sB.heap = s2.heap.push { cls := .type "list", data := .seq ([] : List Value).toArray } := by rw [← hB]
  have growB : ∀ b o, s2.heap.get? b = some o → sB.heap.get? b = some o := fun b o e => by rw [heapB]; exact Heap.get?_push_of_some _ e
  have IB : Inv X pins σ (upd HA D (.lst [])) sB := by
    rw [← hB]
    refine IA.laid (t' := s2.toks) (fun b o e => Heap.get?_push_of_some _ e) (Nat.le_of_eq hD) ⟨Nat.zero_le _, [], 0, .nil, ?_⟩
    rw [← hD]
    exact Heap.get?_push_size _ rfl
  have fB : ∀ b ∈ fp, FpOk X pins (upd HA D (.lst [])) b ∧ b < sB.heap.objs.size := fun b hb => by
    obtain ⟨o, e, _⟩ := T.obj _ _ t0 b hb
    have lt := Heap.lt_size e
    exact ⟨⟨by rw [upd_ne (by rw [← hD]; exact Nat.ne_of_lt lt)]; exact (fA b hb).1, (fA b hb).2⟩, by rw [heapB, Heap.size_push]; exact Nat.lt_succ_of_lt lt⟩
  have tB : tn 0 sB.heap := T.keep _ _ _ t0 fun b _ o e => growB b o e
  have IC0 := block_start IB ok hN fB
  have pinB := IB.pin p (List.mem_append_left _ hp)
  have stkB := pin_stack IB hp
  have aG := hg sB (upd HA D (.lst [])) sB.heap.objs.size (cellsFrom (sB.heap.objs.size + 1) scope.names (cloFrom X.env.cells scope.names [])) fp
  have aT := ht sB (upd HA D (.lst [])) sB.heap.objs.size (cellsFrom (sB.heap.objs.size + 1) scope.names (cloFrom X.env.cells scope.names [])) fp
  have aE := he sB (upd HA D (.lst [])) sB.heap.objs.size (cellsFrom (sB.heap.objs.size + 1) scope.names (cloFrom X.env.cells scope.names [])) fp
  show codeAny _ _ (.compStart (.ListComp elt [⟨tg, iter, ifs, 0⟩] scope pos) 0 (.ref it) (.ref D) (compEnvC scope (cellsFrom (sB.heap.objs.size + 1) scope.names (cloFrom X.env.cells scope.names [])) sB.heap.objs.size X.env)) (compPost (model X.prog X.w) X.A X.xe use Qf (.ref D) sB.heap.objs.size) { sB with heap := pushCells (sB.heap.push { cls := .type "dict", data := .dict #[] }) scope.names }
  generalize hce : compEnvC scope (cellsFrom (sB.heap.objs.size + 1) scope.names (cloFrom X.env.cells scope.names [])) sB.heap.objs.size X.env = ce at IC0 aG aT aE ⊢
  have cL : ce.locals = sB.heap.objs.size := by subst hce; rfl
  generalize hHB : upd HA D (.lst []) = HB at IB IC0 aG aT aE w0 fB pinB
  generalize hC : ({ sB with heap := pushCells (sB.heap.push { cls := .type "dict", data := .dict #[] }) scope.names } : Shared) = sC at IC0 ⊢
  have growC : ∀ b o, sB.heap.get? b = some o → sC.heap.get? b = some o := fun b o e => by rw [← hC]; exact pushCells_keeps _ _ _ _ (Heap.get?_push_of_some _ e)
  have tC : tn 0 sC.heap := T.keep _ _ _ tB fun b _ o e => growC b o e
  have IC : Inv (blkH X sB HB scope ce fp p) [] (wipe σ (own.map (·.2))) HB sC := inv_blkH IC0 ⟨growC _ _ pinB.1, pinB.2.1, by rw [cL]; exact Nat.ne_of_lt (Heap.lt_size pinB.1), stkB, pinB.2.2.2.2⟩
  have hotB : HotC (blkH X sB HB scope ce fp p) := ⟨p, hot, List.mem_singleton.mpr rfl⟩
  have fpH : ∀ {σ' : L2.St} {H' : Hp} {s' : Shared}, Inv (blkH X sB HB scope ce fp p) [] σ' H' s' → (∀ b ∈ fp, H' b = none) → ∀ b ∈ fp, FpOk (blkH X sB HB scope ce fp p) [] H' b := fun {σ' H' s'} I' hn b hb =>
    ⟨hn b hb, (I'.ok.exf b hb).1, I'.ok.exfs b hb, .inl hb, fun x c e => (I'.ok.exf b hb).2 x c e, fun q hq => by
      obtain rfl : q = p := by simpa using hq
      exact (fB b hb).1.2.2.2.2.2 q (List.mem_append_left _ hp)⟩
  have loop : codeAny (model X.prog X.w) X.A (.compLoop (.ListComp elt [⟨tg, iter, ifs, 0⟩] scope pos) 0 (.ref it) (.ref D) ce) (compPost (model X.prog X.w) X.A X.xe use Qf (.ref D) sB.heap.objs.size) sC := by
    refine compLoop_any (fun n s' => ∃ i H', Inv (blkH X sB HB scope ce fp p) [] (wipe σ (own.map (·.2))) H' s' ∧ tn i s'.heap ∧ (∀ b ∈ fp, H' b = none) ∧ W i n H') ?_ m0 ⟨0, HB, IC, tC, fun b hb => (fB b hb).1.1, w0⟩
    rintro n s5 ⟨i, H5, I5, t5, n5, w5⟩
    rcases turn i n H5 w5 with ⟨stop, qq⟩ | ⟨go, Nx, hNx, step⟩
    · refine thnF (T.done (blkH X sB HB scope ce fp p) rfl rfl rfl hotB i [] s5 _ H5 (fun _ _ => False) I5 (fpH I5 n5) t5 stop) fun r s6 ⟨hr, I6'⟩ => ?_
      subst hr
      have I6 := inv_unblkH I6'
      have I7 : Inv X pins σ H5 s6 := IB.call' (ch := fp) I6.os I6.base I6.hok I6.bare fun b hb => ⟨(fB b hb).1.2.2.2.1, (fB b hb).1.2.1, (fB b hb).1.2.2.2.2.1, (fB b hb).1.2.2.2.2.2⟩
      have nC : H5 sB.heap.objs.size = none := by
        have z : H5 ce.locals = none := I6.free
        rw [cL] at z
        exact z
      obtain ⟨m, hn, _⟩ := I6.loc
      have hn : s6.heap.Ns ce.locals m := hn
      rw [cL] at hn
      exact back D sB.heap.objs.size s6 m H5 I7 qq hn (IB.fpOk (Nat.le_refl _) nC)
    · refine thnF (T.item (blkH X sB HB scope ce fp p) rfl rfl rfl hotB i [] s5 _ H5 (fun _ _ => False) I5 (fpH I5 n5) t5 go) fun r s6 ⟨u, hr, h6⟩ => ?_
      subst hr
      refine thnF h6 fun _ s7 ⟨x, H7, I7, r7, y7, t7, n7⟩ => ?_
      have I7p := I7.pinned (fpH I7 n7) (T.obj _ _ t7)
      refine thnF (aG.run _ s7 _ H7 x u _ I7p r7 (step x H7 y7)) fun _ s8 ⟨σ8, H8, I8, wp, q8⟩ => ?_
      refine thnF (aT.run _ s8 σ8 H8 _ I8 q8) fun b s9 ⟨H9, I9, q9⟩ => ?_
      have fin : ∀ {s' : Shared} {H' : Hp}, Inv (blkH X sB HB scope ce fp p) ([] ++ pinsAt fp s7.heap) σ8 H' s' → Nx H' → ∃ m, m < n ∧ ∃ i H', Inv (blkH X sB HB scope ce fp p) [] (wipe σ (own.map (·.2))) H' s' ∧ tn i s'.heap ∧ (∀ b ∈ fp, H' b = none) ∧ W i m H' := fun {s' H'} I' nx => by
        obtain ⟨m', hm, w'⟩ := hNx H' nx
        have stay : ∀ b ∈ fp, ∀ o, s7.heap.get? b = some o → s'.heap.get? b = some o ∧ H' b = none := fun b hb o e =>
          ⟨(I'.pin (b, o) (List.mem_append_right _ (List.mem_append_right _ (mem_pinsAt hb e)))).1, (I'.pin (b, o) (List.mem_append_right _ (List.mem_append_right _ (mem_pinsAt hb e)))).2.1⟩
        refine ⟨m', hm, i + 1, H', (I'.unpinned (pins := [])).weak (by rw [← wp, wipe_length]) (fun j v e => ?_), T.keep _ _ _ t7 fun b hb o e => (stay b hb o e).1, fun b hb => ?_, w'⟩
        · rw [← wp] at e
          exact (wipe_some e).1
        · obtain ⟨o, e, _⟩ := T.obj _ _ t7 b hb
          exact (stay b hb o e).2
      cases b with
      | false =>
        rw [if_neg Bool.false_ne_true] at q9 ⊢
        exact fin I9 q9
      | true =>
        rw [if_pos rfl] at q9 ⊢
        refine thnF (aE.run _ s9 σ8 H9 _ I9 q9) fun z s10 ⟨yv, H10, I10, r10, acc, e10, z10, nx⟩ => ?_
        exact app_ok (X := blkH X sB HB scope ce fp p) I10 e10 z10 r10 fun s11 I11 => fin I11 nx
  exact codeAny_compStart_list loop (T.self X.A 0 _ _ _ tC loop)
/-- name = [..] on one line, the name a local -/
theorem ps_setLcH {i : Nat} {y : Str} {py spos : Pos} (hot : Hot1 X.A p) (hp : p ∈ X.pn) (hN : X.N.Nodup) (hy : X.N[i]? = some y) (hyl : X.env.scope.names.lookup y = some .local)
    (hsw : swapsWith (.ListComp elt [⟨tg, iter, ifs, 0⟩] scope pos) (some (.Name y py)) spos.line X.env = pure true) (hi : PIH X tg iter wi) (ok : BlkOk X.N X.env.scope scope own)
    (hg : BG X p scope tg g) (ht : BT X p scope ifs tt) (he : BE X p scope elt te) (hs : ∀ x, foldedSetIterable iter X.env x = pure x := by intro _; rfl) :
    PS X (.Assign [.Name y py] (.ListComp elt [⟨tg, iter, ifs, 0⟩] scope pos) spos) (tAsg (tLc wi g tt te (own.map (·.2))) (gName i)) := by
  refine ⟨fun pins s σ H D I h => ?_⟩
  rw [exec_Assign_Name_used _ _ _ _ hsw]
  refine wpAny_bind (wpAny_standAt (wpAny_bind ?_))
  have h : tLc wi g tt te (own.map (·.2)) σ H (fun x H1 => gName i x σ H1 D.nx) := h
  show wpAny _ X.A (do let _ ← comprehension (.ListComp elt [⟨tg, iter, ifs, 0⟩] scope pos) scope X.env (firstIterPos [⟨tg, iter, ifs, 0⟩] pos) (newList []) false (eval iter X.env) (some (assign (.Name y py) X.env))) _ _ s
  refine wpAny_bind (thn (lc_hot (Qf := fun _ s' => SP X pins D .next s') hot hp hN I hi ok hg ht he hs h fun L C s' m H' I' q hn f => ?_) fun _ s' hq => wpAny_pure (wpAny_pure hq))
  obtain ⟨f0, f1, f2, f3, f4, f5⟩ := f
  show wpAny _ _ (assign (.Name y py) X.env (.ref L)) _ _ _
  refine wpAny_assign_Name (store_ok2 (v := V.ref L) I' hN hy (.inl hyl) rfl (fun s2 I2 ⟨a, sb, ha⟩ => ?_) (.inr hyl))
  have hCa : C ≠ a := ha.elim (fun z => by rw [z]; exact f1) fun z e => f4 y a z e.symm
  exact ⟨m, hn.sameBut sb hCa, fun h3 sb3 => ⟨_, H', I2.turned (t' := s2.toks) (fun b o hb e => (sb3.2 b hb).trans e) f0 f1 f3 f4 f5, q⟩⟩
end
end EvHot

set_option Elab.async false
set_option linter.all false
set_option maxRecDepth 100000
set_option maxHeartbeats 2000000
/-! several clauses 'except C as n' of one try, the exception's context told -/
namespace EvHot
open PySem PySem.Spec PyProof.Rows HotX L2 L2H
abbrev TSx := Addr → Value → Option Addr → TS
/-- the ends behind a suite: the name is unbound -/
def unset (i : Nat) (D : Ends) : Ends := { nx := fun σ' H' => D.nx (σ'.set i none) H', rt := D.rt, bk := fun σ' H' => D.bk (σ'.set i none) H', ct := fun σ' H' => D.ct (σ'.set i none) H' }
def wAll (K : PySem.W.Frag) (i : Nat) (Wo : WX) (D : Ends) : List (Value × TSx) → WX
  | [] => Wo
  | (c, ts) :: r => fun cls d σ H => ∃ b, PySem.W.exmOne K cls c = some b ∧ (b = true → ∀ a, H a = none → ts a cls d (unset i D) (σ.set i (some (.ref a))) H) ∧ (b = false → wAll K i Wo D r cls d σ H)
inductive AsOk (X : Cx) (n : Str) : List ExceptHandler → List (Value × TSx) → Prop
  | nil : AsOk X n [] []
  | cons {x : Str} {c : Value} {ts : TSx} {b₀ : Stmt} {suite : List Stmt} {np pos' : Pos} {hds : List ExceptHandler} {l : List (Value × TSx)} (hc : Names X x c)
      (hsu : ∀ (a : Addr) (oe : Obj) (cls : Value) (d : Option Addr) (pn : List (Addr × Obj)), L2N.Zn cls d oe → (∃ vs, oe.data = .fields vs) → PSs (X.suite a ((a, oe) :: pn)) (b₀ :: suite) (ts a cls d)) (r : AsOk X n hds l) :
      AsOk X n (.ExceptHandler (some (.Name x np)) (some n) (b₀ :: suite) pos' :: hds) ((c, ts) :: l)
section
variable {X : Cx} {n : Str} {i : Nat} {body : List Stmt} {h0 : ExceptHandler} {hds : List ExceptHandler} {l : List (Value × TSx)} {pos : Pos} {tb : WX → TS} {Wo : WX}
theorem ps_try_all (hst : X.stack = X.env :: X.outer) (hfm : X.env.frame = some X.env.locals) (hN : X.N.Nodup) (hi : X.N[i]? = some n) (hln : X.env.kindOf n = some .local) (tk : L2N.Takes X Wo)
    (hb : ∀ (W : WX) (pn : List (Addr × Obj)) (xe : Value → Shared → Prop), L2N.Takes (X.tr pn xe) W → PassesOwn (model X.prog X.w) X.A X.env xe → PSs (X.tr pn xe) body (tb W))
    (hh : AsOk X n (h0 :: hds) l) : PS X (.Try body (h0 :: hds) [] [] pos) (fun D σ H => tb (wAll X.K i Wo D l) D σ H) := by
  refine ⟨fun pins s σ H D I h => ?_⟩
  have ok := I.ok
  have frA : X.A.frames = some (X.env :: X.outer) := by rw [ok.frames, hst]
  have nloc : Loc X.env.scope n := .inl hln
  refine wpAny_Try_except ?_
  refine wpAny_mono ((hb (wAll X.K i Wo D l) (X.pn ++ pins) (fun e s₁ => wpAny (model X.prog X.w) X.A (noteFrame e X.env) (fun _ s₂ => wpAny (model X.prog X.w) X.A (setFlight e none) (fun _ s₃ =>
    wpAny (model X.prog X.w) X.A (handleBy e X.env (h0 :: hds)) (SP X pins D) X.xe s₃) X.xe s₂) X.xe s₁) (fun u s' xx => ?_) PassesOwn.looking).run [] s σ H D (I.toTry _) h) (fun f s1 hsp => ?_) (fun e s1 he => he)
  · obtain ⟨a, B, sI, pins', σ1, H1, cls, d, rfl, J0, nb, up, sky, na, os, ag, wish⟩ := xx
    have J : Inv X pins σ1 H1 sI := J0.ofTry ok
    rw [hst] at sky
    show wpAny (model X.prog X.w) X.A (noteFrame (.ref a) X.env) _ _ _
    refine L2N.Sky.land L2N.Zn.steady frA hfm sky fun h3 fl3 up3 => ?_
    have J3 : Inv X pins σ1 H1 { s' with heap := h3 } := J.landed nb fl3.1 (up.trans up3) os ag
    obtain ⟨oe3, vs3, at3, z3, d3⟩ := fl3.there
    have nfr : a ∉ frs (X.env :: X.outer) := fun hm => by
      obtain ⟨_, o', e', hnf⟩ := fl3.2.2.1.mem hm
      rw [at3] at e'; cases e'
      exact hnf _ d3
    have nL : a ≠ X.env.locals := fun z => nfr (List.mem_filterMap.mpr ⟨X.env, List.mem_cons_self, by rw [hfm, z]⟩)
    have nF : a ∉ X.fs := fun hm => by
      obtain ⟨e, he, q⟩ := List.mem_filterMap.mp hm
      exact nfr (List.mem_filterMap.mpr ⟨e, List.mem_cons_of_mem _ he, q⟩)
    have S3 := J3.suite at3 d3 na nL nF
    have LT : PySem.W.Looks (model X.prog X.w) h3 (typeOf (.ref a)) cls := fun A Q E s k q => wpAny_typeOf_ref (k _ _ at3) (by rw [z3.1]; exact q)
    have clauses : ∀ {hs : List ExceptHandler} {ls : List (Value × TSx)}, AsOk X n hs ls → wAll X.K i Wo D ls cls d σ1 H1 →
        wpAny (model X.prog X.w) X.A (handleBy (.ref a) X.env hs) (SP X pins D) X.xe { s' with heap := h3 } := by
      intro hs ls hk
      induction hk with
      | nil =>
        intro w
        refine wpAny_handleBy_nil ?_
        obtain ⟨k1, k2, k3, oe, vs, T, oT, ts', he, hz, hd, h1, hr⟩ := id fl3
        unfold PySem.passOn
        refine wpAny_bind (wpAny_field he hd h1 ?_)
        rw [if_neg (show ¬ ((Value.ref T == Value.none) = true) from by simp)]
        have out : wpAny (model X.prog X.w) X.A (setFlight (.ref a) X.env.frame) (fun _ s4 => wpAny (model X.prog X.w) X.A (throw (.ref a) : Sem Flow) (SP X pins D) X.xe s4) X.xe { s' with heap := h3 } := by
          rw [hfm]
          exact HandSPX.setFlight_upZ fl3 fun h4 hh4 up4 => wpAny_throw (tk _ _ ⟨a, B, sI, pins, σ1, H1, cls, d, rfl, J, nb, (up.trans up3).trans up4, .inr (.inr (by rw [hst]; exact hh4)), na, os, ag, w⟩)
        first
          | exact wpAny_bind (wpAny_pure (wpAny_bind out))
          | exact wpAny_bind out
      | @cons x c ts b₀ suite np pos' hds2 l2 hc hsu r ih =>
        intro w
        obtain ⟨b, hb1, yes, no⟩ := w
        refine wpAny_handleBy_cons (codeAny_handlers_test ?_) (by intro q; cases q)
        have named : ∀ {Q : Value → Shared → Prop} {E : Value → Shared → Prop}, Q c { s' with heap := h3 } → wpAny (model X.prog X.w) (X.A.mark (some (.ref a))) (eval (.Name x np) X.env) Q E { s' with heap := h3 } := fun {Q E} q => by
          obtain ⟨hg, hdbg, hm | ⟨hm, hv, hnn⟩⟩ := hc
          · exact ld_glob (X := X.suite a ((a, oe3) :: (X.pn ++ pins))) S3 hg hm q hdbg
          · exact ld_blt (X := X.suite a ((a, oe3) :: (X.pn ++ pins))) S3 hg hm hv q hnn hdbg
        refine named ((PySem.W.exm_one (M := model X.prog X.w) J3.kIn LT hb1).here ?_)
        cases b with
        | true =>
          refine codeAny_handlers_suite_as ?_
          refine HandSPX.lands_againZ fl3 fun h4 fl4 up4 => ?_
          have J4 : Inv X pins σ1 H1 { s' with heap := h4 } := J.landed nb fl4.1 ((up.trans up3).trans up4) os ag
          obtain ⟨oe4, vs4, at4, z4, d4⟩ := fl4.there
          refine store_ok (X := X.suite a ((a, oe4) :: (X.pn ++ pins))) (v := .ref a) (J4.suite at4 d4 na nL nF) hN hi nloc rfl (fun s5 S5 => ?_) (.inr hln)
          refine wpAny_mono ((hsu a oe4 cls d (X.pn ++ pins) z4 ⟨_, d4⟩).run [] s5 _ H1 _ S5 (yes rfl a na)) (fun f s6 hsp => ?_) (fun _ _ z => False.elim z)
          have clear : ∀ {σ6 : L2.St} {H6 : Hp} {Q : Shared → Prop}, Inv (X.suite a ((a, oe4) :: (X.pn ++ pins))) [] σ6 H6 s6 → (∀ s7, Inv X pins (σ6.set i none) H6 s7 → Q s7) →
              wpAny (model X.prog X.w) X.A (do bindName X.env n .none; unbindBehindTheSuite X.env n pos') (fun _ s7 => Q s7) X.xe s6 := fun {σ6 H6 Q} S6 hq => gone_ok (S6.unsuite ok) hN hi hln hq
          cases f with
          | ret u =>
            obtain ⟨v6, σ6, H6, S6, r6, q6⟩ := hsp
            exact clear S6 fun s7 J7 => ⟨_, _, _, J7, r6, q6⟩
          | next =>
            obtain ⟨σ6, H6, S6, q6⟩ := hsp
            exact clear S6 fun s7 J7 => ⟨_, _, J7, q6⟩
          | brk =>
            obtain ⟨σ6, H6, S6, q6⟩ := hsp
            exact clear S6 fun s7 J7 => ⟨_, _, J7, q6⟩
          | cont =>
            obtain ⟨σ6, H6, S6, q6⟩ := hsp
            exact clear S6 fun s7 J7 => ⟨_, _, J7, q6⟩
        | false =>
          show wpAny _ X.A (handleBy (.ref a) X.env hds2) _ _ _
          exact ih (no rfl)
    exact clauses hh wish
  · cases f with
    | ret u =>
      obtain ⟨v, σ', H', J', r, q⟩ := hsp
      exact ⟨v, σ', H', J'.ofTry ok, r, q⟩
    | next =>
      obtain ⟨σ', H', J', q⟩ := hsp
      exact wpAny_execs_nil ⟨σ', H', J'.ofTry ok, q⟩
    | brk =>
      obtain ⟨σ', H', J', q⟩ := hsp
      exact ⟨σ', H', J'.ofTry ok, q⟩
    | cont =>
      obtain ⟨σ', H', J', q⟩ := hsp
      exact ⟨σ', H', J'.ofTry ok, q⟩
end
end EvHot

set_option Elab.async false
set_option linter.all false
set_option maxRecDepth 100000
set_option maxHeartbeats 2000000
/-! the suite that tells an error's one class -/
namespace Ev
open PySem PySem.Spec PyProof.Rows HotX L2 L2H EvHot

/-- ("word", isinstance(n, C)) -/
def asTst (n : Str) : Expr → Option (Str × Str)
  | .Tuple [.Constant (.str w) _ _, .Call (.Name f _) [.Name m _, .Name c _] [] _] _ _ => if f = "isinstance" ∧ m = n then some (w, c) else none
  | _ => none
theorem asTst_of {n : Str} {e : Expr} {wc : Str × Str} (h : asTst n e = some wc) : ∃ j p p1 p2 p3 p4 k p5, e = .Tuple [.Constant (.str wc.1) j p, .Call (.Name "isinstance" p1) [.Name n p2, .Name wc.2 p3] [] p4] k p5 := by
  unfold asTst at h
  split at h
  · split at h
    · rename_i e
      obtain ⟨e1, e2⟩ := e
      cases h
      subst e1 e2
      exact ⟨_, _, _, _, _, _, _, _, rfl⟩
    · cases h
  · cases h
def asTsts (n : Str) : List Expr → Option (List (Str × Str))
  | [] => some []
  | e :: es => match asTst n e, asTsts n es with
    | some y, some l => some (y :: l)
    | _, _ => none
/-- what is told of a class -/
def kits (K : PySem.W.Frag) (A : Addr) : List (Str × Str) → Option (List (Str × Bool))
  | [] => some []
  | (w, c) :: r => match PySem.W.kitOne K (.ref A) (.ref (He.ga K c)), kits K A r with
    | some b, some l => some ((w, b) :: l)
    | _, _ => none
def Tups (H : Hp) : List Addr → List (Str × Bool) → Prop := Paired fun p wb => H p = some (.tup [.str wb.1, .bl wb.2])
theorem Tups.same {H H' : Hp} {ps : List Addr} {l : List (Str × Bool)} (h : Tups H ps l) (s : Same H H') : Tups H' ps l := Paired.mapP h fun _ _ x => s _ _ x
theorem Same.refl' (H : Hp) : Same H H := fun _ _ h => h
theorem Same.tr {H H1 H2 : Hp} (a : Same H H1) (b : Same H1 H2) : Same H H2 := fun x o h => b x o (a x o h)
/-- the suite's context: the error at slot 1 -/
structure Su (X : Cx) (n : Str) : Prop where
  i1 : X.N[1]? = some n
  v1 : Vis X.env.scope n
  n1 : nmB n = true
  gi : Gl X "isinstance"
  mi : X.mg "isinstance" = none
section
variable {X : Cx} {n : Str} {a A : Addr} {oe : Obj} {d : Option Addr} {pn : List (Addr × Obj)}
abbrev sY (X : Cx) (a : Addr) (oe : Obj) (pn : List (Addr × Obj)) : Cx := X.suite a ((a, oe) :: pn)
def ClOk (X : Cx) (wc : Str × Str) : Prop := Gl X wc.2 ∧ (wc.2 == ("__debug__" : Str)) = false ∧ X.mg wc.2 = some (.ref (He.ga X.K wc.2))
theorem isi_e (S : Su X n) (EC : ExcC X.K A) (hz : Zc (.ref A) none oe) (hf : ∃ vs, oe.data = .fields vs) {ce : Expr} {cv : V} {cu : Value} (hc : PE (sY X a oe pn) ce (tC cv)) (hcu : ∀ u, RelV cv u → u = cu) (hs : notStar ce = true) {p1 p2 p4 : Pos} :
    PE (sY X a oe pn) (.Call (.Name "isinstance" p1) [.Name n p2, ce] [] p4) (fun σ H Q => σ[1]? = some (some (.ref a)) ∧ ∃ b, PySem.W.kitOne X.K (.ref A) cu = some b ∧ Q (.bl b) H) := by
  obtain ⟨n1, n2, _⟩ := nmB_of S.n1
  refine weak (pe_callB (call_isE (X := X) (pn := pn) EC hz hf) (show Gl (sY X a oe pn) "isinstance" from S.gi) (show (sY X a oe pn).mg "isinstance" = none from S.mi) (by decide +kernel)
    (pa_cons (pe_var (X := sY X a oe pn) (show (sY X a oe pn).N[1]? = some n from S.i1) (show Vis (sY X a oe pn).env.scope n from S.v1) n1 n2) (pa_cons hc pa_nil (star_cons hs)) (star_cons rfl)) (by decide +kernel) (by decide +kernel) (star_cons rfl) (star_any (by rw [List.all_cons, hs]; rfl))) fun σ H Q ⟨h1, b, h2, q⟩ => ?_
  exact ⟨.ref a, h1, ⟨cv, cu, b, rfl, hcu, h2, q⟩⟩
theorem tst_ok (S : Su X n) (EC : ExcC X.K A) (hz : Zc (.ref A) none oe) (hf : ∃ vs, oe.data = .fields vs) {e : Expr} {wc : Str × Str} (he : asTst n e = some wc) (hc : ClOk X wc) :
    PE (sY X a oe pn) e (fun σ H Q => σ[1]? = some (some (.ref a)) ∧ ∃ b, PySem.W.kitOne X.K (.ref A) (.ref (He.ga X.K wc.2)) = some b ∧ ∀ p, H p = none → Q (.ref p) (upd H p (.tup [.str wc.1, .bl b]))) := by
  obtain ⟨j, p, p1, p2, p3, p4, k, p5, rfl⟩ := asTst_of he
  obtain ⟨c1, c2, c3⟩ := hc
  have hz' := sizeLine_eq
  refine weak (pe_tup (pa_cons pe_str (pa_cons (isi_e S EC hz hf (cv := .ref (He.ga X.K wc.2)) (cu := .ref (He.ga X.K wc.2)) (pe_glob (X := sY X a oe pn) c1 c3 rfl c2) (fun u r => r) rfl) pa_nil (star_cons rfl)) (star_cons rfl))) fun σ H Q ⟨h1, b, h2, q⟩ => ?_
  exact ⟨h1, b, h2, by show 2 ≤ sizeLine; omega, q⟩
theorem tsts_ok (S : Su X n) (EC : ExcC X.K A) (hz : Zc (.ref A) none oe) (hf : ∃ vs, oe.data = .fields vs) : ∀ {es : List Expr} {wcs : List (Str × Str)}, asTsts n es = some wcs → (∀ wc ∈ wcs, ClOk X wc) →
    PA (sY X a oe pn) es (fun σ H Q => σ[1]? = some (some (.ref a)) ∧ ∃ l, kits X.K A wcs = some l ∧ ∀ ps H', Same H H' → Tups H' ps l → Q (ps.map V.ref) H')
  | [], wcs, h, _ => weakA pa_nil fun σ H Q ⟨_, l, e, q⟩ => by
    cases h
    cases e
    exact q [] H (Same.refl' H) .nil
  | e :: es, wcs, h, hc => by
    rw [asTsts] at h
    split at h
    · rename_i y l0 e1 e2
      cases h
      have hs : notStar e = true := by obtain ⟨j, p, p1, p2, p3, p4, k, p5, rfl⟩ := asTst_of e1; rfl
      refine weakA (pa_cons (tst_ok S EC hz hf e1 (hc y List.mem_cons_self)) (tsts_ok S EC hz hf e2 fun wc hwc => hc wc (List.mem_cons_of_mem _ hwc)) (star_cons hs)) fun σ H Q ⟨h1, l, e3, q⟩ => ?_
      obtain ⟨w, c⟩ := y
      rw [kits] at e3
      split at e3
      · rename_i b l1 e4 e5
        cases e3
        exact ⟨h1, b, e4, fun p hp => ⟨h1, l1, e5, fun ps H' sm tu => q (p :: ps) H' (Same.tr (Same.new hp) sm) (.cons (sm p _ upd_same) tu)⟩⟩
      · cases e3
    · cases h
theorem asTsts_len {n : Str} : ∀ {es : List Expr} {wcs : List (Str × Str)}, asTsts n es = some wcs → wcs.length = es.length
  | [], wcs, h => by cases h; rfl
  | e :: es, wcs, h => by
    rw [asTsts] at h
    split at h
    · rename_i y l0 e1 e2
      cases h
      rw [List.length_cons, List.length_cons, asTsts_len e2]
    · cases h
theorem kits_len {K : PySem.W.Frag} {A : Addr} : ∀ {wcs : List (Str × Str)} {l : List (Str × Bool)}, kits K A wcs = some l → l.length = wcs.length
  | [], l, h => by cases h; rfl
  | (w, c) :: r, l, h => by
    rw [kits] at h
    split at h
    · rename_i b l1 e4 e5
      cases h
      rw [List.length_cons, List.length_cons, kits_len e5]
    · cases h
/-- [(..), ..] -/
theorem tlist_ok (S : Su X n) (EC : ExcC X.K A) (hz : Zc (.ref A) none oe) (hf : ∃ vs, oe.data = .fields vs) {es : List Expr} {wcs : List (Str × Str)} {pos : Pos} (he : asTsts n es = some wcs) (hc : ∀ wc ∈ wcs, ClOk X wc) (hl : es.length ≤ 100) :
    PE (sY X a oe pn) (.List es pos) (fun σ H Q => σ[1]? = some (some (.ref a)) ∧ ∃ l, kits X.K A wcs = some l ∧ ∀ p ps H', Same H H' → Tups H' ps l → H' p = some (.lst (ps.map V.ref)) → Q (.ref p) H') := by
  refine weak (pe_lst (tsts_ok S EC hz hf he hc)) fun σ H Q ⟨h1, l, e, q⟩ => ?_
  refine ⟨h1, l, e, fun ps H' sm tu => ⟨?_, fun p hp => q p ps _ (Same.tr sm (Same.new hp)) (tu.same (Same.new hp)) upd_same⟩⟩
  have l1 := kits_len e
  have l2 := asTsts_len he
  have l3 : ps.length = l.length := Paired.length tu
  have := sizeLine_eq
  rw [List.length_map]
  omega
end
end Ev

set_option Elab.async false
set_option linter.all false
set_option maxRecDepth 100000
set_option maxHeartbeats 2000000
namespace Ev
open PySem PySem.Spec PyProof.Rows HotX L2 L2H EvHot

/-- the words of those that are so -/
def sel (l : List (Str × Bool)) : List Str := (l.filter (·.2)).map (·.1)
theorem sel_snoc {l : List (Str × Bool)} {i : Nat} {w : Str} {b : Bool} (h : l[i]? = some (w, b)) : sel (l.take (i + 1)) = if b = true then sel (l.take i) ++ [w] else sel (l.take i) := by
  unfold sel
  rw [List.take_succ, h]
  simp only [Option.toList_some, List.filter_append, List.map_append]
  cases b <;> simp
/-- the suite's list, and what stands behind it -/
def tlS (K : PySem.W.Frag) (a A : Addr) (l0 : List (Str × Bool)) (wcs : List (Str × Str)) : TE := fun σ H Q => σ[1]? = some (some (.ref a)) ∧ ∃ p0 ps0, σ[2]? = some (some (.ref p0)) ∧ H p0 = some (.lst (ps0.map V.ref)) ∧ Tups H ps0 l0 ∧ ∃ l, kits K A wcs = some l ∧
  ∀ p ps H', Same H H' → Tups H' ps (l0 ++ l) → H' p = some (.lst (ps.map V.ref)) → Q (.ref p) H'
def asIt (n sm : Str) : Expr → Option (List (Str × Str))
  | .Name x _ => if x = sm then some [] else none
  | .BinOp (.Name x _) .Add (.List es _) _ => if x = sm ∧ es.length ≤ 100 then asTsts n es else none
  | _ => none
theorem tups_app {H : Hp} : ∀ {ps qs : List Addr} {l m : List (Str × Bool)}, Tups H ps l → Tups H qs m → Tups H (ps ++ qs) (l ++ m)
  | [], _, [], _, .nil, h => h
  | _ :: _, _, _ :: _, _, .cons h r, g => .cons h (tups_app r g)
section
variable {X : Cx} {n : Str} {a A : Addr} {oe : Obj} {pn : List (Addr × Obj)}
theorem it_ok (S : Su X n) (EC : ExcC X.K A) (hz : Zc (.ref A) none oe) (hf : ∃ vs, oe.data = .fields vs) {sm : Str} (i2 : X.N[2]? = some sm) (v2 : Vis X.env.scope sm) (n2 : nmB sm = true) {e : Expr} {wcs : List (Str × Str)} (he : asIt n sm e = some wcs) (hc : ∀ wc ∈ wcs, ClOk X wc) (l0 : List (Str × Bool)) (hl0 : l0.length ≤ 100) :
    PE (sY X a oe pn) e (tlS X.K a A l0 wcs) ∧ ∀ x, foldedSetIterable e (sY X a oe pn).env x = pure x := by
  obtain ⟨m1, m2, _⟩ := nmB_of n2
  have hv : ∀ {p : Pos}, PE (sY X a oe pn) (.Name sm p) (tVar 2) := fun {p} => pe_var (X := sY X a oe pn) (show (sY X a oe pn).N[2]? = some sm from i2) (show Vis (sY X a oe pn).env.scope sm from v2) m1 m2
  unfold asIt at he
  split at he
  · split at he
    · rename_i hx
      cases he
      subst hx
      refine ⟨weak hv fun σ H Q ⟨h1, p0, ps0, h2, h3, h4, l, e, q⟩ => ?_, fun x => rfl⟩
      cases e
      exact ⟨_, h2, q p0 ps0 H (Same.refl' H) (by rw [List.append_nil]; exact h4) h3⟩
    · cases he
  · split at he
    · rename_i hx
      obtain ⟨rfl, hl⟩ := hx
      refine ⟨weak (pe_op (X := sY X a oe pn) op_cat hv (tlist_ok S EC hz hf he hc hl)) fun σ H Q ⟨h1, p0, ps0, h2, h3, h4, l, e, q⟩ => ?_, fun x => rfl⟩
      refine ⟨_, h2, h1, l, e, fun p ps H' sm tu hp => ?_⟩
      have z := sizeLine_eq
      have l1 := kits_len e
      have l2 := asTsts_len he
      have l3 : ps.length = l.length := Paired.length tu
      have l4 : ps0.length = l0.length := Paired.length h4
      refine ⟨p0, p, _, _, rfl, rfl, sm _ _ h3, hp, by rw [List.length_map, List.length_map]; omega, fun p' hp' => ?_⟩
      refine q p' (ps0 ++ ps) _ (Same.tr sm (Same.new hp')) (tups_app (h4.same (Same.tr sm (Same.new hp'))) (tu.same (Same.new hp'))) ?_
      rw [upd_same, List.map_append]
    · cases he
  · cases he
/-- what the comprehension's block must be -/
structure Bk (X : Cx) (scope : Scope) (w t : Str) : Prop where
  ok : BlkOk X.N X.env.scope scope [(w, 4), (t, 5)]
  lw : (relS scope X.env.scope).names.lookup w = some .local
  lt : (relS scope X.env.scope).names.lookup t = some .local
  nw : nmB w = true
  nt : nmB t = true
  nd : X.N.Nodup
  i4 : X.N[4]? = some w
  i5 : X.N[5]? = some t
theorem words_ok (S : Su X n) (EC : ExcC X.K A) (hz : L2N.Zn (.ref A) none oe) (hf : ∃ vs, oe.data = .fields vs) {sm ws w t : Str} (i2 : X.N[2]? = some sm) (v2 : Vis X.env.scope sm) (n2 : nmB sm = true) (i3 : X.N[3]? = some ws) (l3 : X.env.scope.names.lookup ws = some .local)
    {scope : Scope} (B : Bk X scope w t) {iter : Expr} {wcs : List (Str × Str)} (he : asIt n sm iter = some wcs) (hc : ∀ wc ∈ wcs, ClOk X wc) (l0 : List (Str × Bool)) (hl0 : l0.length ≤ 100) (hw : wcs.length ≤ 100) {p1 p2 p3 p4 cp py spos : Pos} {kk : Nat}
    (hsw : swapsWith (.ListComp (.Name w p1) [⟨.Tuple [.Name w p2, .Name t p3] kk p4, iter, [.Name t p3], 0⟩] scope cp) (some (.Name ws py)) spos.line X.env = pure true) {t8 : Pos} :
    PS (sY X a oe pn) (.Assign [.Name ws py] (.ListComp (.Name w p1) [⟨.Tuple [.Name w p2, .Name t p3] kk p4, iter, [.Name t t8], 0⟩] scope cp) spos)
      (fun D σ H => σ.length = 6 ∧ σ[1]? = some (some (.ref a)) ∧ ∃ p0 ps0, σ[2]? = some (some (.ref p0)) ∧ H p0 = some (.lst (ps0.map V.ref)) ∧ Tups H ps0 l0 ∧ ∃ l, kits X.K A wcs = some l ∧ ∀ p H', Same H H' → H' p = some (.lst ((sel (l0 ++ l)).map V.str)) → D.nx (σ.set 3 (some (.ref p))) H') := by
  obtain ⟨w1, w2, _⟩ := nmB_of B.nw
  obtain ⟨t1, t2, _⟩ := nmB_of B.nt
  obtain ⟨vs0, hvs⟩ := hf
  have hz' : Zc (.ref A) none oe := hz.zc
  have hot : Hot1 (sY X a oe pn).A (a, oe) := ⟨rfl, vs0, hvs, hz.2.2 vs0 hvs⟩
  obtain ⟨hit, hfold⟩ := it_ok (pn := pn) S EC hz' ⟨vs0, hvs⟩ i2 v2 n2 he hc l0 hl0
  have bn : ∀ {s : Shared} {H : Hp} {C : Addr} {cl : List (Str × Addr)} {fp : List Addr} {y : Str} {i : Nat} {p : Pos}, (relS scope X.env.scope).names.lookup y = some .local → X.N[i]? = some y → nmB y = true → PE (blkH (sY X a oe pn) s H scope (compEnvC scope cl C (sY X a oe pn).env) fp (a, oe)) (.Name y p) (tVar i) := fun {s H C cl fp y i p} hl hi hn => by
    obtain ⟨q1, q2, _⟩ := nmB_of hn
    exact pe_var hi (.inl hl) q1 q2
  have bg : ∀ {s : Shared} {H : Hp} {C : Addr} {cl : List (Str × Addr)} {fp : List Addr} {y : Str} {i : Nat} {p : Pos}, (relS scope X.env.scope).names.lookup y = some .local → X.N[i]? = some y → PG (blkH (sY X a oe pn) s H scope (compEnvC scope cl C (sY X a oe pn).env) fp (a, oe)) (.Name y p) (gName i) := fun {s H C cl fp y i p} hl hi =>
    pg_name B.nd hi (.inl hl) (.inr hl)
  refine weakS (ps_setLcH (X := sY X a oe pn) (own := [(w, 4), (t, 5)]) (g := gTup X.K 2 (gCons (gName 4) (gCons (gName 5) gNil))) (tt := tB (tVar 5)) (te := tVar 4) hot List.mem_cons_self B.nd i3 l3 hsw (pi_listH hit) B.ok
    (fun s H C cl fp => pg_tupH ⟨(a, oe), hot, List.mem_cons_self⟩ (pgs_cons (bg B.lw B.i4) (pgs_cons (bg B.lt B.i5) pgs_nil)))
    (fun s H C cl fp => pts_one (pt_val (bn B.lt B.i5 B.nt)))
    (fun s H C cl fp => bn B.lw B.i4 B.nw) hfold) fun D σ H ⟨h6, h1, p0, ps0, h2, h3, h4, l, e, q⟩ => ?_
  refine ⟨h1, p0, ps0, h2, h3, h4, l, e, fun p ps H1 sm tu hp => ⟨p, rfl, ⟨_, SqL.of hp⟩, fun Dl hD => ?_⟩⟩
  have hlen : ps.length = (l0 ++ l).length := Paired.length tu
  have small : (l0 ++ l).length ≤ 200 := by
    rw [List.length_append]
    have := kits_len e
    omega
  have sz := sizeLine_eq
  refine lc_list (xs := ps.map V.ref) (Qd := fun H' => gName 3 (.ref Dl) σ H' D.nx) (fun i H' => Same H1 H' ∧ H' Dl = some (.lst ((sel ((l0 ++ l).take i)).map V.str))) ⟨Same.new hD, upd_same⟩ (fun i H' _ ⟨s1, _⟩ => SqL.of (s1 _ _ hp)) (fun i x H' hx ⟨s1, s2⟩ => ?_) fun H' ⟨s1, s2⟩ => ?_
  · rw [List.getElem?_map] at hx
    cases hps : ps[i]? with
    | none => rw [hps] at hx; cases hx
    | some q0 =>
      rw [hps] at hx
      cases hx
      obtain ⟨⟨w', b'⟩, hl', ht'⟩ := paired_at tu hps
      refine ⟨q0, _, rfl, SqT.of (s1 _ _ ht'), rfl, _, _, rfl, _, _, rfl, rfl, ?_, ?_⟩
      · exact wipe_off (l := [4, 5]) (fun i hi => hi) ((Off.set (i := 4)).trans (Off.set (i := 5)))
      · have len6 : 5 < (wipe σ [4, 5]).length := by rw [wipe_length, h6]; decide
        refine ⟨.bl b', ?_, b', rfl, ?_⟩
        · rw [List.getElem?_set_self (by rw [List.length_set]; exact len6)]
        · have se := sel_snoc hl'
          cases b' with
          | true =>
            dsimp only
            rw [if_pos rfl] at se ⊢
            refine ⟨.str w', ?_, _, s2, ?_, ?_, ?_⟩
            · rw [List.getElem?_set_ne (by decide)]; exact List.getElem?_set_self (Nat.lt_of_succ_lt len6)
            · rw [List.length_map]
              unfold sel
              rw [List.length_map]
              have f1 := List.length_filter_le (fun (x : Str × Bool) => x.2) ((l0 ++ l).take i)
              rw [List.length_take] at f1
              omega
            · intro b o hb
              rw [upd_ne (fun z => by rw [z, hD] at hb; cases hb)]
              exact s1 b o hb
            · rw [upd_same, se, List.map_append]; rfl
          | false =>
            dsimp only
            rw [if_neg Bool.false_ne_true] at se ⊢
            exact ⟨s1, by rw [se]; exact s2⟩
  · rw [List.length_map, hlen, List.take_length] at s2
    exact q Dl H' (Same.tr sm s1) s2
/-- return ws[0] if len(ws) == 1 and isinstance(n, ValueError) else ".." -/
theorem tell_ok (S : Su X n) (EC : ExcC X.K A) (hz : Zc (.ref A) none oe) (hf : ∃ vs, oe.data = .fields vs) {C : Gc} (hP : X.prog = C.P) (hw : X.w = C.w) (hK : X.K = C.K) {ws odd : Str} (i3 : X.N[3]? = some ws) (v3 : Vis X.env.scope ws) (n3 : nmB ws = true)
    (gl : Gl X "len") (ml : X.mg "len" = none) (gv : Gl X "ValueError") (mv : X.mg "ValueError" = none) {p1 p2 p3 p4 p5 p6 p7 p8 p9 p10 p11 p12 p13 p14 p15 p16 : Pos} {j1 j2 j3 : Nat} :
    PS (sY X a oe pn) (.Return (some (.IfExp (.BoolOp .And [.Compare (.Call (.Name "len" p1) [.Name ws p2] [] p3) [.Eq] [.Constant (.int 1) j1 p4] p5, .Call (.Name "isinstance" p6) [.Name n p7, .Name "ValueError" p8] [] p9] p10) (.Subscript (.Name ws p11) (.Constant (.int 0) j2 p12) p13) (.Constant (.str odd) j3 p14) p15)) p16)
      (fun D σ H => σ[1]? = some (some (.ref a)) ∧ PySem.W.kitOne X.K (.ref A) (.type "ValueError") = some true ∧ ∃ p x, σ[3]? = some (some (.ref p)) ∧ H p = some (.lst [.str x]) ∧ ∀ H', Same H H' → D.rt (.str x) H') := by
  obtain ⟨m1, m2, _⟩ := nmB_of n3
  have hv : ∀ {p : Pos}, PE (sY X a oe pn) (.Name ws p) (tVar 3) := fun {p} => pe_var (X := sY X a oe pn) (show (sY X a oe pn).N[3]? = some ws from i3) (show Vis (sY X a oe pn).env.scope ws from v3) m1 m2
  have h1 : PE (sY X a oe pn) (.Call (.Name "len" p1) [.Name ws p2] [] p3) _ := pe_callB (u_len (X := sY X a oe pn) (C := C) hP hw hK) (show Gl (sY X a oe pn) "len" from gl) (show (sY X a oe pn).mg "len" = none from ml) (by decide +kernel) (pa_cons hv pa_nil (star_cons rfl)) (by decide +kernel) (by decide +kernel) (star_cons rfl) rfl
  have h2 := isi_e (p1 := p6) (p2 := p7) (p4 := p9) (pn := pn) S EC hz hf (cv := .ty "ValueError") (cu := .type "ValueError") (pe_bltn (X := sY X a oe pn) (pos := p8) (show Gl (sY X a oe pn) "ValueError" from gv) (show (sY X a oe pn).mg "ValueError" = none from mv) (by decide +kernel) rfl (by decide +kernel) (by decide +kernel)) (fun u r => r) rfl
  have ht := (pw_and (X := sY X a oe pn) (pos := p10) (pt_cmp (pos := p5) (pc_eqI h1 (pe_int (i := 1) (j := j1) (pos := p4)))) (pw_and1 (pos := p10) (pt_val h2))).pt
  refine weakS (ps_ret (pe_ifExp ht (pe_ix ix_list hv pe_int (plain_ix rfl)) pe_str)) fun D σ H ⟨s1, k1, p, x, s3, hp, q⟩ => ?_
  refine ⟨.ref p, s3, _, .lst [.str x], .int 1, rfl, ⟨p, [.str x], rfl, .inl hp, .cons (RP.str_iff.mpr rfl) .nil⟩, rfl, fun H1 v1 sm r1 => ?_⟩
  obtain rfl := RP.int_iff.mp r1
  refine ⟨1, 1, rfl, rfl, true, rfl, ?_⟩
  dsimp only
  rw [if_pos rfl]
  refine ⟨s1, true, k1, true, rfl, ?_⟩
  dsimp only
  rw [if_pos rfl]
  exact ⟨.ref p, s3, p, [.str x], 0, .str x, rfl, rfl, SqL.of (sm _ _ hp), rfl, q H1 sm⟩
end
end Ev

set_option Elab.async false
set_option linter.all false
set_option maxRecDepth 100000
set_option maxHeartbeats 2000000
namespace Ev
open PySem PySem.Spec PyProof.Rows HotX L2 L2H EvHot

/-- a suite that tells an error's one class -/
structure SuD where
  sm : Str
  ws : Str
  w : Str
  t : Str
  sc : Scope
  t0 : List (Str × Str)
  t1 : List (Str × Str)
def asSuite (sg : Scope) (n : Str) : List Stmt → Option SuD
  | [.Assign [.Name sm p0] (.List es pl) q0, .Assign [.Name ws py] (.ListComp (.Name w1 p1) [⟨.Tuple [.Name w p2, .Name t p3] kk p4, iter, [.Name t1 p5], 0⟩] scope cp) sp,
     .Return (some (.IfExp (.BoolOp .And [.Compare (.Call (.Name f1 _) [.Name ws1 _] [] _) [.Eq] [.Constant (.int i1) _ _] _, .Call (.Name f2 _) [.Name n1 _, .Name ve _] [] _] _) (.Subscript (.Name ws2 _) (.Constant (.int i2) _ _) _) (.Constant (.str _) _ _) _)) _] =>
    if (w1 = w ∧ t1 = t ∧ ws1 = ws ∧ ws2 = ws ∧ n1 = n) ∧ (f1 = "len" ∧ f2 = "isinstance" ∧ ve = "ValueError" ∧ i1 = 1 ∧ i2 = 0) ∧ es.length ≤ 100 ∧ swB ⟨[], sg, fun _ => false, false⟩ (.ListComp (.Name w1 p1) [⟨.Tuple [.Name w p2, .Name t p3] kk p4, iter, [.Name t1 p5], 0⟩] scope cp) ws py = true then
      (match asTsts n es, asIt n sm iter with
        | some t0, some t2 => if t2.length ≤ 100 then some ⟨sm, ws, w, t, scope, t0, t2⟩ else none
        | _, _ => none)
    else none
  | _ => none
/-- the def's scope -/
def suB (K : PySem.W.Frag) (sg : Scope) (N : List Str) (n : Str) (s : SuD) : Bool :=
  decide (sg.names.lookup n = some .local) && (decide (sg.names.lookup s.sm = some .local) && (decide (sg.names.lookup s.ws = some .local) && (nmB n && (nmB s.sm && (nmB s.ws && (nmB s.w && (nmB s.t &&
  (glB sg "isinstance" && (glB sg "len" && (glB sg "ValueError" && (blkC N sg s.sc [(s.w, 4), (s.t, 5)] && (decide ((relS s.sc sg).names.lookup s.w = some .local) && (decide ((relS s.sc sg).names.lookup s.t = some .local) &&
  (s.t0 ++ s.t1).all fun wc => glB sg wc.2 && (nmB wc.2 && (He.Fa.glo wc.2).ok K))))))))))))))
/-- what is told -/
def tellB (K : PySem.W.Frag) (A : Addr) (s : SuD) (x : Str) : Prop := ∃ l0 l1, kits K A s.t0 = some l0 ∧ kits K A s.t1 = some l1 ∧ sel (l0 ++ l1) = [x] ∧ PySem.W.kitOne K (.ref A) (.type "ValueError") = some true
structure CtX (X : Cx) (C : Gc) (sg : Scope) : Prop where
  sc : X.env.scope = sg
  kind : X.env.scope.kind = .function
  nd : X.N.Nodup
  prog : X.prog = C.P
  w : X.w = C.w
  K : X.K = C.K
  blt : ∀ x ∈ bltNames, X.mg x = none
  ve : X.mg "ValueError" = none
  cls : ∀ c, (He.Fa.glo c).ok X.K = true → X.mg c = some (.ref (He.ga X.K c))
theorem suite_ok {X : Cx} {C : Gc} {sg : Scope} {ar n : Str} {ss : List Stmt} {s : SuD} {a A : Addr} {oe : Obj} {pn : List (Addr × Obj)} (o : CtX X C sg) (hN : X.N = [ar, n, s.sm, s.ws, s.w, s.t]) (h : asSuite sg n ss = some s) (hb : suB X.K sg X.N n s = true)
    (EC : ExcC X.K A) (hz : L2N.Zn (.ref A) none oe) (hf : ∃ vs, oe.data = .fields vs) :
    PSs (sY X a oe pn) ss (fun D σ H => σ.length = 6 ∧ σ[1]? = some (some (.ref a)) ∧ ∃ x, tellB X.K A s x ∧ ∀ H', Same H H' → D.rt (.str x) H') := by
  obtain ⟨b1, hb⟩ := and3 hb
  obtain ⟨b2, hb⟩ := and3 hb
  obtain ⟨b3, hb⟩ := and3 hb
  obtain ⟨b4, hb⟩ := and3 hb
  obtain ⟨b5, hb⟩ := and3 hb
  obtain ⟨b6, hb⟩ := and3 hb
  obtain ⟨b7, hb⟩ := and3 hb
  obtain ⟨b8, hb⟩ := and3 hb
  obtain ⟨b9, hb⟩ := and3 hb
  obtain ⟨b10, hb⟩ := and3 hb
  obtain ⟨b11, hb⟩ := and3 hb
  obtain ⟨b12, hb⟩ := and3 hb
  obtain ⟨b13, hb⟩ := and3 hb
  obtain ⟨b14, b15⟩ := and3 hb
  have b1 := of_decide_eq_true b1
  have b2 := of_decide_eq_true b2
  have b3 := of_decide_eq_true b3
  have b13 := of_decide_eq_true b13
  have b14 := of_decide_eq_true b14
  rw [← o.sc] at b1 b2 b3 b12 b13 b14
  have gl : ∀ {y : Str}, glB sg y = true → Gl X y := fun {y} e => glB_of (F := ⟨[], sg, fun _ => false, false⟩) o.sc e
  have S : Su X n := ⟨by rw [hN]; rfl, .inl b1, b4, gl b9, o.blt _ (by decide +kernel)⟩
  have cl : ∀ wc ∈ s.t0 ++ s.t1, ClOk X wc := fun wc hwc => by
    obtain ⟨z1, z⟩ := and3 (List.all_eq_true.mp b15 wc hwc)
    obtain ⟨z2, z3⟩ := and3 z
    exact ⟨gl z1, (nmB_of z2).1, o.cls _ z3⟩
  have B : Bk X s.sc s.w s.t := ⟨blkOk_by b12, b13, b14, b7, b8, o.nd, by rw [hN]; rfl, by rw [hN]; rfl⟩
  unfold asSuite at h
  split at h
  · rename_i sm p0 es pl q0 ws py w1 p1 w p2 t p3 kk p4 iter t1 p5 scope cp sp f1 _ ws1 _ _ i1 _ _ _ f2 _ n1 _ ve _ _ _ ws2 _ i2 _ _ _ _ _ _ _ _
    split at h
    · rename_i hc
      obtain ⟨⟨rfl, rfl, rfl, rfl, rfl⟩, ⟨rfl, rfl, rfl, rfl, rfl⟩, hl, hsw⟩ := hc
      split at h
      · rename_i t0 t2 e0 e2
        split at h
        · rename_i h100
          cases h
          have l0len := asTsts_len e0
          have sw : swapsWith (.ListComp (.Name w1 p1) [⟨.Tuple [.Name w1 p2, .Name t1 p3] kk p4, iter, [.Name t1 p5], 0⟩] scope cp) (some (.Name ws2 py)) sp.line X.env = pure true := by
            rw [sw_is (F := ⟨[], sg, fun _ => false, false⟩) o.kind o.sc, hsw]
          have s1 := ps_set (X := sY X a oe pn) (i := 2) (pos' := p0) (pos := q0) o.nd (by rw [show (sY X a oe pn).N = X.N from rfl, hN]; rfl) (.inl b2) (tlist_ok (pos := pl) (pn := pn) S EC hz.zc hf e0 (fun wc h => cl wc (List.mem_append_left _ h)) hl) rfl (.inr b2)
          have hl0 : ((kits X.K A t0).getD []).length ≤ 100 := by
            cases e : kits X.K A t0 with
            | none => exact Nat.zero_le _
            | some l => show l.length ≤ 100; rw [kits_len e, l0len]; exact hl
          refine weakSs (pss_cons s1 (pss_cons (words_ok (pn := pn) (hsw := sw) S EC hz hf (by rw [hN]; rfl) (.inl b2) b5 (by rw [hN]; rfl) b3 B e2 (fun wc h => cl wc (List.mem_append_right _ h)) ((kits X.K A t0).getD []) hl0 h100) (pss_one (tell_ok (pn := pn) S EC hz.zc hf o.prog o.w o.K (by rw [hN]; rfl) (.inl b3) b6 (gl b10) (o.blt _ (by decide +kernel)) (gl b11) o.ve)))) fun D σ H ⟨h6, h1, x, ⟨l0, l1, k0, k1, k2, k3⟩, q⟩ => ?_
          refine ⟨h1, l0, k0, fun p ps H1 sm1 tu hp => ?_⟩
          refine ⟨by rw [List.length_set]; exact h6, by rw [List.getElem?_set_ne (by decide)]; exact h1, p, ps, List.getElem?_set_self (by rw [h6]; decide), hp, by rw [k0]; exact tu, l1, k1, fun p' H2 sm2 hp' => ?_⟩
          rw [k0] at hp'
          have k2' : sel ((some l0).getD [] ++ l1) = [x] := k2
          rw [k2'] at hp'
          exact ⟨by rw [List.getElem?_set_ne (by decide), List.getElem?_set_ne (by decide)]; exact h1, k3, p', x, List.getElem?_set_self (by rw [List.length_set, h6]; decide), hp', fun H3 sm3 => q H3 (Same.tr sm1 (Same.tr sm2 sm3))⟩
        · cases h
      · cases h
    · cases h
  · cases h
end Ev

set_option Elab.async false
set_option linter.all false
set_option maxRecDepth 100000
set_option maxHeartbeats 2000000
namespace Ev
open PySem PySem.Spec PyProof.Rows HotX L2 L2H EvHot

def excCB (K : PySem.W.Frag) (D : Addr) : Bool :=
  decide (PySem.W.findIn K (.ref D) "__getattribute__" = some (some (.builtin "BaseException.__getattribute__"))) && (decide (PySem.W.findIn K (.ref D) "__getattr__" = some none) && (decide (PySem.W.subIn K (.ref D) (.type "BaseException") = some true) && (PySem.W.hasDictIn K D && (decide (PySem.W.findIn K (.ref D) "__class__" = some (some (.builtin "object.__class__"))) &&
  (decide (PySem.W.specialIn K (.builtin "object.__class__") "__get__" = some (some (.builtin "getset_descriptor.__get__"))) && (decide (PySem.W.takesIn K (.builtin "object.__class__") = some true) && decide (PySem.W.mroIn K D (.type "object") = some true)))))))
theorem excCB_ok {K : PySem.W.Frag} {D : Addr} (h : excCB K D = true) : ExcC K D := by
  obtain ⟨h1, h⟩ := and3 h
  obtain ⟨h2, h⟩ := and3 h
  obtain ⟨h3, h⟩ := and3 h
  obtain ⟨h4, h⟩ := and3 h
  obtain ⟨h5, h⟩ := and3 h
  obtain ⟨h6, h⟩ := and3 h
  obtain ⟨h7, h8⟩ := and3 h
  exact ⟨of_decide_eq_true h1, of_decide_eq_true h2, of_decide_eq_true h3, h4, of_decide_eq_true h5, of_decide_eq_true h6, of_decide_eq_true h7, of_decide_eq_true h8⟩
/-- a catching def whose one clause tells the class -/
structure CtD where
  n : Str
  cls : Str
  s : SuD
  okp : P
  okv : V
def asTell (ar : Str) (sg : Scope) : List Stmt → Option CtD
  | [.Try [.Expr (.Call (.Name b _) [] [] _) _] [.ExceptHandler (some (.Name cls _)) (some n) (s0 :: ss) _] [] [] _, .Return (some e) _] =>
    if ar = b then (match asSuite sg n (s0 :: ss), conPV e with | some s, some (p, v) => some ⟨n, cls, s, p, v⟩ | _, _ => none) else none
  | _ => none
def tellBB (K : PySem.W.Frag) (A : Addr) (s : SuD) (w : P) : Bool := match w, kits K A s.t0, kits K A s.t1 with
  | .str x, some l0, some l1 => decide (sel (l0 ++ l1) = [x]) && decide (PySem.W.kitOne K (.ref A) (.type "ValueError") = some true)
  | _, _, _ => false
theorem tellBB_ok {K : PySem.W.Frag} {A : Addr} {s : SuD} {w : P} (h : tellBB K A s w = true) : ∃ x, w = .str x ∧ tellB K A s x := by
  unfold tellBB at h
  split at h
  · rename_i x l0 l1 e0 e1
    obtain ⟨h1, h2⟩ := and3 h
    exact ⟨x, rfl, l0, l1, e0, e1, of_decide_eq_true h1, of_decide_eq_true h2⟩
  · cases h
/-- every class of the table is told by its word -/
def wantT (K : PySem.W.Frag) (ga : List Addr) (c : CtD) (tab : List (Nat × Tell)) : Bool := tab.all fun q => match q.2, ga[q.1]? with
  | .txt w, some A => excCB K A && (decide (PySem.W.exmOne K (.ref A) (.ref (He.ga K c.cls)) = some true) && tellBB K A c.s w)
  | _, _ => false
section
variable {C : Gc} {mg : Str → Option Value} {base : Heap}
theorem tell_gives {x ar : Str} {g : Addr} {sg : Scope} {cdg : Value} {bg : List Stmt} {c : CtD} {tab : List (Nat × Tell)} {q : Str} {X : Cx} {Ng : List Str} (hb : asTell ar sg bg = some c) (hNg : Ng = [ar, c.n, c.s.sm, c.s.ws, c.s.w, c.s.t]) (S : FnScope Ng [ar] sg)
    (hsu : suB X.K sg Ng c.n c.s = true) (hcl : glB sg c.cls = true ∧ (c.cls == ("__debug__" : Str)) = false ∧ X.mg c.cls = some (.ref (He.ga X.K c.cls))) (hP : X.prog = C.P) (hw : X.w = C.w) (hK : X.K = C.K) (hblt : ∀ x ∈ bltNames, X.mg x = none) (hve : X.mg "ValueError" = none) (hgl : ∀ c, (He.Fa.glo c).ok X.K = true → X.mg c = some (.ref (He.ga X.K c)))
    (hwt : wantT X.K C.ga c tab = true) : GivesN X Ng x sg g cdg bg ar q (TTw C c.okp tab) := by
  unfold asTell at hb
  split at hb
  · rename_i b p1 p2 p3 cls p4 n s0 ss p5 p6 e p7
    split at hb
    · rename_i hab
      subst hab
      split at hb
      · rename_i s p v h1 h2
        cases hb
        intro f c' s' H Q tl act hc h
        have hbody : (envOfC x sg s'.heap.objs.size g cdg).scope = sg := rfl
        let X' : Cx := (catX C8.CX0 X Ng x sg g cdg s' H C8.E0).nox
        have gl : ∀ {y : Str}, glB sg y = true → Gl X' y := fun {y} e => glB_of (X := X') (F := ⟨[], sg, fun _ => false, false⟩) rfl e
        have ct : CtX X' C sg := ⟨rfl, S.kind, S.nd, hP, hw, hK, hblt, hve, hgl⟩
        have ln : sg.names.lookup n = some .local := of_decide_eq_true (and3 hsu).1
        have cl : AsOk X' n [.ExceptHandler (some (.Name cls p4)) (some n) (s0 :: ss) p5] [(.ref (He.ga X.K cls), fun a cls d D σ H => ∃ A, cls = .ref A ∧ d = none ∧ ExcC X.K A ∧ σ.length = 6 ∧ σ[1]? = some (some (.ref a)) ∧ ∃ x, tellB X.K A s x ∧ ∀ H', Same H H' → D.rt (.str x) H')] := by
          refine .cons ⟨gl hcl.1, hcl.2.1, .inl hcl.2.2⟩ (fun a oe cls d pn hz hf => ⟨fun pins s1 σ H D I ⟨A, e1, e2, EC, h6, hσ, y, ht, hq⟩ => ?_⟩) .nil
          subst e1 e2
          exact (suite_ok (X := X') (pn := pn) (oe := oe) (a := a) (A := A) ct hNg h1 hsu EC hz hf).run pins s1 σ H D I ⟨h6, hσ, y, ht, hq⟩
        have tr := ps_try_all (X := X') (n := n) (i := 1) (body := [.Expr (.Call (.Name ar p1) [] [] p2) p3]) (pos := p6) (Wo := fun _ _ _ _ => False)
          (tb := fun W D σ H => ∃ (Ech : XK) (Qch : VK), (∀ cls d H', Ech cls d H' → W cls d σ H') ∧ (∀ v H', Qch v H' → D.nx σ H') ∧ σ[0]? = some (some (.ref f)) ∧ H c' = some (LamX.CodeO c' q) ∧ tl Ech H Qch)
          rfl rfl S.nd (by show Ng[1]? = some n; rw [hNg]; rfl) (show (envOfC x sg s'.heap.objs.size g cdg).scope.names.lookup n = some .local from ln) takes0N (fun W pn xe tk _ => ⟨fun pins s1 σ H' D I ⟨Ech, Qch, hW, hQ, z1, z2, z3⟩ =>
            (pss_one (ps_expr (pe_at (act W pn xe Ech p1 p2 tk)) rfl)).run pins s1 σ H' D I ⟨Qch, hQ, z1, z2, hW, z3⟩⟩) cl
        refine ⟨_, pss_cons tr (pss_one (ps_ret (conPV_ok h2))), ?_⟩
        refine ⟨_, _, fun cls' d H' hE => ?_, fun v H' hQ => ?_, by rw [hNg]; rfl, hc, h⟩
        · obtain ⟨c0, A, fs, w, hA, ec, hxd, hwd, hq⟩ := hE
          subst ec
          unfold wordOf at hwd
          have go : ∀ {t : Tell}, tab.lookup c0 = some t → ∃ w', t = .txt w' ∧ excCB X.K A = true ∧ PySem.W.exmOne X.K (.ref A) (.ref (He.ga X.K cls)) = some true ∧ tellBB X.K A s w' = true := fun {t} e => by
            have z := List.all_eq_true.mp hwt _ (lookup_mem e)
            dsimp only at z
            rw [hA] at z
            cases t with
            | txt w' =>
              obtain ⟨z1, z⟩ := and3 z
              obtain ⟨z2, z3⟩ := and3 z
              exact ⟨w', rfl, z1, of_decide_eq_true z2, z3⟩
            | pre y => cases z
          split at hwd
          · rename_i e
            cases hwd
            obtain ⟨w', e1, e2, e3, e4⟩ := go e
            cases e1
            obtain ⟨y, rfl, ht⟩ := tellBB_ok e4
            have hd : d = none := hxd
            subst hd
            refine ⟨true, e3, fun _ a na => ?_, fun z => (by cases z)⟩
            refine ⟨A, rfl, rfl, excCB_ok e2, by rw [hNg]; rfl, by rw [hNg]; rfl, y, ht, fun H2 sm => hq H2 (.str y) sm (RP.str_iff.mpr rfl)⟩
          · rename_i e
            obtain ⟨w', e1, _⟩ := go e
            cases e1
          · cases hwd
        · exact hQ H' _ (Same.refl' _) (conPV_rp h2 _ _)
      · cases hb
    · cases hb
  · cases hb
end
end Ev

set_option Elab.async false
set_option linter.all false
set_option maxRecDepth 100000
set_option maxHeartbeats 2000000
namespace Ev
open PySem PySem.Spec PyProof.Rows HotX L2 L2H EvHot

/-! ### two clauses: the first one tells the limit -/
structure CtD2 where
  cls1 : Str
  pre : Str
  c : CtD
def asTell2 (ar : Str) (sg : Scope) : List Stmt → Option CtD2
  | [.Try [.Expr (.Call (.Name b _) [] [] _) _] [.ExceptHandler (some (.Name cls1 _)) (some n1) [.Return (some (.BinOp (.Constant (.str pre) _ _) .Add (.Call (.Name st _) [.Attribute (.Name n2 _) f _] [] _) _)) _] _, .ExceptHandler (some (.Name cls _)) (some n) (s0 :: ss) _] [] [] _, .Return (some e) _] =>
    if ar = b ∧ n1 = n ∧ n2 = n ∧ st = ("str" : Str) ∧ f = ("limit" : Str) then (match asSuite sg n (s0 :: ss), conPV e with | some s, some (p, v) => some ⟨cls1, pre, ⟨n, cls, s, p, v⟩⟩ | _, _ => none) else none
  | _ => none
def wantT2 (K : PySem.W.Frag) (ga : List Addr) (c : CtD2) (tab : List (Nat × Tell)) : Bool := tab.all fun q => match q.2, ga[q.1]? with
  | .txt w, some A => excCB K A && (decide (PySem.W.exmOne K (.ref A) (.ref (He.ga K c.cls1)) = some false) && (decide (PySem.W.exmOne K (.ref A) (.ref (He.ga K c.c.cls)) = some true) && tellBB K A c.c.s w))
  | .pre y, some A => decide (y = c.pre) && (xfB K A && (decide (PySem.W.findIn K (.ref A) "limit" = some none) && decide (PySem.W.exmOne K (.ref A) (.ref (He.ga K c.cls1)) = some true)))
  | _, _ => false
section
variable {C : Gc} {mg : Str → Option Value} {base : Heap}
theorem tell_gives2 {x ar : Str} {g : Addr} {sg : Scope} {cdg : Value} {bg : List Stmt} {c2 : CtD2} {tab : List (Nat × Tell)} {q : Str} {X : Cx} {Ng : List Str} (hb : asTell2 ar sg bg = some c2) (hNg : Ng = [ar, c2.c.n, c2.c.s.sm, c2.c.s.ws, c2.c.s.w, c2.c.s.t]) (S : FnScope Ng [ar] sg)
    (hsu : suB X.K sg Ng c2.c.n c2.c.s = true) (hnm : nmB c2.c.n = true) (hst : glB sg ("str" : Str) = true) (hcl : glB sg c2.c.cls = true ∧ (c2.c.cls == ("__debug__" : Str)) = false ∧ X.mg c2.c.cls = some (.ref (He.ga X.K c2.c.cls))) (hcl1 : glB sg c2.cls1 = true ∧ (c2.cls1 == ("__debug__" : Str)) = false ∧ X.mg c2.cls1 = some (.ref (He.ga X.K c2.cls1)))
    (hP : X.prog = C.P) (hw : X.w = C.w) (hK : X.K = C.K) (hblt : ∀ x ∈ bltNames, X.mg x = none) (hve : X.mg "ValueError" = none) (hgl : ∀ c, (He.Fa.glo c).ok X.K = true → X.mg c = some (.ref (He.ga X.K c)))
    (hwt : wantT2 X.K C.ga c2 tab = true) : GivesN X Ng x sg g cdg bg ar q (TTw C c2.c.okp tab) := by
  unfold asTell2 at hb
  split at hb
  · rename_i b p1 p2 p3 cls1 q1 n1 pre j q2 st q3 n2 q4 f q5 q6 q7 q8 q9 cls p4 n s0 ss p5 p6 e p7
    split at hb
    · rename_i hab
      obtain ⟨i1, i2, i3, i4, i5⟩ := hab
      subst i1
      subst i2
      have i3 := i3.symm
      subst i3
      subst i4
      subst i5
      split at hb
      · rename_i s p v h1 h2
        cases hb
        dsimp only at hNg hsu hnm hcl hcl1 hwt ⊢
        intro f c' s' H Q tl act hc h
        let X' : Cx := (catX C8.CX0 X Ng x sg g cdg s' H C8.E0).nox
        have gl : ∀ {y : Str}, glB sg y = true → Gl X' y := fun {y} e => glB_of (X := X') (F := ⟨[], sg, fun _ => false, false⟩) rfl e
        have ct : CtX X' C sg := ⟨rfl, S.kind, S.nd, hP, hw, hK, hblt, hve, hgl⟩
        have ln : sg.names.lookup n1 = some .local := of_decide_eq_true (and3 hsu).1
        have cl : AsOk X' n1 [.ExceptHandler (some (.Name cls1 q1)) (some n1) [.Return (some (.BinOp (.Constant (.str pre) j q2) .Add (.Call (.Name ("str" : Str) q3) [.Attribute (.Name n1 q4) ("limit" : Str) q5] [] q6) q7)) q8] q9, .ExceptHandler (some (.Name cls p4)) (some n1) (s0 :: ss) p5]
            [(.ref (He.ga X.K cls1), fun a cls d D σ H => ∃ A dd i, cls = .ref A ∧ d = some dd ∧ XfC X.K A ∧ PySem.W.findIn X.K (.ref A) "limit" = some none ∧ H dd = some (.xd [(("limit" : Str), .int i)]) ∧ i.natAbs.log2 < 1920 ∧ pre.length + (Str.ofString (toString i)).length ≤ 1000 ∧ σ[1]? = some (some (.ref a)) ∧ D.rt (.str (pre ++ Str.ofString (toString i))) H),
             (.ref (He.ga X.K cls), fun a cls d D σ H => ∃ A, cls = .ref A ∧ d = none ∧ ExcC X.K A ∧ σ.length = 6 ∧ σ[1]? = some (some (.ref a)) ∧ ∃ x, tellB X.K A s x ∧ ∀ H', Same H H' → D.rt (.str x) H')] := by
          refine .cons ⟨gl hcl1.1, hcl1.2.1, .inl hcl1.2.2⟩ (fun a oe cls d pn hz hf => ⟨fun pins s1 σ H D I ⟨A, dd, i, e1, e2, XC, hno, hdd, hi, hl, hσ, hq⟩ => ?_⟩) (.cons ⟨gl hcl.1, hcl.2.1, .inl hcl.2.2⟩ (fun a oe cls d pn hz hf => ⟨fun pins s1 σ H D I ⟨A, e1, e2, EC, h6, hσ, y, ht, hq⟩ => ?_⟩) .nil)
          · subst e1 e2
            have hv : PE (X'.suite a ((a, oe) :: pn)) (.Name n1 q4) (tVar 1) := pe_var (i := 1) (by show Ng[1]? = some n1; rw [hNg]; rfl) (.inl ln) (nmB_of hnm).1 (nmB_of hnm).2.1
            have hsz := sizeLine_eq
            have P1 := pss_one (ps_ret (pos := q8) (pe_op (pos := q7) op_add_str (pe_str (x := pre) (j := j) (pos := q2)) (pe_callTy (p := q3) (pos := q6) call_str_int (X := X'.suite a ((a, oe) :: pn)) (gl hst) (hblt "str" (by decide)) (by decide +kernel) (pa_cons (pe_xf (pos := q5) XC hno hz.zc hf hv) pa_nil))))
            refine P1.run pins s1 σ H D I ?_
            exact ⟨.ref a, hσ, rfl, rfl, dd, _, .int i, rfl, hdd, by simp [List.lookup], i, rfl, hi, pre, _, rfl, rfl, by omega, hq⟩
          · subst e1 e2
            exact (suite_ok (X := X') (pn := pn) (oe := oe) (a := a) (A := A) ct hNg h1 hsu EC hz hf).run pins s1 σ H D I ⟨h6, hσ, y, ht, hq⟩
        have tr := ps_try_all (X := X') (n := n1) (i := 1) (body := [.Expr (.Call (.Name ar p1) [] [] p2) p3]) (pos := p6) (Wo := fun _ _ _ _ => False)
          (tb := fun W D σ H => ∃ (Ech : XK) (Qch : VK), (∀ cls d H', Ech cls d H' → W cls d σ H') ∧ (∀ v H', Qch v H' → D.nx σ H') ∧ σ[0]? = some (some (.ref f)) ∧ H c' = some (LamX.CodeO c' q) ∧ tl Ech H Qch)
          rfl rfl S.nd (by show Ng[1]? = some n1; rw [hNg]; rfl) (show (envOfC x sg s'.heap.objs.size g cdg).scope.names.lookup n1 = some .local from ln) takes0N (fun W pn xe tk _ => ⟨fun pins s1 σ H' D I ⟨Ech, Qch, hW, hQ, z1, z2, z3⟩ =>
            (pss_one (ps_expr (pe_at (act W pn xe Ech p1 p2 tk)) rfl)).run pins s1 σ H' D I ⟨Qch, hQ, z1, z2, hW, z3⟩⟩) cl
        refine ⟨_, pss_cons tr (pss_one (ps_ret (conPV_ok h2))), ?_⟩
        refine ⟨_, _, fun cls' d H' hE => ?_, fun v H' hQ => ?_, by rw [hNg]; rfl, hc, h⟩
        · obtain ⟨c0, A, fs, w, hA, ec, hxd, hwd, hq⟩ := hE
          subst ec
          unfold wordOf at hwd
          have at_ : ∀ {t : Tell}, tab.lookup c0 = some t → (match t, C.ga[c0]? with
              | .txt w, some A => excCB X.K A && (decide (PySem.W.exmOne X.K (.ref A) (.ref (He.ga X.K cls1)) = some false) && (decide (PySem.W.exmOne X.K (.ref A) (.ref (He.ga X.K cls)) = some true) && tellBB X.K A s w))
              | .pre y, some A => decide (y = pre) && (xfB X.K A && (decide (PySem.W.findIn X.K (.ref A) "limit" = some none) && decide (PySem.W.exmOne X.K (.ref A) (.ref (He.ga X.K cls1)) = some true)))
              | _, _ => false) = true := fun {t} e => List.all_eq_true.mp hwt _ (lookup_mem e)
          split at hwd
          · rename_i e
            cases hwd
            have z := at_ e
            rw [hA] at z
            obtain ⟨z1, z⟩ := and3 z
            obtain ⟨z2, z⟩ := and3 z
            obtain ⟨z3, z4⟩ := and3 z
            obtain ⟨y, rfl, ht⟩ := tellBB_ok z4
            have hd : d = none := hxd
            subst hd
            refine ⟨false, of_decide_eq_true z2, fun z => (by cases z), fun _ => ⟨true, of_decide_eq_true z3, fun _ a na => ?_, fun z => (by cases z)⟩⟩
            refine ⟨A, rfl, rfl, excCB_ok z1, by rw [hNg]; rfl, by rw [hNg]; rfl, y, ht, fun H2 sm => hq H2 (.str y) sm (RP.str_iff.mpr rfl)⟩
          · rename_i y i e
            have z := at_ e
            rw [hA] at z
            obtain ⟨z1, z⟩ := and3 z
            obtain ⟨z2, z⟩ := and3 z
            obtain ⟨z3, z4⟩ := and3 z
            have z1 := of_decide_eq_true z1
            subst z1
            split at hwd
            · rename_i hbd
              obtain ⟨b1, b2⟩ := and3 hbd
              cases hwd
              obtain ⟨dd, v, ed, hdd, rv⟩ := hxd
              obtain rfl : v = .int i := RP.int_iff.mp rv
              refine ⟨true, of_decide_eq_true z4, fun _ a na => ?_, fun z => (by cases z)⟩
              exact ⟨A, dd, i, rfl, ed, xfB_ok z2, of_decide_eq_true z3, hdd, of_decide_eq_true b1, of_decide_eq_true b2, by rw [hNg]; rfl, hq H' (.str _) (Same.refl' _) (RP.str_iff.mpr rfl)⟩
            · cases hwd
          · cases hwd
        · exact hQ H' _ (Same.refl' _) (conPV_rp h2 _ _)
      · cases hb
    · cases hb
  · cases hb
end
end Ev

set_option Elab.async false
set_option linter.all false
set_option maxRecDepth 100000
set_option maxHeartbeats 4000000
namespace Ev
open PySem PySem.Spec PyProof.Rows L2

/-! ### the head: one look at what the top has left -/
/-- a law's own tables: the defs' names by place, the names of errors behind them, the constants, the terms, the slots' names -/
structure Tab where
  dn : List Str
  xn : List Str
  gcs : List (Str × P)
  tb : List Fn
  ns : List (List Str)
  /-- names of errors that are told of, but never raised by a plain raise -/
  xm : List Str := []
  /-- names of errors with an own __init__, behind the others -/
  xi : List Str := []
  /-- the file's name, as code objects tell it -/
  file : Str := ("" : Str)
  /-- the defs that hold lambdas -/
  lams : List Str := []
  /-- the defs that call what they get -/
  cts : List (Str × P × List (Nat × Tell)) := []
def placed : Nat → List Str → List (Str × Nat)
  | _, [] => []
  | i, x :: r => (x, i) :: placed (i + 1) r
def Tab.md (T : Tab) : Md := ⟨placed 0 T.dn, T.gcs, placed T.dn.length T.xn, T.cts, T.dn.length, placed (T.dn.length + T.xn.length) T.xi⟩
def Tab.ga (T : Tab) (K : PySem.W.Frag) : List Addr := (T.dn ++ (T.xn ++ (T.xi ++ T.xm))).map (He.ga K)
/-- what is looked at in the program's own text -/
def Tab.pok (T : Tab) (P : Program) : Bool := T.xi.isEmpty || progB T.file P
def Tab.cs (T : Tab) (K : PySem.W.Frag) : List (Addr × Addr) := T.lams.filterMap (PySem.W.tabIn K)
def Tab.tbs (T : Tab) (K : PySem.W.Frag) : List (Addr × Str) := T.lams.filterMap fun x => (PySem.W.tabIn K x).map fun p => (p.2, x ++ ".<locals>." ++ "<lambda>")
/-- a def that calls what it gets -/
def catP (K : PySem.W.Frag) (ga : List Addr) (q : Str × P × List (Nat × Tell)) (ar : Str) (sg : Scope) (bg : List Stmt) : Bool := C8.scC [ar] [ar] sg && match catBody ar bg with
  | some (l, p, _) => decide (p = q.2.1) && (wantB K ga l q.2.2 && l.all fun y => glB sg y.1 && (nmB y.1 && (He.Fa.glo y.1).ok K))
  | none => false
def catT (K : PySem.W.Frag) (ga : List Addr) (q : Str × P × List (Nat × Tell)) (ar : Str) (sg : Scope) (bg : List Stmt) : Bool := match asTell ar sg bg with
  | some c => C8.scC [ar, c.n, c.s.sm, c.s.ws, c.s.w, c.s.t] [ar] sg && (decide (c.okp = q.2.1) && (suB K sg [ar, c.n, c.s.sm, c.s.ws, c.s.w, c.s.t] c.n c.s && (glB sg c.cls && (nmB c.cls && ((He.Fa.glo c.cls).ok K && ((He.Fa.free "ValueError").ok K && (bltNames.all (fun x => (He.Fa.free x).ok K) && wantT K ga c q.2.2)))))))
  | none => false
def catT2 (K : PySem.W.Frag) (ga : List Addr) (q : Str × P × List (Nat × Tell)) (ar : Str) (sg : Scope) (bg : List Stmt) : Bool := match asTell2 ar sg bg with
  | some c => C8.scC [ar, c.c.n, c.c.s.sm, c.c.s.ws, c.c.s.w, c.c.s.t] [ar] sg && (decide (c.c.okp = q.2.1) && (suB K sg [ar, c.c.n, c.c.s.sm, c.c.s.ws, c.c.s.w, c.c.s.t] c.c.n c.c.s && (glB sg c.c.cls && (nmB c.c.cls && ((He.Fa.glo c.c.cls).ok K && ((He.Fa.free "ValueError").ok K && (bltNames.all (fun x => (He.Fa.free x).ok K) && (wantT2 K ga c q.2.2 &&
    (nmB c.c.n && (glB sg ("str" : Str) && (glB sg c.cls1 && (nmB c.cls1 && (He.Fa.glo c.cls1).ok K))))))))))))
  | none => false
def catB (K : PySem.W.Frag) (ga : List Addr) (q : Str × P × List (Nat × Tell)) : Bool := (He.Fa.glo q.1).ok K && match K.lookup (He.ga K q.1) with
  | some ob => (match ob.data with
    | .func fd => (match fd.params, fd.body, fd.defaults, fd.closure with
      | ⟨[], [ar], none, [], [], none, []⟩, .stmts bg, .none, [] =>
        decide (fd.name = q.1) && (decide (fd.qualname = q.1) && (decide (fd.globals = mainGlobals) && (decide (fd.builtins = builtinsNs) && (PySem.W.codeIn K fd.code q.1 && (PySem.W.keepIn K (.ref (He.ga K q.1)) && (visB fd.scope ar.arg && (nmB ar.arg &&
          (catP K ga q ar.arg fd.scope bg || (catT K ga q ar.arg fd.scope bg || catT2 K ga q ar.arg fd.scope bg)))))))))
      | _, _, _, _ => false)
    | _ => false)
  | none => false
theorem catB_ok {K : PySem.W.Frag} {h base : Heap} {mg : Str → Option Value} {C : Gc} {q : Str × P × List (Nat × Tell)} (X : K.In h) (G : h.Ns mainGlobals mg) (hK : C.K = K) (c : catB K C.ga q = true) : CatchOk C mg base q.1 q.2.1 q.2.2 := by
  obtain ⟨c0, c⟩ := and3 c
  split at c
  · rename_i ob lk
    split at c
    · rename_i fd ed
      split at c
      · rename_i ar bg hp hb hd hc
        obtain ⟨h1, c⟩ := and3 c
        obtain ⟨h2, c⟩ := and3 c
        obtain ⟨h3, c⟩ := and3 c
        obtain ⟨h4, c⟩ := and3 c
        obtain ⟨h5, c⟩ := and3 c
        obtain ⟨h6, c⟩ := and3 c
        obtain ⟨h8, c⟩ := and3 c
        obtain ⟨h9, cf⟩ := and3 c
        have bd : L2.Binds C.K fd [ar.arg] [] := .all fun us hl => bind_plain hp hd (by simp) us hl
        obtain ⟨oc, od, dt, osl⟩ := ob
        obtain ⟨name, qual, params, fbody, scope, globals, closure, defaults, kV, doc, pm, an, cdv, ct, bts⟩ := fd
        dsimp only at ed hb hc hd h1 h2 h3 h4 h5 h8 cf
        have g1 := of_decide_eq_true h1
        have g2 := of_decide_eq_true h2
        obtain rfl := of_decide_eq_true h3
        obtain rfl := of_decide_eq_true h4
        clear h1 h2
        subst ed hb hc g1 g2
        obtain ⟨n1, n2, _⟩ := nmB_of h9
        rw [Bool.or_eq_true] at cf
        rcases cf with c | c
        · obtain ⟨h7, c⟩ := and3 (show (C8.scC [ar.arg] [ar.arg] scope && match catBody ar.arg bg with
            | some (l, p, _) => decide (p = q.2.1) && (wantB K C.ga l q.2.2 && l.all fun y => glB scope y.1 && (nmB y.1 && (He.Fa.glo y.1).ok K))
            | none => false) = true from c)
          split at c
          · rename_i l p v hcb
            obtain ⟨k1, c⟩ := and3 c
            obtain ⟨k2, k3⟩ := and3 c
            obtain rfl := of_decide_eq_true k1
            refine ⟨ar.arg, He.ga K q.1, params, bg, scope, defaults, kV, doc, pm, cdv, ct, oc, an, od, osl, [ar.arg], He.glo_ok X G c0, by rw [hK]; exact h6, by rw [hK]; exact lk, by rw [hK]; exact h5, bd, C8.fnScope_by h7, rfl, visB_of h8, n1, n2, fun Y qq e1 e2 e3 e4 e5 => ?_⟩
            refine catch_gives hcb (fun y hy => ?_) e3 (by rw [e3, hK]; exact k2)
            have z := List.all_eq_true.mp k3 y hy
            obtain ⟨z1, z⟩ := and3 z
            obtain ⟨z2, z3⟩ := and3 z
            exact ⟨z1, (nmB_of z2).1, by rw [e4, e3, hK]; exact He.glo_ok X G z3⟩
          · cases c
        · rw [Bool.or_eq_true] at c
          rcases c with c | c
          · unfold catT at c
            split at c
            · rename_i cd hcd
              obtain ⟨k1, c⟩ := and3 c
              obtain ⟨k2, c⟩ := and3 c
              obtain ⟨k3, c⟩ := and3 c
              obtain ⟨k4, c⟩ := and3 c
              obtain ⟨k5, c⟩ := and3 c
              obtain ⟨k6, c⟩ := and3 c
              obtain ⟨k7, c⟩ := and3 c
              obtain ⟨k8, k9⟩ := and3 c
              have k2 := of_decide_eq_true k2
              rw [← k2]
              refine ⟨ar.arg, He.ga K q.1, params, bg, scope, defaults, kV, doc, pm, cdv, ct, oc, an, od, osl, [ar.arg, cd.n, cd.s.sm, cd.s.ws, cd.s.w, cd.s.t], He.glo_ok X G c0, by rw [hK]; exact h6, by rw [hK]; exact lk, by rw [hK]; exact h5, bd, C8.fnScope_by k1, rfl, visB_of h8, n1, n2, fun Y qq e1 e2 e3 e4 e5 => ?_⟩
              exact tell_gives hcd rfl (C8.fnScope_by k1) (by rw [e3, hK]; exact k3) ⟨k4, (nmB_of k5).1, by rw [e4, e3, hK]; exact He.glo_ok X G k6⟩ e1 e2 e3 (fun x hx => by rw [e4]; exact He.free_ok X G (List.all_eq_true.mp k8 x hx)) (by rw [e4]; exact He.free_ok X G k7) (fun c hc => by rw [e4, e3, hK]; rw [e3, hK] at hc; exact He.glo_ok X G hc) (by rw [e3, hK]; exact k9)
            · cases c
          · unfold catT2 at c
            split at c
            · rename_i cd hcd
              obtain ⟨k1, c⟩ := and3 c
              obtain ⟨k2, c⟩ := and3 c
              obtain ⟨k3, c⟩ := and3 c
              obtain ⟨k4, c⟩ := and3 c
              obtain ⟨k5, c⟩ := and3 c
              obtain ⟨k6, c⟩ := and3 c
              obtain ⟨k7, c⟩ := and3 c
              obtain ⟨k8, c⟩ := and3 c
              obtain ⟨k9, c⟩ := and3 c
              obtain ⟨k10, c⟩ := and3 c
              obtain ⟨k11, c⟩ := and3 c
              obtain ⟨k12, c⟩ := and3 c
              obtain ⟨k13, k14⟩ := and3 c
              have k2 := of_decide_eq_true k2
              rw [← k2]
              refine ⟨ar.arg, He.ga K q.1, params, bg, scope, defaults, kV, doc, pm, cdv, ct, oc, an, od, osl, [ar.arg, cd.c.n, cd.c.s.sm, cd.c.s.ws, cd.c.s.w, cd.c.s.t], He.glo_ok X G c0, by rw [hK]; exact h6, by rw [hK]; exact lk, by rw [hK]; exact h5, bd, C8.fnScope_by k1, rfl, visB_of h8, n1, n2, fun Y qq e1 e2 e3 e4 e5 => ?_⟩
              exact tell_gives2 hcd rfl (C8.fnScope_by k1) (by rw [e3, hK]; exact k3) k10 k11 ⟨k4, (nmB_of k5).1, by rw [e4, e3, hK]; exact He.glo_ok X G k6⟩ ⟨k12, (nmB_of k13).1, by rw [e4, e3, hK]; exact He.glo_ok X G k14⟩ e1 e2 e3 (fun x hx => by rw [e4]; exact He.free_ok X G (List.all_eq_true.mp k8 x hx)) (by rw [e4]; exact He.free_ok X G k7) (fun c hc => by rw [e4, e3, hK]; rw [e3, hK] at hc; exact He.glo_ok X G hc) (by rw [e3, hK]; exact k9)
            · cases c
      · cases c
    · cases c
  · cases c
def gcB (K : PySem.W.Frag) : Str × P → Bool
  | (x, .int i) => (He.Fa.int x i).ok K
  | (x, .str z) => (He.Fa.str x z).ok K
  | _ => false
def defsB (K : PySem.W.Frag) (M : Md) (cs : List (Addr × Addr)) (tbs : List (Addr × Str)) (lams : List Str) : List Str → List Fn → List (List Str) → Bool
  | [], [], [] => true
  | x :: xs, f :: fs, N :: ns => defB K M cs tbs (He.ga K x) f N (lams.contains x) && defsB K M cs tbs lams xs fs ns
  | _, _, _ => false
/-- no list stands in the part -/
def noList (K : PySem.W.Frag) : Bool := K.all fun p => match p.2.cls with
  | .type s => !decide (s = "list")
  | _ => true
def tabB (T : Tab) (K : PySem.W.Frag) : Bool :=
  noList K && (bltNames.all (fun x => (He.Fa.free x).ok K) && ((T.dn ++ (T.xn ++ (T.xi ++ T.xm))).all (fun x => (He.Fa.glo x).ok K) && ((T.xi.isEmpty || ((He.Fa.free "super").ok K && T.xi.all fun x => iniB K T.file (He.ga K x))) && (T.gcs.all (gcB K) && (T.xn.all (fun x => (He.Fa.exc x).ok K) && (T.cts.all (catB K (T.ga K)) && (T.lams.all (fun x => match PySem.W.tabIn K x with
    | some p => (K.lookup p.2).isNone
    | none => false) && defsB K T.md (T.cs K) (T.tbs K) T.lams T.dn T.tb T.ns)))))))
/-- what is looked at: no lists, no tables -/
def inK (p : Addr × Obj) : Bool := match p.2.cls, p.2.data with
  | .type s, _ => !decide (s = "list")
  | .none, .fields vs => decide (0 < vs.size)
  | _, _ => true
def lookB (T : Tab) (g : Addr → Option Obj) : Bool := tabB T ((He.frG g (cStatics :: He.asD g 4)).filter inK)
theorem look_mem {a : Addr} {o : Obj} : ∀ {K : PySem.W.Frag}, K.lookup a = some o → (a, o) ∈ K
  | [], h => by cases h
  | (b, u) :: r, h => by
    rw [List.lookup_cons] at h
    split at h
    · rename_i hb
      cases h
      rw [eq_of_beq hb]
      exact List.mem_cons_self
    · exact List.mem_cons_of_mem _ (look_mem h)
theorem filter_in {h : Heap} {as : List Addr} (f : Addr × Obj → Bool) : PySem.W.Frag.In ((He.frG h.get? as).filter f) h := fun a o e => by
  have m := look_mem e
  have m2 := (List.mem_filter.mp m).1
  unfold He.frG at m2
  obtain ⟨b, hb, e2⟩ := List.mem_filterMap.mp m2
  cases q : h.get? b with
  | none => rw [q] at e2; cases e2
  | some ob =>
    rw [q] at e2
    cases e2
    exact q
def look (T : Tab) : PySem.W.Hook where
  α := Bool
  obs := fun s => lookB T s.heap.get?
  val := fun _ => true
  says := fun _ h => ∃ K : PySem.W.Frag, K.In h ∧ tabB T K = true
  of := fun _ _ e => ⟨_, filter_in _, e⟩
  keeps := fun _ _ _ ⟨K, hK, c⟩ k => ⟨K, PySem.W.Frag.In.keeps hK k, c⟩
theorem look_eq {T : Tab} (s : PySem.W.SharedT) : lookB T (HandSHeadRun.getT s) = (look T).obs s.abs := by
  have e : HandSHeadRun.getT s = s.abs.heap.get? := funext (HandSHeadRun.getT_eq s)
  show lookB T _ = lookB T _
  rw [e]

theorem placed_lookup : ∀ {xs : List Str} {i : Nat} {x : Str} {g : Nat}, (placed i xs).lookup x = some g → i ≤ g ∧ xs[g - i]? = some x
  | [], i, x, g, h => by cases h
  | y :: xs, i, x, g, h => by
    rw [placed, List.lookup_cons] at h
    split at h
    · rename_i hb
      cases h
      rw [Nat.sub_self]
      exact ⟨Nat.le_refl _, by rw [eq_of_beq hb]; rfl⟩
    · obtain ⟨h1, h2⟩ := placed_lookup h
      refine ⟨by omega, ?_⟩
      have : g - i = (g - (i + 1)) + 1 := by omega
      rw [this]
      exact h2
theorem defsB_at {K : PySem.W.Frag} {M : Md} {cs : List (Addr × Addr)} {tbs : List (Addr × Str)} {lams : List Str} : ∀ {xs : List Str} {fs : List Fn} {ns : List (List Str)} {g : Nat} {x : Str}, defsB K M cs tbs lams xs fs ns = true → xs[g]? = some x → ∃ fn N, fs[g]? = some fn ∧ ns[g]? = some N ∧ defB K M cs tbs (He.ga K x) fn N (lams.contains x) = true
  | [], fs, ns, g, x, h, e => by simp at e
  | y :: xs, [], ns, g, x, h, e => absurd (show false = true from h) Bool.false_ne_true
  | y :: xs, f :: fs, [], g, x, h, e => absurd (show false = true from h) Bool.false_ne_true
  | y :: xs, f :: fs, N :: ns, g, x, h, e => by
    obtain ⟨h1, h2⟩ := and3 (show (defB K M cs tbs (He.ga K y) f N (lams.contains y) && defsB K M cs tbs lams xs fs ns) = true from h)
    cases g with
    | zero => cases e; exact ⟨f, N, rfl, rfl, h1⟩
    | succ g => exact defsB_at (g := g) h2 (by simpa using e)
theorem defsB_len {K : PySem.W.Frag} {M : Md} {cs : List (Addr × Addr)} {tbs : List (Addr × Str)} {lams : List Str} : ∀ {xs : List Str} {fs : List Fn} {ns : List (List Str)}, defsB K M cs tbs lams xs fs ns = true → fs.length = xs.length
  | [], [], ns, h => rfl
  | [], _ :: _, ns, h => absurd (show false = true from h) Bool.false_ne_true
  | y :: xs, [], ns, h => absurd (show false = true from h) Bool.false_ne_true
  | y :: xs, f :: fs, [], h => absurd (show false = true from h) Bool.false_ne_true
  | y :: xs, f :: fs, N :: ns, h => by
    obtain ⟨_, h2⟩ := and3 (show (defB K M cs tbs (He.ga K y) f N (lams.contains y) && defsB K M cs tbs lams xs fs ns) = true from h)
    rw [List.length_cons, List.length_cons, defsB_len h2]
theorem callN_far {Tb : List Fn} {g : Nat} (h : Tb.length ≤ g) : ∀ n ds st, callN Tb n g ds st = .bad
  | 0, ds, st => by rw [callN]
  | n + 1, ds, st => by
    rw [callN, List.getElem?_eq_none h]
theorem all_mem {α : Type} {l : List α} {p : α → Bool} (h : l.all p = true) {x : α} (m : x ∈ l) : p x = true := List.all_eq_true.mp h x m
theorem filterMap_mem {α β : Type} {f : α → Option β} {l : List α} {y : β} (h : y ∈ l.filterMap f) : ∃ x ∈ l, f x = some y := List.mem_filterMap.mp h
section
variable {T : Tab} {K : PySem.W.Frag} {h : Heap} {mg : Str → Option Value}
theorem mok_of (X : K.In h) (G : h.Ns mainGlobals mg) (c : tabB T K = true) (P : Program) (w : World) (hpk : T.pok P = true) : MOk ⟨P, w, K, T.ga K, T.tbs K⟩ T.md mg T.tb (T.ns.zip (T.dn.map T.lams.contains)) (T.cs K) ∧ ∀ base : Heap, (∀ p ∈ T.cs K, LamX.TabB base mg p.1 p.2) → BOk ⟨P, w, K, T.ga K, T.tbs K⟩ T.md mg base (T.cs K) := by
  obtain ⟨c0, c⟩ := and3 c
  obtain ⟨c1, c⟩ := and3 c
  obtain ⟨c2, c⟩ := and3 c
  obtain ⟨c8, c⟩ := and3 c
  obtain ⟨c3, c⟩ := and3 c
  obtain ⟨c5, c⟩ := and3 c
  obtain ⟨c6, c⟩ := and3 c
  obtain ⟨c7, c4⟩ := and3 c
  refine ⟨⟨fun x g e => ?_, fun x g e => ?_, fun x m => He.free_ok X G (all_mem c1 m), fun x g e => ?_, fun x g e => ?_, fun n g ds st hg => callN_far (by rw [defsB_len c4]; exact hg) n ds st, fun x p e => ?_, fun g f e hx => ?_⟩, fun base tb => ⟨tb, fun x okv tab m => ?_⟩⟩
  · obtain ⟨h1, h2⟩ := placed_lookup (show (placed T.dn.length T.xn).lookup x = some g from e)
    have m := List.mem_of_getElem? h2
    obtain ⟨q1, q2, q3, q4⟩ := He.exc_ok (all_mem c5 m)
    refine ⟨He.ga K x, ?_, He.glo_ok X G (all_mem c2 (List.mem_append_right _ (List.mem_append_left _ m))), ⟨q1, q2, q3, q4⟩⟩
    show ((T.dn ++ (T.xn ++ (T.xi ++ T.xm))).map (He.ga K))[g]? = _
    rw [List.getElem?_map, List.getElem?_append_right h1, List.getElem?_append_left (List.getElem?_eq_some_iff.mp h2).1, h2]; rfl
  · obtain ⟨h1, h2⟩ := placed_lookup (show (placed (T.dn.length + T.xn.length) T.xi).lookup x = some g from e)
    have m := List.mem_of_getElem? h2
    have ne : T.xi.isEmpty = false := by
      cases hxi : T.xi with
      | nil => rw [hxi] at m; cases m
      | cons _ _ => rfl
    have p8 : progB T.file P = true := by
      have z : (T.xi.isEmpty || progB T.file P) = true := hpk
      rwa [ne, Bool.false_or] at z
    rw [ne, Bool.false_or] at c8
    obtain ⟨d1, d2⟩ := and3 c8
    refine ⟨He.ga K x, ?_, He.glo_ok X G (all_mem c2 (List.mem_append_right _ (List.mem_append_right _ (List.mem_append_left _ m)))), iniB_ok p8 (He.free_ok X G d1) (all_mem d2 m)⟩
    show ((T.dn ++ (T.xn ++ (T.xi ++ T.xm))).map (He.ga K))[g]? = _
    have hlt := (List.getElem?_eq_some_iff.mp h2).1
    rw [List.getElem?_map, List.getElem?_append_right (by omega), List.getElem?_append_right (by omega), List.getElem?_append_left (by omega), show g - T.dn.length - T.xn.length = g - (T.dn.length + T.xn.length) by omega, h2]; rfl
  · obtain ⟨_, h2⟩ := placed_lookup (show (placed 0 T.dn).lookup x = some g from e)
    rw [Nat.sub_zero] at h2
    refine ⟨He.ga K x, ?_, He.glo_ok X G (all_mem c2 (List.mem_append_left _ (List.mem_of_getElem? h2)))⟩
    show ((T.dn ++ (T.xn ++ (T.xi ++ T.xm))).map (He.ga K))[g]? = _
    rw [List.getElem?_map, List.getElem?_append_left (List.getElem?_eq_some_iff.mp h2).1, h2]; rfl
  · obtain ⟨_, h2⟩ := placed_lookup (show (placed 0 T.dn).lookup x = some g from e)
    rw [Nat.sub_zero] at h2
    exact (List.getElem?_eq_some_iff.mp h2).1
  · have m := all_mem c3 (PySem.mem_of_lookup e)
    cases p with
    | int i =>
      obtain ⟨t, q⟩ := He.int_ok X G m
      exact ⟨_, .int i, q, ⟨t, rfl⟩, fun H => RP.int_iff.mpr rfl⟩
    | str z =>
      obtain ⟨t, q⟩ := He.str_ok X G m
      exact ⟨_, .str z, q, ⟨t, rfl⟩, fun H => RP.str_iff.mpr rfl⟩
    | _ => exact absurd (show false = true from m) Bool.false_ne_true
  · have hx : g < T.dn.length := hx
    obtain ⟨x, h2⟩ : ∃ x, T.dn[g]? = some x := ⟨_, List.getElem?_eq_getElem hx⟩
    obtain ⟨fn, N, e1, e2, e3⟩ := defsB_at c4 h2
    refine ⟨fn, (N, T.lams.contains x), e1, ?_, ?_⟩
    · rw [List.getElem?_zip_eq_some]
      exact ⟨e2, by rw [List.getElem?_map, h2]; rfl⟩
    · have e : ((T.dn ++ (T.xn ++ (T.xi ++ T.xm))).map (He.ga K))[g]? = some f := e
      rw [List.getElem?_map, List.getElem?_append_left (List.getElem?_eq_some_iff.mp h2).1, h2] at e
      cases e
      exact e3
  · exact catB_ok (q := (x, okv, tab)) X G rfl (all_mem c6 (show (x, okv, tab) ∈ T.cts from m))
end
theorem rps_ints {C : Gc} {H : Hp} : ∀ ns : List Int, RPs C H (ns.map P.int) (ns.map V.int)
  | [] => .nil
  | n :: ns => .cons (RP.int_iff.mpr rfl) (rps_ints ns)
/-- THE LAW'S END: what the evaluator answers is the law's promise -/
theorem walk_by {l : PySem.W.OpenLaw} {q : Program} {loose : List Str} {XP : (Str → Option Value) → Heap → Prop} {d : DefRec} (T : Tab) (k g : Nat)
    (hm : l.most = some 63) (hdf : d.params.defaults = []) (hd : d.name = ("law" : Str)) (hlaw : (placed 0 T.dn).lookup ("law" : Str) = some g) (hnp : ∃ fn, T.tb[g]? = some fn ∧ fn.np = 1) (hk : Room (3 * (k + 1)) callerA)
    (hrec : (T.lams.all fun x => (recsOf q).any fun e => e.name == x) = true)
    (plain : ∀ ns : List Int, ns.length ≤ 63 → ∃ st, callN T.tb (k + 1) g [.p (.lst (ns.map P.int))] [] = .ok (.p (.bl true)) st) (hpk : T.pok l.prog = true := by kernel_rfl) :
    PySem.W.WalkO q loose XP (look T).says l.row.toRowW d [] (fun f vs => PySem.call f vs) := by
  refine Att.attach_call hm hdf fun w s₀ s₁ mg mb fa ob pm cd doc a vs ns Gr Y ho hdt hcd hmg hobj hints hlen hgens => ?_
  obtain ⟨K, KX, c⟩ := Y
  obtain ⟨mo, bo⟩ := mok_of KX Gr.T.g c l.prog w hpk
  have cg : (T.ga K)[g]? = some fa := by
    obtain ⟨f, e1, e2⟩ := mo.fns ("law" : Str) g hlaw
    rw [hd] at hmg
    rw [hmg] at e2
    cases e2
    exact e1
  obtain ⟨fn, hfn, hone⟩ := hnp
  have nl : noList K = true := (and3 c).1
  have c7 := (and3 (and3 (and3 (and3 (and3 (and3 (and3 (and3 c).2).2).2).2).2).2).2).1
  obtain ⟨fn', N, e1, _, e3⟩ := mo.defs g fa cg (mo.fnf _ g hlaw)
  rw [hfn] at e1
  cases e1
  obtain ⟨fd, ps, D⟩ := defB_ok e3
  obtain ⟨x, rfl⟩ : ∃ x, ps = [x] := List.length_eq_one_iff.mp (D.np.trans hone)
  have hz := sizeLine_eq
  have ka : K.lookup a = none := by
    cases hk : K.lookup a with
    | none => rfl
    | some o =>
      have e := KX _ _ hk
      rw [hobj] at e
      cases e
      have m := all_mem nl (look_mem hk)
      simp at m
  have tabs : ∀ p ∈ T.cs K, PySem.W.CodeHd s₁.heap p.1 p.2 ∧ s₁.heap.get? p.2 = some tab0 ∧ K.lookup p.2 = none := fun p hp => by
    obtain ⟨x, hx, e⟩ := filterMap_mem hp
    have r := all_mem hrec hx
    cases hf : (recsOf q).find? (fun e => e.name == x) with
    | none =>
      rw [List.find?_eq_none] at hf
      obtain ⟨y, hy, hy2⟩ := List.any_eq_true.mp r
      exact absurd hy2 (hf y hy)
    | some dx =>
      obtain ⟨t1, t2⟩ := PySem.W.tab_of (c := p.1) (P := p.2) Gr.T KX hf e
      have t3 := all_mem c7 hx
      rw [e] at t3
      exact ⟨t1, t2, by simpa using t3⟩
  refine law_end (K := K) (CX := L2N.CX l.prog w) (k := 3 * (k + 1)) (cs := T.cs K) (fd := fd) (x := x) (sp := spG ⟨l.prog, w, K, T.ga K, T.tbs K⟩ (callN T.tb (k + 1)) 1 g) KX Gr.T.g Gr.T.b Gr.T.builtins Gr.T.nolimit hgens tabs Gr.T.bmain hobj ka hints (Nat.le_trans hlen (by omega)) hk (fun base _ _ tb => ?_) (fun s u => .of_eq (D.bindA [u] rfl)) (fun H hT ⟨o, hS⟩ => ?_) fun H e s' hx => ?_
  · exact def_step (base := base) mo (bo base tb) hfn D (defs_ok mo (bo base tb) k)
  · refine ⟨rfl, [], [], [.p (.lst (ns.map P.int))], ⟨rfl, .nil, fun p hp => ?_, fun n a o h => by cases h⟩, .cons (show RP _ H (.lst (ns.map P.int)) (.ref a) from RP.lst_iff.mpr ⟨a, _, rfl, ⟨o, hS⟩, rps_ints ns⟩) .nil, ?_⟩
    · obtain ⟨x, hx, e⟩ := filterMap_mem hp
      obtain ⟨p', e1, e2⟩ := Option.map_eq_some_iff.mp e
      subst e2
      refine ⟨#[], hT p' (List.mem_filterMap.mpr ⟨x, hx, e1⟩), True.intro, by simp, fun pos cv hc => ?_⟩
      have z : codeAmong pos [] = some cv := hc
      simp [codeAmong] at z
    · obtain ⟨st, e⟩ := plain ns hlen
      rw [e]
      exact fun μ' H' _ _ v rv => RP.bl_iff.mp (show RP ⟨l.prog, w, K, T.ga K, T.tbs K⟩ H' (.bl true) v from rv)
  · obtain ⟨_, _, _, _, _, _, _, _, _, _, _, _, z⟩ := hx
    exact z
end Ev

set_option Elab.async false
set_option linter.all false
set_option maxRecDepth 100000
set_option maxHeartbeats 4000000
set_option exponentiation.threshold 5000
namespace Ev.Pl
open PySem

/-! ### plain laws: tools for the evaluator -/
theorem callN_at {Tb : List Fn} {n g : Nat} {as : List D} {s : St} {f : Fn} (h : Tb[g]? = some f) (hl : as.length = f.np) : callN Tb (n + 1) g as s = leave s.length (evSs (callN Tb n) s.length f.body (enter f as) s) := by
  rw [callN, h]; exact if_pos hl
@[simp] theorem R.bind_ok' {α β : Type} {a : α} {s : St} {f : α → St → R β} : (R.ok a s).bind f = f a s := rfl
@[simp] theorem R.noexc_ok {α : Type} {a : α} {s : St} : (R.ok a s).noexc = .ok a s := rfl
/-- a call gives back a plain value, the store as it was -/
@[simp] theorem leave_ret {x : P} {s : St} : leave s.length (.ok (.ret (.p x)) s) = .ok (.p x) s := by
  unfold leave; simp
@[simp] theorem leave_next {r : En} {s : St} : leave s.length (.ok (.next r) s) = .ok (.p .non) s := by
  unfold leave; simp
theorem compGo_pure {f : P → St → R (List P)} {g : P → List P} {s : St} : ∀ {xs : List P}, (∀ x ∈ xs, f x s = .ok (g x) s) → compGo f xs s = .ok (xs.flatMap g) s
  | [], _ => rfl
  | x :: xs, h => by
    rw [compGo, h x List.mem_cons_self, R.bind_ok', compGo_pure fun y m => h y (List.mem_cons_of_mem _ m), R.bind_ok']
    rfl
/-- a list made of what is encoded by c -/
theorem compGo_map {α : Type} {f : P → St → R (List P)} {c : α → P} {p : α → Bool} {e : α → P} {s : St} {l : List α} (h : ∀ x ∈ l, f (c x) s = .ok (if p x then [e x] else []) s) : compGo f (l.map c) s = .ok ((l.filter p).map e) s := by
  induction l with
  | nil => rfl
  | cons x l ih =>
    rw [List.map_cons, compGo, h x List.mem_cons_self, R.bind_ok', ih fun y m => h y (List.mem_cons_of_mem _ m), R.bind_ok', List.filter_cons]
    cases p x <;> rfl
theorem compGo_all {α : Type} {f : P → St → R (List P)} {c : α → P} {e : α → P} {s : St} {l : List α} (h : ∀ x ∈ l, f (c x) s = .ok [e x] s) : compGo f (l.map c) s = .ok (l.map e) s := by
  rw [compGo_map (p := fun _ => true) (e := e) h, List.filter_eq_self.mpr fun _ _ => rfl]
/-! ### data without bools: Python's == is equality -/
mutual
def P.plain : Nat → P → Bool
  | _, .non => true
  | _, .int _ => true
  | n + 1, .tup l => P.plains n l
  | n + 1, .lst l => P.plains n l
  | _, _ => false
def P.plains (n : Nat) : List P → Bool
  | [] => true
  | a :: l => P.plain n a && P.plains n l
end
theorem P.plains_iff {n : Nat} : ∀ {l : List P}, P.plains n l = true ↔ ∀ x ∈ l, P.plain n x = true
  | [] => by simp [P.plains]
  | a :: l => by rw [P.plains, Bool.and_eq_true, P.plains_iff]; simp
mutual
theorem P.plain_py : ∀ (n : Nat) (x : P), P.plain n x = true → ∃ d, x.py = some d ∧ d.canLay0 = true ∧ d.depth ≤ n
  | n, .non, _ => ⟨.none, by rw [P.py], by rw [PyData.canLay0], by rw [PyData.depth]; exact Nat.zero_le _⟩
  | n, .int i, _ => ⟨.int i, by rw [P.py], by rw [PyData.canLay0], by rw [PyData.depth]; exact Nat.zero_le _⟩
  | n + 1, .tup l, h => by
    rw [P.plain] at h
    obtain ⟨ds, e, h1, h2⟩ := P.plains_py n l h
    exact ⟨.tuple ds, by rw [P.py, e], by rw [PyData.canLay0]; exact h1, by rw [PyData.depth]; omega⟩
  | n + 1, .lst l, h => by
    rw [P.plain] at h
    obtain ⟨ds, e, h1, h2⟩ := P.plains_py n l h
    exact ⟨.list ds, by rw [P.py, e], by rw [PyData.canLay0]; exact h1, by rw [PyData.depth]; omega⟩
  | 0, .tup l, h => by rw [P.plain] at h; cases h; all_goals simp
  | 0, .lst l, h => by rw [P.plain] at h; cases h; all_goals simp
  | n, .bl _, h => by cases n <;> (rw [P.plain] at h; cases h; all_goals simp)
  | n, .str _, h => by cases n <;> (rw [P.plain] at h; cases h; all_goals simp)
  | n, .dct _ _, h => by cases n <;> (rw [P.plain] at h; cases h; all_goals simp)
  | n, .rng _ _, h => by cases n <;> (rw [P.plain] at h; cases h; all_goals simp)
  | n, .glo _, h => by cases n <;> (rw [P.plain] at h; cases h; all_goals simp)
theorem P.plains_py : ∀ (n : Nat) (l : List P), P.plains n l = true → ∃ ds, P.pys l = some ds ∧ PyData.canLayAll0 ds = true ∧ PyData.depthAll ds ≤ n
  | n, [], _ => ⟨[], by rw [P.pys], by rw [PyData.canLayAll0], by rw [PyData.depthAll]; exact Nat.zero_le _⟩
  | n, x :: l, h => by
    rw [P.plains, Bool.and_eq_true] at h
    obtain ⟨d, e, h1, h2⟩ := P.plain_py n x h.1
    obtain ⟨ds, e', h3, h4⟩ := P.plains_py n l h.2
    exact ⟨d :: ds, by rw [P.pys, e, e'], by rw [PyData.canLayAll0, h1, h3]; rfl, by rw [PyData.depthAll]; omega⟩
end
/-- the shapes of plain data -/
theorem P.plain_cases {n : Nat} {x : P} (h : P.plain n x = true) : x = .non ∨ (∃ i, x = .int i) ∨ (∃ m l, n = m + 1 ∧ x = .tup l ∧ P.plains m l = true) ∨ (∃ m l, n = m + 1 ∧ x = .lst l ∧ P.plains m l = true) := by
  cases x with
  | non => exact .inl rfl
  | int i => exact .inr (.inl ⟨i, rfl⟩)
  | tup l => cases n with
    | zero => simp [P.plain] at h
    | succ m => exact .inr (.inr (.inl ⟨m, l, rfl, rfl, by rw [P.plain] at h; exact h⟩))
  | lst l => cases n with
    | zero => simp [P.plain] at h
    | succ m => exact .inr (.inr (.inr ⟨m, l, rfl, rfl, by rw [P.plain] at h; exact h⟩))
  | bl b => cases n <;> simp [P.plain] at h
  | str b => cases n <;> simp [P.plain] at h
  | dct a b => cases n <;> simp [P.plain] at h
  | rng a b => cases n <;> simp [P.plain] at h
  | glo b => cases n <;> simp [P.plain] at h
theorem int_beq (i j : Int) : (i == j) = decide (i = j) := by
  by_cases h : i = j <;> simp [h]
theorem eqv_plain : ∀ (n : Nat), (∀ x y dx dy, P.plain n x = true → P.plain n y = true → x.py = some dx → y.py = some dy → PyData.eqv dx dy = P.beq x y) ∧ (∀ l m ds es, P.plains n l = true → P.plains n m = true → P.pys l = some ds → P.pys m = some es → PyData.eqvAll ds es = P.beqs l m) := by
  intro n
  induction n with
  | zero =>
    have one : ∀ x y dx dy, P.plain 0 x = true → P.plain 0 y = true → x.py = some dx → y.py = some dy → PyData.eqv dx dy = P.beq x y := by
      intro x y dx dy hx hy ex ey
      rcases P.plain_cases hx with rfl | ⟨i, rfl⟩ | ⟨m, l, e, _⟩ | ⟨m, l, e, _⟩
      · rw [P.py] at ex; cases ex
        rcases P.plain_cases hy with rfl | ⟨j, rfl⟩ | ⟨m, l, e, _⟩ | ⟨m, l, e, _⟩
        · rw [P.py] at ey; cases ey; simp [PyData.eqv, P.beq]
        · rw [P.py] at ey; cases ey; simp [PyData.eqv, P.beq]
        · cases e
        · cases e
      · rw [P.py] at ex; cases ex
        rcases P.plain_cases hy with rfl | ⟨j, rfl⟩ | ⟨m, l, e, _⟩ | ⟨m, l, e, _⟩
        · rw [P.py] at ey; cases ey; simp [PyData.eqv, P.beq]
        · rw [P.py] at ey; cases ey; rw [PyData.eqv, P.beq]; exact int_beq _ _
        · cases e
        · cases e
      · cases e
      · cases e
    refine ⟨one, ?_⟩
    intro l
    induction l with
    | nil =>
      intro m ds es _ hm ed ee
      rw [P.pys] at ed; cases ed
      cases m with
      | nil => rw [P.pys] at ee; cases ee; simp [PyData.eqvAll, P.beqs]
      | cons y m =>
        obtain ⟨d, e1, _⟩ := P.plains_py 0 (y :: m) hm
        rw [P.pys] at ee
        split at ee
        · split at ee
          · cases ee; simp [PyData.eqvAll, P.beqs]
          · cases ee
        · cases ee
    | cons x l ih =>
      intro m ds es hl hm ed ee
      rw [P.plains, Bool.and_eq_true] at hl
      rw [P.pys] at ed
      split at ed
      · rename_i d hd
        split at ed
        · rename_i ds' hds
          cases ed
          cases m with
          | nil => rw [P.pys] at ee; cases ee; simp [PyData.eqvAll, P.beqs]
          | cons y m =>
            rw [P.plains, Bool.and_eq_true] at hm
            rw [P.pys] at ee
            split at ee
            · rename_i e he
              split at ee
              · rename_i es' hes
                cases ee
                rw [PyData.eqvAll, P.beqs, one x y d e hl.1 hm.1 hd he, ih m ds' es' hl.2 hm.2 hds hes]
              · cases ee
            · cases ee
        · cases ed
      · cases ed
  | succ n ihn =>
    obtain ⟨ih1, ih2⟩ := ihn
    have one : ∀ x y dx dy, P.plain (n + 1) x = true → P.plain (n + 1) y = true → x.py = some dx → y.py = some dy → PyData.eqv dx dy = P.beq x y := by
      intro x y dx dy hx hy ex ey
      have ys : ∀ {y : P} {dy : PyData}, P.plain (n + 1) y = true → y.py = some dy → (y = .non ∧ dy = .none) ∨ (∃ j, y = .int j ∧ dy = .int j) ∨ (∃ l ds, y = .tup l ∧ dy = .tuple ds ∧ P.plains n l = true ∧ P.pys l = some ds) ∨ (∃ l ds, y = .lst l ∧ dy = .list ds ∧ P.plains n l = true ∧ P.pys l = some ds) := by
        intro y dy hy ey
        rcases P.plain_cases hy with rfl | ⟨j, rfl⟩ | ⟨m, l, e, rfl, hl⟩ | ⟨m, l, e, rfl, hl⟩
        · rw [P.py] at ey; cases ey; exact .inl ⟨rfl, rfl⟩
        · rw [P.py] at ey; cases ey; exact .inr (.inl ⟨j, rfl, rfl⟩)
        · cases e
          rw [P.py] at ey
          split at ey
          · rename_i ds hds; cases ey; exact .inr (.inr (.inl ⟨l, ds, rfl, rfl, hl, hds⟩))
          · cases ey
        · cases e
          rw [P.py] at ey
          split at ey
          · rename_i ds hds; cases ey; exact .inr (.inr (.inr ⟨l, ds, rfl, rfl, hl, hds⟩))
          · cases ey
      rcases ys hx ex with ⟨rfl, rfl⟩ | ⟨i, rfl, rfl⟩ | ⟨l, ds, rfl, rfl, hl, hds⟩ | ⟨l, ds, rfl, rfl, hl, hds⟩ <;>
        rcases ys hy ey with ⟨rfl, rfl⟩ | ⟨j, rfl, rfl⟩ | ⟨m, es, rfl, rfl, hm, hes⟩ | ⟨m, es, rfl, rfl, hm, hes⟩ <;>
        first
          | (simp [PyData.eqv, P.beq]; done)
          | (rw [PyData.eqv, P.beq]; exact int_beq _ _)
          | (rw [PyData.eqv, P.beq]; exact ih2 _ _ _ _ (by assumption) (by assumption) (by assumption) (by assumption))
    refine ⟨one, ?_⟩
    intro l
    induction l with
    | nil =>
      intro m ds es _ hm ed ee
      rw [P.pys] at ed; cases ed
      cases m with
      | nil => rw [P.pys] at ee; cases ee; simp [PyData.eqvAll, P.beqs]
      | cons y m =>
        rw [P.pys] at ee
        split at ee
        · split at ee
          · cases ee; simp [PyData.eqvAll, P.beqs]
          · cases ee
        · cases ee
    | cons x l ih =>
      intro m ds es hl hm ed ee
      rw [P.plains, Bool.and_eq_true] at hl
      rw [P.pys] at ed
      split at ed
      · rename_i d hd
        split at ed
        · rename_i ds' hds
          cases ed
          cases m with
          | nil => rw [P.pys] at ee; cases ee; simp [PyData.eqvAll, P.beqs]
          | cons y m =>
            rw [P.plains, Bool.and_eq_true] at hm
            rw [P.pys] at ee
            split at ee
            · rename_i e he
              split at ee
              · rename_i es' hes
                cases ee
                rw [PyData.eqvAll, P.beqs, one x y d e hl.1 hm.1 hd he, ih m ds' es' hl.2 hm.2 hds hes]
              · cases ee
            · cases ee
        · cases ed
      · cases ed
theorem P.beq_eq (x y : P) : P.beq x y = decide (x = y) := by
  cases h : P.beq x y with
  | true => exact (decide_eq_true (P.eq_of_beq x y h)).symm
  | false => exact (decide_eq_false fun e => by rw [e, P.beq_self] at h; cases h).symm
theorem peq_plain {x y : P} (hx : P.plain 60 x = true) (hy : P.plain 60 y = true) : peq x y = some (decide (x = y)) := by
  obtain ⟨d, e1, c1, l1⟩ := P.plain_py 60 x hx
  obtain ⟨d', e2, c2, l2⟩ := P.plain_py 60 y hy
  unfold peq
  rw [e1, e2]
  have s1 : SeqAt.shaped d = true := by unfold SeqAt.shaped; rw [c1, decide_eq_true (by omega)]; rfl
  have s2 : SeqAt.shaped d' = true := by unfold SeqAt.shaped; rw [c2, decide_eq_true (by omega)]; rfl
  dsimp only
  rw [s1, s2, (eqv_plain 60).1 x y d d' hx hy e1 e2, P.beq_eq]; rfl
theorem inSeq_plain {x : P} {l : List P} (hx : P.plain 60 x = true) (hl : P.plains 60 l = true) : inSeq x l = some (decide (x ∈ l)) := by
  obtain ⟨d, e1, c1, l1⟩ := P.plain_py 60 x hx
  obtain ⟨ds, e2, c2, l2⟩ := P.plains_py 60 l hl
  unfold inSeq
  rw [e1, e2]
  have s1 : SeqAt.shaped d = true := by unfold SeqAt.shaped; rw [c1, decide_eq_true (by omega)]; rfl
  have s2 : SeqAt.shaped (.list ds) = true := by unfold SeqAt.shaped; rw [PyData.canLay0, c2, PyData.depth, decide_eq_true (by omega)]; rfl
  dsimp only
  rw [s1, s2]
  refine congrArg some ?_
  show ds.any (fun z => PyData.eqv z d) = decide (x ∈ l)
  clear s1 s2 c2 l2
  induction l generalizing ds with
  | nil => rw [P.pys] at e2; cases e2; rfl
  | cons y l ih =>
    rw [P.plains, Bool.and_eq_true] at hl
    rw [P.pys] at e2
    split at e2
    · rename_i dy hdy
      split at e2
      · rename_i ds' hds
        cases e2
        rw [List.any_cons, ih hl.2 _ hds, (eqv_plain 60).1 y x dy d hl.1 hx hdy e1, P.beq_eq]
        by_cases hxy : y = x
        · subst hxy; simp
        · have : x ≠ y := fun e => hxy e.symm
          simp [hxy, this]
      · cases e2
    · cases e2
end Ev.Pl

set_option Elab.async false
set_option linter.all false
set_option maxRecDepth 100000
set_option maxHeartbeats 4000000
set_option exponentiation.threshold 5000
namespace Ev.Pl
open PySem

/-! ### whole numbers, their tuples -/
abbrev N (i : Nat) : P := .int (i : Int)
abbrev nats (l : List Nat) : P := .tup (l.map N)
abbrev rows (m : List (List Nat)) : P := .tup (m.map nats)
abbrev bookP (b : List (List (List Nat))) : P := .tup (b.map rows)
theorem le_big {k : Nat} (h : k ≤ 1000) : k ≤ big := Nat.le_trans h (by unfold big; decide)
theorem N_inj {i j : Nat} (h : N i = N j) : i = j := by
  have := P.int.inj h; omega
theorem mapN_inj {l m : List Nat} (h : l.map N = m.map N) : l = m := by
  induction l generalizing m with
  | nil => cases m with
    | nil => rfl
    | cons b m => cases h
  | cons a l ih => cases m with
    | nil => cases h
    | cons b m =>
      rw [List.map_cons, List.map_cons] at h
      obtain ⟨h1, h2⟩ := List.cons.inj h
      rw [N_inj h1, ih h2]
theorem nats_inj {l m : List Nat} (h : nats l = nats m) : l = m := mapN_inj (P.tup.inj h)
theorem plain_N (n i : Nat) : P.plain n (N i) = true := by cases n <;> rw [P.plain]
theorem plains_N (n : Nat) (l : List Nat) : P.plains n (l.map N) = true := P.plains_iff.mpr fun x h => by
  obtain ⟨i, _, rfl⟩ := List.mem_map.mp h
  exact plain_N n i
theorem plain_nats (n : Nat) (l : List Nat) : P.plain (n + 1) (nats l) = true := by rw [P.plain]; exact plains_N n l
theorem plains_nats (n : Nat) (L : List (List Nat)) : P.plains (n + 1) (L.map nats) = true := P.plains_iff.mpr fun x h => by
  obtain ⟨i, _, rfl⟩ := List.mem_map.mp h
  exact plain_nats n i
theorem mem_N {i : Nat} {l : List Nat} : N i ∈ l.map N ↔ i ∈ l := ⟨fun h => by
  obtain ⟨j, hj, e⟩ := List.mem_map.mp h
  exact N_inj e ▸ hj, fun h => List.mem_map.mpr ⟨i, h, rfl⟩⟩
theorem mem_nats {l : List Nat} {L : List (List Nat)} : nats l ∈ L.map nats ↔ l ∈ L := ⟨fun h => by
  obtain ⟨j, hj, e⟩ := List.mem_map.mp h
  exact nats_inj e ▸ hj, fun h => List.mem_map.mpr ⟨l, h, rfl⟩⟩
@[simp] theorem in_N {i : Nat} {l : List Nat} : inSeq (N i) (l.map N) = some (decide (i ∈ l)) := by
  rw [inSeq_plain (plain_N 60 i) (plains_N 60 l)]
  simp only [mem_N]
@[simp] theorem in_nats {l : List Nat} {L : List (List Nat)} : inSeq (nats l) (L.map nats) = some (decide (l ∈ L)) := by
  rw [inSeq_plain (plain_nats 59 l) (plains_nats 59 L)]
  simp only [mem_nats]
@[simp] theorem peq_nats {l m : List Nat} : peq (nats l) (nats m) = some (decide (l = m)) := by
  rw [peq_plain (plain_nats 59 l) (plain_nats 59 m)]
  refine congrArg some (decide_eq_decide.mpr ⟨nats_inj, fun h => by rw [h]⟩)
/-- is a list of plain things empty? -/
theorem peq_lst_nil {xs : List P} (h : P.plains 59 xs = true) : peq (.lst xs) (.lst []) = some xs.isEmpty := by
  rw [peq_plain (by rw [P.plain]; exact h) (by rw [P.plain]; rfl)]
  cases xs <;> simp
@[simp] theorem peq_N_nil {l : List Nat} : peq (.lst (l.map N)) (.lst []) = some l.isEmpty := by
  rw [peq_lst_nil (plains_N 59 l)]; simp
@[simp] theorem peq_nats_nil {L : List (List Nat)} : peq (.lst (L.map nats)) (.lst []) = some L.isEmpty := by
  rw [peq_lst_nil (plains_nats 58 L)]; simp
@[simp] theorem all_bl {α : Type} {p : α → Bool} : ∀ {l : List α}, allB (l.map fun x => P.bl (p x)) = some (l.all p)
  | [] => rfl
  | x :: l => by rw [List.map_cons, allB, all_bl, List.all_cons]
@[simp] theorem any_bl {α : Type} {p : α → Bool} : ∀ {l : List α}, anyB (l.map fun x => P.bl (p x)) = some (l.any p)
  | [] => rfl
  | x :: l => by rw [List.map_cons, anyB, any_bl, List.any_cons]
@[simp] theorem sum_N : ∀ {l : List Nat}, sumI (l.map N) = some (l.sum : Int)
  | [] => rfl
  | x :: l => by rw [List.map_cons, sumI, sum_N, List.sum_cons]; simp
theorem rng_N (n : Nat) : rngP 0 (n : Int) = (List.range n).map N := by
  unfold rngP
  simp
theorem rngOk_N {n : Nat} (h : n ≤ 1000) : rngOk 0 (n : Int) = true := by
  unfold rngOk big
  simp
  omega
/-- an item by its place -/
theorem at_map {α : Type} {c : α → P} {l : List α} {i : Nat} {x : α} (h : l[i]? = some x) : atP (l.map c) (i : Int) = some (c x) := by
  have hl := (List.getElem?_eq_some_iff.mp h).1
  unfold atP ixN
  rw [if_pos (by omega), if_pos (by rw [List.length_map]; omega)]
  simp [h]
theorem pairs_map {α β : Type} {c : α → P} {d : β → P} : ∀ {l : List α} {m : List β}, pairsP (l.map c) (m.map d) = (l.zip m).map fun q => .tup [c q.1, d q.2]
  | [], m => by simp [pairsP]
  | a :: l, [] => by simp [pairsP]
  | a :: l, b :: m => by simp [pairsP, pairs_map]
theorem cut_tail {l : List P} : cutP l (some 1) none = l.tail := by
  cases l with
  | nil => rfl
  | cons a l =>
    unfold cutP sIx
    simp
/-! ### the operations, by shape -/
section
variable {l m : List P} {i j : Int} {b : Bool} {x y : P}
@[simp] theorem u_len_t : evU .len (.tup l) = some (.int l.length) := rfl
@[simp] theorem u_len_l : evU .len (.lst l) = some (.int l.length) := rfl
@[simp] theorem u_len_d {ks vs : List P} : evU .len (.dct ks vs) = some (.int ks.length) := rfl
@[simp] theorem u_abs : evU .abs (.int i) = some (.int (if i < 0 then -i else i)) := rfl
@[simp] theorem u_int : evU .int (.int i) = some (.int i) := rfl
@[simp] theorem u_neg' : evU .neg (.int i) = some (.int (-i)) := rfl
@[simp] theorem u_tuple_l : evU .tuple (.lst l) = some (.tup l) := rfl
@[simp] theorem u_tuple_t : evU .tuple (.tup l) = some (.tup l) := rfl
@[simp] theorem u_isInt_i : evU .isInt (.int i) = some (.bl true) := rfl
@[simp] theorem u_isInt_b : evU .isInt (.bl b) = some (.bl true) := rfl
@[simp] theorem u_isInt_t : evU .isInt (.tup l) = some (.bl false) := rfl
@[simp] theorem u_isInt_l : evU .isInt (.lst l) = some (.bl false) := rfl
@[simp] theorem u_isInt_n : evU .isInt .non = some (.bl false) := rfl
@[simp] theorem u_isBool_i : evU .isBool (.int i) = some (.bl false) := rfl
@[simp] theorem u_isBool_b : evU .isBool (.bl b) = some (.bl true) := rfl
@[simp] theorem u_isBool_t : evU .isBool (.tup l) = some (.bl false) := rfl
@[simp] theorem u_isBool_l : evU .isBool (.lst l) = some (.bl false) := rfl
@[simp] theorem u_isBool_n : evU .isBool .non = some (.bl false) := rfl
@[simp] theorem u_isTup_i : evU .isTup (.int i) = some (.bl false) := rfl
@[simp] theorem u_isTup_b : evU .isTup (.bl b) = some (.bl false) := rfl
@[simp] theorem u_isTup_t : evU .isTup (.tup l) = some (.bl true) := rfl
@[simp] theorem u_isTup_l : evU .isTup (.lst l) = some (.bl false) := rfl
@[simp] theorem u_isTup_n : evU .isTup .non = some (.bl false) := rfl
@[simp] theorem u_all_b {α : Type} {p : α → Bool} {l : List α} : evU .all (.lst (l.map fun x => P.bl (p x))) = some (.bl (l.all p)) := by
  show (match allB (l.map fun x => P.bl (p x)) with | some b => some (P.bl b) | none => none) = _
  rw [all_bl]
@[simp] theorem u_any_b {α : Type} {p : α → Bool} {l : List α} : evU .any (.lst (l.map fun x => P.bl (p x))) = some (.bl (l.any p)) := by
  show (match anyB (l.map fun x => P.bl (p x)) with | some b => some (P.bl b) | none => none) = _
  rw [any_bl]
@[simp] theorem u_sum_l {l : List Nat} : evU .sum (.lst (l.map N)) = some (N l.sum) := by
  show (match sumI (l.map N) with | some i => some (P.int i) | none => none) = _
  rw [sum_N]
@[simp] theorem u_sum_t {l : List Nat} : evU .sum (.tup (l.map N)) = some (N l.sum) := by
  show (match sumI (l.map N) with | some i => some (P.int i) | none => none) = _
  rw [sum_N]
@[simp] theorem b_add_i : evB .add (.int i) (.int j) = some (.int (i + j)) := rfl
@[simp] theorem b_sub_i : evB .sub (.int i) (.int j) = some (.int (i - j)) := rfl
@[simp] theorem b_idx_t : evB .idx (.tup l) (.int i) = atP l i := rfl
@[simp] theorem b_idx_l : evB .idx (.lst l) (.int i) = atP l i := rfl
theorem b_add_t (h : l.length + m.length ≤ big) : evB .add (.tup l) (.tup m) = some (.tup (l ++ m)) := if_pos (decide_eq_true h)
@[simp] theorem c_lt : evC .lt (.int i) (.int j) = some (decide (i < j)) := rfl
@[simp] theorem c_le : evC .le (.int i) (.int j) = some (decide (i ≤ j)) := rfl
@[simp] theorem c_gt : evC .gt (.int i) (.int j) = some (decide (j < i)) := rfl
@[simp] theorem c_ge : evC .ge (.int i) (.int j) = some (decide (j ≤ i)) := rfl
@[simp] theorem c_eq : evC .eq x y = peq x y := rfl
@[simp] theorem c_ne : evC .ne x y = (match peq x y with | some c => some (!c) | none => none) := rfl
@[simp] theorem c_in_t : evC .isin x (.tup l) = inSeq x l := rfl
@[simp] theorem c_in_l : evC .isin x (.lst l) = inSeq x l := rfl
@[simp] theorem c_nin_t : evC .notin x (.tup l) = (match inSeq x l with | some c => some (!c) | none => none) := rfl
@[simp] theorem c_nin_l : evC .notin x (.lst l) = (match inSeq x l with | some c => some (!c) | none => none) := rfl
@[simp] theorem c_isNone : evC .isNone x .non = some (match x with | .non => true | _ => false) := rfl
@[simp] theorem c_isTrue : evC .isTrue x (.bl true) = some (match x with | .bl true => true | _ => false) := rfl
@[simp] theorem c_isFalse : evC .isFalse x (.bl false) = some (match x with | .bl false => true | _ => false) := rfl
@[simp] theorem c_notFalse : evC .notFalse x (.bl false) = some (match x with | .bl false => false | _ => true) := rfl
@[simp] theorem peq_int : peq (.int i) (.int j) = some (decide (i = j)) := by
  rw [peq_plain (by rw [P.plain]) (by rw [P.plain])]
  simp
end
end Ev.Pl

set_option Elab.async false
set_option linter.all false
set_option maxRecDepth 100000
set_option maxHeartbeats 4000000
set_option exponentiation.threshold 5000
namespace Ev.Pl
open PySem

/-! ### sorted lists of one kind are told by their members -/
theorem sorted_ext {α : Type} {r : α → α → Prop} (asy : ∀ a b, r a b → ¬ r b a) : ∀ {l m : List α}, l.Pairwise r → m.Pairwise r → (∀ x, x ∈ l ↔ x ∈ m) → l = m
  | [], [], _, _, _ => rfl
  | [], b :: m, _, _, h => by have := (h b).mpr List.mem_cons_self; cases this
  | a :: l, [], _, _, h => by have := (h a).mp List.mem_cons_self; cases this
  | a :: l, b :: m, hl, hm, h => by
    rw [List.pairwise_cons] at hl hm
    have irr : ∀ x, ¬ r x x := fun x hx => asy x x hx hx
    have e : a = b := by
      rcases List.mem_cons.mp ((h a).mp List.mem_cons_self) with e | ha
      · exact e
      · rcases List.mem_cons.mp ((h b).mpr List.mem_cons_self) with e | hb
        · exact e.symm
        · exact absurd (hl.1 b hb) (asy b a (hm.1 a ha))
    subst e
    rw [sorted_ext asy hl.2 hm.2 fun x => ⟨fun hx => ?_, fun hx => ?_⟩]
    · rcases List.mem_cons.mp ((h x).mp (List.mem_cons_of_mem _ hx)) with e | hx'
      · subst e; exact absurd (hl.1 x hx) (irr x)
      · exact hx'
    · rcases List.mem_cons.mp ((h x).mpr (List.mem_cons_of_mem _ hx)) with e | hx'
      · subst e; exact absurd (hm.1 x hx) (irr x)
      · exact hx'
theorem nat_ext {l m : List Nat} (hl : l.Pairwise (· < ·)) (hm : m.Pairwise (· < ·)) (h : ∀ x, x ∈ l ↔ x ∈ m) : l = m := sorted_ext (fun a b h1 h2 => by omega) hl hm h
theorem range_filter_sorted {n : Nat} {p : Nat → Bool} : ((List.range n).filter p).Pairwise (· < ·) := List.Pairwise.filter p List.pairwise_lt_range
/-! ### sorted() of whole numbers -/
def sortN (l : List Nat) : List Nat := l.mergeSort fun a b => decide (a ≤ b)
theorem sort_map {α : Type} {t : Ty} {c : α → P} {le : α → α → Bool} (h : ∀ a b, (!P.ltb (c b) (c a)) = le a b) (l : List α) (ht : P.hasAll t (l.map c) = true) : sortP (l.map c) = (l.mergeSort le).map c := by
  rw [sortP_merge ht, ← List.map_mergeSort (f := c) (r := le) (s := fun a b => !P.ltb b a) fun a _ b _ => (h a b).symm]
theorem ltb_N {i j : Nat} : P.ltb (N i) (N j) = decide (i < j) := by
  rw [P.ltb]; exact decide_eq_decide.mpr (by omega)
theorem hasAll_N : ∀ {l : List Nat}, P.hasAll .int (l.map N) = true
  | [] => by rw [List.map_nil, P.hasAll]
  | a :: l => by rw [List.map_cons, P.hasAll, P.has, hasAll_N]; rfl
theorem sortP_N (l : List Nat) : sortP (l.map N) = (sortN l).map N := sort_map (fun a b => by
  rw [ltb_N]
  by_cases h : a ≤ b
  · simp [h]
  · simp [h]; omega) l hasAll_N
theorem sortN_pw {l : List Nat} (nd : l.Nodup) : (sortN l).Pairwise (· < ·) := by
  have p : (sortN l).Pairwise fun a b => decide (a ≤ b) = true := List.pairwise_mergeSort (fun a b c h1 h2 => by simp at *; omega) (fun a b => by simp; omega) l
  have nd2 : (sortN l).Nodup := (List.mergeSort_perm l _).nodup_iff.mpr nd
  refine (List.Pairwise.and p nd2).imp fun {a b} h => ?_
  have h1 : a ≤ b := by simpa using h.1
  have h2 : a ≠ b := h.2
  omega
theorem mem_sortN {l : List Nat} {x : Nat} : x ∈ sortN l ↔ x ∈ l := (List.mergeSort_perm l _).mem_iff
theorem sortN_eq {l m : List Nat} (nd : l.Nodup) (hm : m.Pairwise (· < ·)) (h : ∀ x, x ∈ l ↔ x ∈ m) : sortN l = m := nat_ext (sortN_pw nd) hm fun x => mem_sortN.trans (h x)
@[simp] theorem srt_int : srtOk .int = true := by unfold srtOk Ty.deep; rfl
/-! ### dicts whose keys are whole numbers, whose values are one -/
def insK (ks : List Nat) (k : Nat) : List Nat := if k ∈ ks then ks else ks ++ [k]
theorem mem_insK {ks : List Nat} {k x : Nat} : x ∈ insK ks k ↔ x ∈ ks ∨ x = k := by
  unfold insK
  split
  · rename_i h
    exact ⟨.inl, fun z => z.elim id fun e => by rw [e]; exact h⟩
  · simp
theorem nodup_insK {ks : List Nat} {k : Nat} (h : ks.Nodup) : (insK ks k).Nodup := by
  unfold insK
  split
  · exact h
  · rename_i hk
    rw [List.nodup_append]
    exact ⟨h, by simp, fun a ha b hb e => hk (by simp at hb; rw [← hb, ← e]; exact ha)⟩
theorem putK_N {k : Nat} : ∀ {ks : List Nat}, dputK (ks.map N) (N k) = (insK ks k).map N
  | [] => rfl
  | j :: ks => by
    rw [List.map_cons, dputK, P.beq_eq, putK_N]
    by_cases h : j = k
    · subst h
      simp [insK]
    · have h2 : ¬ N j = N k := fun e => h (N_inj e)
      have h3 : ¬ k = j := fun e => h e.symm
      rw [if_neg (by simp; omega)]
      unfold insK
      by_cases hk : k ∈ ks
      · rw [if_pos hk, if_pos (List.mem_cons_of_mem _ hk)]; rfl
      · rw [if_neg hk, if_neg (by simp [h3, hk])]; simp
theorem putV_N {k : Nat} {y : P} : ∀ {ks : List Nat}, dputV (ks.map N) (ks.map fun _ => y) (N k) y = (insK ks k).map fun _ => y
  | [] => rfl
  | j :: ks => by
    rw [List.map_cons, List.map_cons, dputV, P.beq_eq, putV_N]
    by_cases h : j = k
    · subst h
      simp [insK]
    · have h3 : ¬ k = j := fun e => h e.symm
      rw [if_neg (by simp; omega)]
      unfold insK
      by_cases hk : k ∈ ks
      · rw [if_pos hk, if_pos (List.mem_cons_of_mem _ hk)]; rfl
      · rw [if_neg hk, if_neg (by simp [h3, hk])]; simp
theorem keyOk_N {k : Nat} : ∀ {ks : List Nat}, keyOk (ks.map N) (N k) = true
  | [] => by unfold keyOk; simp [sameKind, P.isKey]
  | j :: ks => by unfold keyOk; simp [sameKind, P.isKey]
def insAll (ks l : List Nat) : List Nat := l.foldl insK ks
theorem mem_insAll {x : Nat} : ∀ {l ks : List Nat}, x ∈ insAll ks l ↔ x ∈ ks ∨ x ∈ l
  | [], ks => by simp [insAll]
  | a :: l, ks => by
    show x ∈ insAll (insK ks a) l ↔ _
    rw [mem_insAll, mem_insK, List.mem_cons, or_assoc]
theorem nodup_insAll : ∀ {l ks : List Nat}, ks.Nodup → (insAll ks l).Nodup
  | [], ks, h => h
  | a :: l, ks, h => nodup_insAll (l := l) (nodup_insK h)
theorem insAll_append {ks l m : List Nat} : insAll ks (l ++ m) = insAll (insAll ks l) m := List.foldl_append
theorem few_nodup {l : List Nat} {n : Nat} (nd : l.Nodup) (h : ∀ x ∈ l, x < n) : l.length ≤ n := by
  have e : sortN l = (List.range n).filter fun x => decide (x ∈ l) := sortN_eq nd range_filter_sorted fun x => by
    simp
    exact h x
  have l1 : (sortN l).length = l.length := (List.mergeSort_perm l _).length_eq
  have l2 := List.length_filter_le (fun x => decide (x ∈ l)) (List.range n)
  rw [← e, List.length_range] at l2
  omega
/-- a dict made by turns, each of which puts keys -/
theorem dictGo_N {α : Type} {n : Nat} (hn : n ≤ 1000) {y : P} {f : P → List P → List P → St → R (List P × List P)} {c : α → P} {g : α → List Nat} {s : St} : ∀ {l : List α} {ks : List Nat},
    (∀ x ∈ l, ∀ k ∈ g x, k < n) → (∀ x ∈ l, ∀ ks : List Nat, ks.Nodup → (∀ k ∈ ks, k < n) → f (c x) (ks.map N) (ks.map fun _ => y) s = .ok ((insAll ks (g x)).map N, (insAll ks (g x)).map fun _ => y) s) → ks.Nodup → (∀ k ∈ ks, k < n) →
    dictGo f (l.map c) (ks.map N) (ks.map fun _ => y) s = .ok ((insAll ks (l.flatMap g)).map N, (insAll ks (l.flatMap g)).map fun _ => y) s
  | [], ks, _, _, _, _ => rfl
  | x :: l, ks, hg, hf, nd, hk => by
    rw [List.map_cons, dictGo, hf x List.mem_cons_self ks nd hk, R.bind_ok', List.flatMap_cons, insAll_append]
    refine dictGo_N hn (fun x' m => hg x' (List.mem_cons_of_mem _ m)) (fun x' m => hf x' (List.mem_cons_of_mem _ m)) (nodup_insAll nd) fun k m => ?_
    rcases mem_insAll.mp m with m | m
    · exact hk k m
    · exact hg x List.mem_cons_self k m
end Ev.Pl

set_option Elab.async false
set_option linter.all false
set_option maxRecDepth 100000
set_option maxHeartbeats 4000000
set_option exponentiation.threshold 5000
namespace Ev.Pl
open PySem

/-! ### the evaluator by rules -/
section
variable {cf : Nat → List D → St → R D} {k0 : Nat} {r r1 : En} {s s1 s2 s3 : St} {e e1 e2 : E} {x y z : P} {d : D} {xs : List P}
theorem ev_var {i : Nat} (h : r[i]? = some (some d)) : evE cf (.var i) r s = .ok d s := by rw [evE, h]
theorem ev_lit : evE cf (.lit x) r s = .ok (.p x) s := by rw [evE]
theorem ev_gc {nm : Str} : evE cf (.gc x nm) r s = .ok (.p x) s := by rw [evE]
theorem ev_un {u : U} (h : evE cf e r s = .ok (.p x) s1) (hu : evU u x = some y) : evE cf (.un u e) r s = .ok (.p y) s1 := by
  rw [evE, h, R.bind_ok', show view s1 (.p x) = some x from rfl]; dsimp only; rw [hu]
theorem ev_bin {o : B} (h1 : evE cf e1 r s = .ok (.p x) s1) (h2 : evE cf e2 r s1 = .ok (.p y) s2) (ho : evB o x y = some z) : evE cf (.bin o e1 e2) r s = .ok (.p z) s2 := by
  rw [evE, h1, R.bind_ok', h2, R.bind_ok', show view s2 (.p x) = some x from rfl, show view s2 (.p y) = some y from rfl]; dsimp only; rw [ho]
theorem ev_cmp {c : C} {b : Bool} (h1 : evE cf e1 r s = .ok (.p x) s1) (h2 : evE cf e2 r s1 = .ok (.p y) s2) (ho : evC c x y = some b) : evT cf (.cmp c e1 e2) r s = .ok b s2 := by
  rw [evT, h1, R.bind_ok', h2, R.bind_ok', show view s2 (.p x) = some x from rfl, show view s2 (.p y) = some y from rfl]; dsimp only; rw [ho]
theorem ev_tv {t : T} {b : Bool} (h : evT cf t r s = .ok b s1) : evE cf (.tv t) r s = .ok (.p (.bl b)) s1 := by rw [evE, h, R.bind_ok']
theorem ev_tru {b : Bool} (h : evE cf e r s = .ok (.p (.bl b)) s1) : evT cf (.tru e) r s = .ok b s1 := by rw [evT, h, R.bind_ok']
theorem ev_not {t : T} {b : Bool} (h : evT cf t r s = .ok b s1) : evT cf (.not t) r s = .ok (!b) s1 := by rw [evT, h, R.bind_ok']
theorem ev_and {t u : T} {b c : Bool} (h : evT cf t r s = .ok b s) (h2 : b = true → evT cf u r s = .ok c s) : evT cf (.and t u) r s = .ok (b && c) s := by
  rw [evT, h, R.bind_ok']
  cases b
  · rfl
  · rw [if_pos rfl, h2 rfl]; rfl
theorem ev_or {t u : T} {b c : Bool} (h : evT cf t r s = .ok b s) (h2 : b = false → evT cf u r s = .ok c s) : evT cf (.or t u) r s = .ok (b || c) s := by
  rw [evT, h, R.bind_ok']
  cases b
  · rw [if_neg (by simp), h2 rfl]; rfl
  · rfl
theorem ev_ifT {t : T} (h : evT cf t r s = .ok true s1) (h2 : evE cf e1 r s1 = .ok d s2) : evE cf (.ife t e1 e2) r s = .ok d s2 := by rw [evE, h, R.bind_ok', if_pos rfl, h2]
theorem ev_ifF {t : T} (h : evT cf t r s = .ok false s1) (h2 : evE cf e2 r s1 = .ok d s2) : evE cf (.ife t e1 e2) r s = .ok d s2 := by rw [evE, h, R.bind_ok', if_neg (by simp), h2]
theorem ev_frz {l : L} (h : evL cf l r s = .ok xs s1) : evE cf (.frz l) r s = .ok (.p (.lst xs)) s1 := by rw [evE, h, R.bind_ok']
theorem ev_frzM {m : M} {ks vs : List P} (h : evM cf m r s = .ok (ks, vs) s1) : evE cf (.frzM m) r s = .ok (.p (.dct ks vs)) s1 := by rw [evE, h, R.bind_ok']
theorem ev_nil : evEs cf .nil r s = .ok [] s := by rw [evEs]
theorem ev_cons {es : Es} {ds : List D} (h : evE cf e r s = .ok d s1) (h2 : evEs cf es r s1 = .ok ds s2) : evEs cf (.cons e es) r s = .ok (d :: ds) s2 := by rw [evEs, h, R.bind_ok', h2, R.bind_ok']
theorem ev_call {g : Nat} {es : Es} {ds : List D} (h : evEs cf es r s = .ok ds s1) (hc : cf g ds s1 = .ok d s2) : evE cf (.call g es) r s = .ok d s2 := by rw [evE, h, R.bind_ok', hc]
/-- plain arguments -/
theorem ev_pars {es : Es} {ds : List D} (h : evEs cf es r s = .ok ds s1) (hp : perss ds = some xs) : evE cf (.tup es) r s = .ok (.p (.tup xs)) s1 := by rw [evE, h, R.bind_ok', hp]
theorem ev_disp {es : Es} {ds : List D} (h : evEs cf es r s = .ok ds s1) (hp : perss ds = some xs) : evL cf (.disp es) r s = .ok xs s1 := by rw [evL, h, R.bind_ok', hp]
theorem ev_yes : evTo cf .yes r s = .ok true s := by rw [evTo]
theorem ev_if1 {t : T} {b : Bool} (h : evT cf t r s = .ok b s1) : evTo cf (.if1 t) r s = .ok b s1 := by rw [evTo, h]
theorem ev_ex (h : evE cf e r s = .ok (.p x) s1) (hi : itemsOf x = some xs) : evI cf (.ex e) r s = .ok xs s1 := by
  rw [evI, h, R.bind_ok']; dsimp only; rw [hi]
theorem ev_rng {n : Nat} (h : evE cf e r s = .ok (.p (N n)) s1) (hn : n ≤ 1000) : evI cf (.rng1 e) r s = .ok ((List.range n).map N) s1 := by
  rw [evI, h, R.bind_ok', ← rng_N]
  exact if_pos (rngOk_N hn)
theorem ev_zip {l m : List P} (h1 : evE cf e1 r s = .ok (.p (.tup l)) s1) (h2 : evE cf e2 r s1 = .ok (.p (.tup m)) s2) : evI cf (.zip e1 e2) r s = .ok (pairsP l m) s2 := by rw [evI, h1, R.bind_ok', h2, R.bind_ok']
/-- a list made in turns -/
theorem ev_comp {α : Type} {vs : List Nat} {tg : G} {it : I} {ifs : To} {c : α → P} {p : α → Bool} {f : α → P} {l : List α} (hI : evI cf it r s = .ok (l.map c) s1)
    (hx : ∀ x ∈ l, ∃ r1, asgG tg (c x) (wipeE r vs) = some r1 ∧ evTo cf ifs r1 s1 = .ok (p x) s1 ∧ (p x = true → evE cf e r1 s1 = .ok (.p (f x)) s1)) (hl : l.length ≤ 1000) : evL cf (.comp vs tg it ifs e) r s = .ok ((l.filter p).map f) s1 := by
  have hb : ((l.filter p).map f).length ≤ big := by
    rw [List.length_map]
    exact le_big (Nat.le_trans (List.length_filter_le p l) hl)
  rw [evL, hI, R.bind_ok', compGo_map (p := p) (e := f), R.bind_ok']
  · rw [decide_eq_true hb, if_pos rfl]
  · intro x hm
    obtain ⟨r1, a1, a2, a3⟩ := hx x hm
    rw [a1]
    dsimp only
    rw [a2, R.noexc_ok, R.bind_ok']
    cases hp : p x
    · rfl
    · rw [if_pos rfl, a3 hp, R.noexc_ok, R.bind_ok']; rfl
/-- .. all of them -/
theorem ev_compA {α : Type} {vs : List Nat} {tg : G} {it : I} {c : α → P} {f : α → P} {l : List α} (hI : evI cf it r s = .ok (l.map c) s1)
    (hx : ∀ x ∈ l, ∃ r1, asgG tg (c x) (wipeE r vs) = some r1 ∧ evE cf e r1 s1 = .ok (.p (f x)) s1) (hl : l.length ≤ 1000) : evL cf (.comp vs tg it .yes e) r s = .ok (l.map f) s1 := by
  rw [ev_comp (p := fun _ => true) (f := f) hI (fun x m => let ⟨r1, a1, a2⟩ := hx x m; ⟨r1, a1, ev_yes, fun _ => a2⟩) hl, List.filter_eq_self.mpr fun _ _ => rfl]
/-! statements -/
theorem st_nil : evSs cf k0 .nil r s = .ok (.next r) s := by rw [evSs]
theorem st_ret {b : Ss} (h : evE cf e r s = .ok d s1) : evSs cf k0 (.cons (.ret e) b) r s = .ok (.ret d) s1 := by rw [evSs, evS, h, R.bind_ok', R.bind_ok']
theorem st_asg {b : Ss} {i : Nat} {res : R Fl} (h : evE cf e r s = .ok d s1) (hi : i < r.length) (h2 : evSs cf k0 b (r.set i (some d)) s1 = res) : evSs cf k0 (.cons (.asg i e) b) r s = res := by
  rw [evSs, evS, h, R.bind_ok', if_pos hi, R.bind_ok']; exact h2
theorem st_ex {b : Ss} {res : R Fl} (h : evE cf e r s = .ok d s1) (h2 : evSs cf k0 b r s1 = res) : evSs cf k0 (.cons (.ex e) b) r s = res := by
  rw [evSs, evS, h, R.bind_ok', R.bind_ok']; exact h2
theorem st_ifF {b : Ss} {t : T} {u v : Ss} {res : R Fl} (h : evT cf t r s = .ok false s1) (h2 : evSs cf k0 v r s1 = .ok (.next r1) s2) (h3 : evSs cf k0 b r1 s2 = res) : evSs cf k0 (.cons (.ife t u v) b) r s = res := by
  rw [evSs, evS, h, R.bind_ok', if_neg (by simp), h2, R.bind_ok']; exact h3
theorem st_ifT {b : Ss} {t : T} {u v : Ss} (h : evT cf t r s = .ok true s1) (h2 : evSs cf k0 u r s1 = .ok (.ret d) s2) : evSs cf k0 (.cons (.ife t u v) b) r s = .ok (.ret d) s2 := by
  rw [evSs, evS, h, R.bind_ok', if_pos rfl, h2, R.bind_ok']
/-- an if without an else, its test false -/
theorem st_if0 {b : Ss} {t : T} {u : Ss} {res : R Fl} (h : evT cf t r s = .ok false s1) (h3 : evSs cf k0 b r s1 = res) : evSs cf k0 (.cons (.ife t u .nil) b) r s = res := st_ifF h st_nil h3
/-- a def that answers a plain value, the store as it was -/
theorem fn_pure {Tb : List Fn} {n g : Nat} {as : List D} {f : Fn} (h : Tb[g]? = some f) (hl : as.length = f.np) (hb : evSs (callN Tb n) s.length f.body (enter f as) s = .ok (.ret (.p x)) s) : callN Tb (n + 1) g as s = .ok (.p x) s := by
  rw [callN_at h hl, hb, leave_ret]
end
end Ev.Pl

set_option Elab.async false
set_option linter.all false
set_option maxRecDepth 100000
set_option maxHeartbeats 4000000
set_option exponentiation.threshold 5000
namespace Ev.Pl
open PySem

/-! ### rules for dicts, sorted lists -/
section
variable {cf : Nat → List D → St → R D} {k0 : Nat} {r r1 : En} {s s1 s2 s3 : St} {e e1 e2 : E} {x y z : P} {d : D} {xs : List P}
theorem few_ok {n : Nat} (hn : n ≤ 1000) {ks : List Nat} (nd : ks.Nodup) (h : ∀ k ∈ ks, k < n) : ks.length < big := by
  have := few_nodup nd h
  have := le_big (k := 1000) (Nat.le_refl _)
  exact Nat.lt_of_lt_of_le (m := 1001) (by omega) (Nat.le_trans (show 1001 ≤ 1001 from Nat.le_refl _) (by unfold big; decide))
theorem flat_one {α β : Type} (f : α → β) : ∀ l : List α, l.map f = l.flatMap fun x => [f x]
  | [] => rfl
  | a :: l => by rw [List.map_cons, List.flatMap_cons, flat_one f l]; rfl
theorem turn_N {n : Nat} (hn : n ≤ 1000) {ks : List Nat} {k : Nat} (nd : ks.Nodup) (h : ∀ k ∈ ks, k < n) {s5 : St} : (if keyOk (ks.map N) (N k) && decide ((ks.map N).length < big) then R.ok (dputK (ks.map N) (N k), dputV (ks.map N) (ks.map fun _ => y) (N k) y) s5 else .bad) = .ok ((insAll ks [k]).map N, (insAll ks [k]).map fun _ => y) s5 := by
  rw [keyOk_N, List.length_map, decide_eq_true (few_ok hn nd h), putK_N, putV_N]; rfl
theorem ev_compM {α : Type} {n : Nat} (hn : n ≤ 1000) {vs : List Nat} {tg : G} {it : I} {c : α → P} {f : α → Nat} {l : List α} (hI : evI cf it r s = .ok (l.map c) s1)
    (hx : ∀ x ∈ l, ∃ r1, asgG tg (c x) (wipeE r vs) = some r1 ∧ f x < n ∧ evE cf e1 r1 s1 = .ok (.p (N (f x))) s1 ∧ evE cf e2 r1 s1 = .ok (.p y) s1) :
    evM cf (.comp vs tg it .yes e1 e2) r s = .ok ((insAll [] (l.map f)).map N, (insAll [] (l.map f)).map fun _ => y) s1 := by
  rw [evM, hI, R.bind_ok']
  have e : l.map f = l.flatMap fun x => [f x] := flat_one f l
  rw [e]
  refine dictGo_N (ks := []) hn (fun x m k hk => ?_) (fun x m ks nd hk => ?_) .nil (fun k m => by cases m)
  · obtain ⟨_, _, h, _⟩ := hx x m
    rw [List.mem_singleton.mp hk]; exact h
  · obtain ⟨r1, a1, a2, a3, a4⟩ := hx x m
    rw [a1]
    dsimp only
    rw [ev_yes, R.noexc_ok, R.bind_ok', if_pos rfl, a3, R.noexc_ok, R.bind_ok', a4, R.noexc_ok, R.bind_ok']
    exact turn_N hn nd hk
theorem ev_comp2M {α : Type} {n : Nat} (hn : n ≤ 1000) {vs vs1 : List Nat} {tg tg1 : G} {it it1 : I} {c : α → P} {g : α → List Nat} {l : List α} (hI : evI cf it r s = .ok (l.map c) s1)
    (hx : ∀ x ∈ l, ∃ r1, asgG tg (c x) (wipeE r vs) = some r1 ∧ evI cf it1 r1 s1 = .ok ((g x).map N) s1 ∧ ∀ k ∈ g x, k < n ∧ ∃ r2, asgG tg1 (N k) (wipeE r1 vs1) = some r2 ∧ evE cf e1 r2 s1 = .ok (.p (N k)) s1 ∧ evE cf e2 r2 s1 = .ok (.p y) s1) :
    evM cf (.comp2 vs tg it .yes vs1 tg1 it1 .yes e1 e2) r s = .ok ((insAll [] (l.flatMap g)).map N, (insAll [] (l.flatMap g)).map fun _ => y) s1 := by
  rw [evM, hI, R.bind_ok']
  refine dictGo_N (ks := []) hn (fun x m k hk => ?_) (fun x m ks nd hk => ?_) .nil (fun k m => by cases m)
  · obtain ⟨_, _, _, h⟩ := hx x m
    exact (h k hk).1
  · obtain ⟨r1, a1, a2, a3⟩ := hx x m
    rw [a1]
    dsimp only
    rw [ev_yes, R.noexc_ok, R.bind_ok', if_pos rfl, a2, R.noexc_ok, R.bind_ok']
    have e : g x = (g x).flatMap fun k => [k] := by rw [← flat_one (fun k => k), List.map_id']
    conv => rhs; rw [e]
    refine dictGo_N hn (fun k m j hj => ?_) (fun k m ks' nd' hk' => ?_) nd hk
    · rw [List.mem_singleton.mp hj]; exact (a3 k m).1
    · obtain ⟨_, r2, b1, b2, b3⟩ := a3 k m
      rw [b1]
      dsimp only
      rw [ev_yes, R.noexc_ok, R.bind_ok', if_pos rfl, b2, R.noexc_ok, R.bind_ok', b3, R.noexc_ok, R.bind_ok']
      exact turn_N hn nd' hk'
theorem ev_sortD {ks : List Nat} {vs : List P} (h : evE cf e r s = .ok (.p (.dct (ks.map N) vs)) s1) : evL cf (.sorted .int e) r s = .ok ((sortN ks).map N) s1 := by
  rw [evL, h, R.bind_ok', show view s1 (.p (.dct (ks.map N) vs)) = some (.dct (ks.map N) vs) from rfl]
  dsimp only
  rw [hasAll_N, srt_int, sortP_N]; rfl
end
end Ev.Pl

set_option Elab.async false
set_option linter.all false
set_option maxRecDepth 100000
set_option maxHeartbeats 4000000
namespace Ev
open PySem
def t_is_whole : Fn := { np := 3, ns := 3, body := (.cons (.ret (.tv (.and (.tru (.un .isInt (.var 0))) (.and (.not (.tru (.un .isBool (.var 0)))) (.chain .le .le (.var 1) (.var 0) (.var 2)))))) .nil) }
def t_is_tuple_of : Fn := { np := 3, ns := 3, body := (.cons (.ret (.tv (.and (.tru (.un .isTup (.var 0))) (.chain .le .le (.var 1) (.un .len (.var 0)) (.var 2))))) .nil) }
def t_is_rising : Fn := { np := 1, ns := 3, body := (.cons (.ret (.un .all (.frz (.comp [1, 2] (.tup (.cons (.name 1) (.cons (.name 2) .nil))) (.zip (.var 0) (.slc (.var 0) (.some (.lit (.int 1))) .none)) .yes (.tv (.cmp .lt (.var 1) (.var 2))))))) .nil) }
def t_fits_meeting : Fn := { np := 1, ns := 4, body := (.cons (.ife (.not (.tru (.call 1 (.cons (.var 0) (.cons (.lit (.int 1)) (.cons (.gc (.int 6) (PySem.Str.ofString "MEMBERS")) .nil)))))) (.cons (.ret (.lit (.bl false))) .nil) .nil) (.cons (.asg 1 (.un .len (.var 0))) (.cons (.ife (.not (.tru (.un .all (.frz (.comp [2] (.name 2) (.ex (.var 0)) .yes (.tv (.and (.tru (.call 1 (.cons (.var 2) (.cons (.var 1) (.cons (.var 1) .nil))))) (.tru (.un .all (.frz (.comp [3] (.name 3) (.ex (.var 2)) .yes (.call 0 (.cons (.var 3) (.cons (.lit (.int 0)) (.cons (.gc (.int 99) (PySem.Str.ofString "WEIGHT")) .nil))))))))))))))) (.cons (.ret (.lit (.bl false))) .nil) .nil) (.cons (.ret (.un .all (.frz (.comp [2] (.name 2) (.ex (.var 0)) .yes (.tv (.cmp .gt (.un .sum (.var 2)) (.lit (.int 0)))))))) .nil)))) }
def t_fits_book : Fn := { np := 1, ns := 2, body := (.cons (.ife (.or (.not (.tru (.call 1 (.cons (.var 0) (.cons (.lit (.int 1)) (.cons (.gc (.int 6) (PySem.Str.ofString "MEETINGS")) .nil)))))) (.not (.tru (.un .all (.frz (.comp [1] (.name 1) (.ex (.var 0)) .yes (.call 3 (.cons (.var 1) .nil)))))))) (.cons (.ret (.lit (.bl false))) .nil) .nil) (.cons (.ret (.un .all (.frz (.comp [1] (.name 1) (.ex (.var 0)) .yes (.tv (.cmp .eq (.un .len (.var 1)) (.un .len (.bin .idx (.var 0) (.lit (.int 0)))))))))) .nil)) }
def t_need_book : Fn := { np := 1, ns := 1, body := (.cons (.ife (.not (.tru (.call 4 (.cons (.var 0) .nil)))) (.cons (.raise 48 .nil) .nil) .nil) .nil) }
def t_fits_lot : Fn := { np := 2, ns := 3, body := (.cons (.ife (.or (.not (.tru (.call 1 (.cons (.var 1) (.cons (.lit (.int 1)) (.cons (.var 0) .nil)))))) (.not (.tru (.un .all (.frz (.comp [2] (.name 2) (.ex (.var 1)) .yes (.call 0 (.cons (.var 2) (.cons (.lit (.int 0)) (.cons (.bin .sub (.var 0) (.lit (.int 1))) .nil)))))))))) (.cons (.ret (.lit (.bl false))) .nil) .nil) (.cons (.ret (.call 2 (.cons (.var 1) .nil))) .nil)) }
def t_need_member : Fn := { np := 2, ns := 2, body := (.cons (.ife (.not (.tru (.call 0 (.cons (.var 1) (.cons (.lit (.int 0)) (.cons (.bin .sub (.var 0) (.lit (.int 1))) .nil)))))) (.cons (.raise 49 .nil) .nil) .nil) .nil) }
def t_divisor_of : Fn := { np := 2, ns := 2, body := (.cons (.whl (.slot 1) (.cmp .gt (.var 1) (.lit (.int 0))) (.cons (.par [0, 1] (.cons (.var 1) (.cons (.bin .mod (.var 0) (.var 1)) .nil))) .nil)) (.cons (.ret (.var 0)) .nil)) }
def t_lowest : Fn := { np := 2, ns := 3, body := (.cons (.asg 2 (.call 8 (.cons (.un .abs (.var 0)) (.cons (.var 1) .nil)))) (.cons (.ret (.tup (.cons (.bin .fdiv (.var 0) (.var 2)) (.cons (.bin .fdiv (.var 1) (.var 2)) .nil)))) .nil)) }
def t_fits_fraction : Fn := { np := 1, ns := 1, body := (.cons (.ife (.or (.not (.tru (.call 1 (.cons (.var 0) (.cons (.lit (.int 2)) (.cons (.lit (.int 2)) .nil)))))) (.or (.not (.tru (.call 0 (.cons (.bin .idx (.var 0) (.lit (.int 0))) (.cons (.un .neg (.gc (.int 1000000) (PySem.Str.ofString "BOUND"))) (.cons (.gc (.int 1000000) (PySem.Str.ofString "BOUND")) .nil)))))) (.not (.tru (.call 0 (.cons (.bin .idx (.var 0) (.lit (.int 1))) (.cons (.lit (.int 1)) (.cons (.gc (.int 1000000) (PySem.Str.ofString "BOUND")) .nil)))))))) (.cons (.ret (.lit (.bl false))) .nil) .nil) (.cons (.ret (.tv (.cmp .eq (.call 8 (.cons (.un .abs (.bin .idx (.var 0) (.lit (.int 0)))) (.cons (.bin .idx (.var 0) (.lit (.int 1))) .nil))) (.lit (.int 1))))) .nil)) }
def t_table_in : Fn := { np := 1, ns := 3, body := (.cons (.ret (.un .tuple (.frz (.comp [1] (.name 1) (.ex (.var 0)) .yes (.un .tuple (.frz (.comp [2] (.name 2) (.ex (.var 1)) .yes (.call 9 (.cons (.var 2) (.cons (.un .sum (.var 1)) .nil)))))))))) .nil) }
def t_fits_numbers : Fn := { np := 2, ns := 3, body := (.cons (.ret (.tv (.and (.tru (.call 1 (.cons (.var 1) (.cons (.var 0) (.cons (.var 0) .nil))))) (.tru (.un .all (.frz (.comp [2] (.name 2) (.ex (.var 1)) .yes (.call 10 (.cons (.var 2) .nil))))))))) .nil) }
def t_need_numbers : Fn := { np := 2, ns := 2, body := (.cons (.ife (.not (.tru (.call 12 (.cons (.var 0) (.cons (.var 1) .nil))))) (.cons (.raise 50 .nil) .nil) .nil) .nil) }
def t_need_row : Fn := { np := 1, ns := 2, body := (.cons (.ife (.or (.not (.tru (.call 1 (.cons (.var 0) (.cons (.lit (.int 1)) (.cons (.lit (.int 6)) .nil)))))) (.not (.tru (.un .all (.frz (.comp [1] (.name 1) (.ex (.var 0)) .yes (.call 10 (.cons (.var 1) .nil)))))))) (.cons (.raise 50 .nil) .nil) .nil) .nil) }
def t_fits_order : Fn := { np := 2, ns := 3, body := (.cons (.ife (.or (.not (.tru (.call 1 (.cons (.var 1) (.cons (.var 0) (.cons (.var 0) .nil)))))) (.not (.tru (.un .all (.frz (.comp [2] (.name 2) (.ex (.var 1)) .yes (.call 0 (.cons (.var 2) (.cons (.lit (.int 0)) (.cons (.bin .sub (.var 0) (.lit (.int 1))) .nil)))))))))) (.cons (.ret (.lit (.bl false))) .nil) .nil) (.cons (.ret (.tv (.cmp .eq (.un .len (.frzM (.comp [2] (.name 2) (.ex (.var 1)) .yes (.var 2) (.lit (.bl true))))) (.var 0)))) .nil)) }
def t_need_order : Fn := { np := 2, ns := 2, body := (.cons (.ife (.not (.tru (.call 15 (.cons (.var 0) (.cons (.var 1) .nil))))) (.cons (.raise 49 .nil) .nil) .nil) .nil) }
def t_renamed : Fn := { np := 2, ns := 4, body := (.cons (.ret (.un .tuple (.frz (.comp [2] (.name 2) (.ex (.var 1)) .yes (.un .tuple (.frz (.comp [3] (.name 3) (.ex (.var 1)) .yes (.bin .idx (.bin .idx (.var 0) (.var 2)) (.var 3))))))))) .nil) }
def t_fits_lumps : Fn := { np := 2, ns := 4, body := (.cons (.ife (.or (.not (.tru (.call 1 (.cons (.var 1) (.cons (.lit (.int 1)) (.cons (.var 0) .nil)))))) (.or (.not (.tru (.un .all (.frz (.comp [2] (.name 2) (.ex (.var 1)) .yes (.call 6 (.cons (.var 0) (.cons (.var 2) .nil)))))))) (.not (.tru (.call 2 (.cons (.var 1) .nil)))))) (.cons (.ret (.lit (.bl false))) .nil) .nil) (.cons (.ret (.tv (.cmp .eq (.frz (.sorted .int (.frz (.comp2 [2, 3] (.name 2) (.ex (.var 1)) .yes [3] (.name 3) (.ex (.var 2)) .yes (.var 3))))) (.frz (.ofR (.rng1 (.var 0))))))) .nil)) }
def t_need_lumps : Fn := { np := 2, ns := 2, body := (.cons (.ex (.call 5 (.cons (.var 0) .nil))) (.cons (.ife (.not (.tru (.call 18 (.cons (.un .len (.bin .idx (.var 0) (.lit (.int 0)))) (.cons (.var 1) .nil))))) (.cons (.raise 49 .nil) .nil) .nil) .nil)) }
def t_part_for : Fn := { np := 2, ns := 3, body := (.cons (.ret (.call 9 (.cons (.un .sum (.frz (.comp [2] (.name 2) (.ex (.var 1)) .yes (.bin .idx (.var 0) (.var 2))))) (.cons (.un .sum (.var 0)) .nil)))) .nil) }
def t_is_lumped : Fn := { np := 2, ns := 6, body := (.cons (.fo (.name 2) (.ex (.var 1)) (.cons (.fo (.name 3) (.ex (.var 1)) (.cons (.asg 4 (.frz (.comp [5] (.name 5) (.ex (.var 2)) .yes (.call 20 (.cons (.bin .idx (.var 0) (.var 5)) (.cons (.var 3) .nil)))))) (.cons (.ife (.tru (.un .any (.frz (.comp [5] (.name 5) (.ex (.var 4)) .yes (.tv (.cmp .ne (.var 5) (.bin .idx (.var 4) (.lit (.int 0))))))))) (.cons (.ret (.lit (.bl false))) .nil) .nil) .nil))) .nil)) (.cons (.ret (.lit (.bl true))) .nil)) }
def t_lumped : Fn := { np := 2, ns := 5, body := (.cons (.ret (.un .tuple (.frz (.comp [2] (.name 2) (.ex (.var 1)) .yes (.un .tuple (.frz (.comp [3] (.name 3) (.ex (.var 1)) .yes (.un .sum (.frz (.comp [4] (.name 4) (.ex (.var 3)) .yes (.bin .idx (.bin .idx (.var 0) (.bin .idx (.var 2) (.lit (.int 0)))) (.var 4)))))))))))) .nil) }
def t_partitions_of : Fn := { np := 1, ns := 7, body := (.cons (.asg 1 (.frz (.disp (.cons (.tup .nil) .nil)))) (.cons (.fo (.name 2) (.rng1 (.var 0)) (.cons (.asg 3 (.new (.disp .nil))) (.cons (.fo (.name 4) (.ex (.var 1)) (.cons (.app 3 (.bin .add (.var 4) (.tup (.cons (.tup (.cons (.var 2) .nil)) .nil)))) (.cons (.fo (.tup (.cons (.name 5) (.cons (.name 6) .nil))) (.enum (.var 4)) (.cons (.app 3 (.bin .add (.bin .add (.slc (.var 4) .none (.some (.var 5))) (.tup (.cons (.bin .add (.var 6) (.tup (.cons (.var 2) .nil))) .nil))) (.slc (.var 4) (.some (.bin .add (.var 5) (.lit (.int 1)))) .none))) .nil)) .nil))) (.cons (.asg 1 (.fz 3)) .nil)))) (.cons (.ret (.frz (.sorted (.seq (.seq .int)) (.var 1)))) .nil))) }
def t_orders_of : Fn := { np := 1, ns := 5, body := (.cons (.asg 1 (.frz (.disp (.cons (.tup .nil) .nil)))) (.cons (.fo (.name 2) (.rng1 (.var 0)) (.cons (.asg 1 (.frz (.comp2 [3, 4] (.name 3) (.ex (.var 1)) .yes [4] (.name 4) (.rng1 (.var 0)) (.if1 (.cmp .notin (.var 4) (.var 3))) (.bin .add (.var 3) (.tup (.cons (.var 4) .nil)))))) .nil)) (.cons (.ret (.frz (.sorted (.seq .int) (.var 1)))) .nil))) }
def t_is_same_under : Fn := { np := 2, ns := 3, body := (.cons (.ret (.un .all (.frz (.comp [2] (.name 2) (.ex (.var 0)) .yes (.tv (.cmp .eq (.call 11 (.cons (.call 17 (.cons (.var 2) (.cons (.var 1) .nil))) .nil)) (.call 11 (.cons (.var 2) .nil)))))))) .nil) }
def t_renamed_book : Fn := { np := 2, ns := 3, body := (.cons (.ex (.call 5 (.cons (.var 0) .nil))) (.cons (.ex (.call 16 (.cons (.un .len (.bin .idx (.var 0) (.lit (.int 0)))) (.cons (.var 1) .nil)))) (.cons (.ret (.un .tuple (.frz (.comp [2] (.name 2) (.ex (.var 0)) .yes (.call 17 (.cons (.var 2) (.cons (.var 1) .nil))))))) .nil))) }
def t_renamed_numbers : Fn := { np := 2, ns := 3, body := (.cons (.ex (.call 14 (.cons (.var 0) .nil))) (.cons (.ex (.call 16 (.cons (.un .len (.var 0)) (.cons (.var 1) .nil)))) (.cons (.ret (.un .tuple (.frz (.comp [2] (.name 2) (.ex (.var 1)) .yes (.bin .idx (.var 0) (.var 2)))))) .nil))) }
def t_order_back : Fn := { np := 1, ns := 2, body := (.cons (.ife (.or (.not (.tru (.un .isTup (.var 0)))) (.or (.not (.tru (.call 15 (.cons (.un .len (.var 0)) (.cons (.var 0) .nil))))) (.not (.chain .le .le (.lit (.int 1)) (.un .len (.var 0)) (.gc (.int 6) (PySem.Str.ofString "MEMBERS")))))) (.cons (.raise 49 .nil) .nil) .nil) (.cons (.ret (.un .tuple (.frz (.comp [1] (.name 1) (.rng1 (.un .len (.var 0))) .yes (.idxOf (.var 0) (.var 1)))))) .nil)) }
def t_side_by_side : Fn := { np := 2, ns := 8, body := (.cons (.ex (.call 5 (.cons (.var 0) .nil))) (.cons (.ex (.call 5 (.cons (.var 1) .nil))) (.cons (.ife (.or (.cmp .ne (.un .len (.var 0)) (.un .len (.var 1))) (.cmp .gt (.bin .add (.un .len (.bin .idx (.var 0) (.lit (.int 0)))) (.un .len (.bin .idx (.var 1) (.lit (.int 0))))) (.gc (.int 6) (PySem.Str.ofString "MEMBERS")))) (.cons (.raise 48 .nil) .nil) .nil) (.cons (.par [3, 4] (.cons (.bin .mul (.tup (.cons (.lit (.int 0)) .nil)) (.un .len (.bin .idx (.var 0) (.lit (.int 0))))) (.cons (.bin .mul (.tup (.cons (.lit (.int 0)) .nil)) (.un .len (.bin .idx (.var 1) (.lit (.int 0))))) .nil))) (.cons (.asg 2 (.new (.disp .nil))) (.cons (.fo (.tup (.cons (.name 5) (.cons (.name 6) .nil))) (.zip (.var 0) (.var 1)) (.cons (.app 2 (.un .tuple (.frz (.cat (.frz (.comp [7] (.name 7) (.ex (.var 5)) .yes (.bin .add (.var 7) (.var 4)))) (.frz (.comp [7] (.name 7) (.ex (.var 6)) .yes (.bin .add (.var 3) (.var 7)))))))) .nil)) (.cons (.ret (.un .tuple (.var 2))) .nil))))))) }
def t_joined_books : Fn := { np := 2, ns := 2, body := (.cons (.ex (.call 5 (.cons (.var 0) .nil))) (.cons (.ex (.call 5 (.cons (.var 1) .nil))) (.cons (.ife (.cmp .ne (.un .len (.bin .idx (.var 0) (.lit (.int 0)))) (.un .len (.bin .idx (.var 1) (.lit (.int 0))))) (.cons (.raise 48 .nil) .nil) .nil) (.cons (.ex (.call 5 (.cons (.bin .add (.var 0) (.var 1)) .nil))) (.cons (.ret (.bin .add (.var 0) (.var 1))) .nil))))) }
def t_can_lump : Fn := { np := 2, ns := 3, body := (.cons (.ex (.call 19 (.cons (.var 0) (.cons (.var 1) .nil)))) (.cons (.ret (.un .all (.frz (.comp [2] (.name 2) (.ex (.var 0)) .yes (.call 21 (.cons (.var 2) (.cons (.var 1) .nil))))))) .nil)) }
def t_lumped_book : Fn := { np := 2, ns := 4, body := (.cons (.ex (.call 19 (.cons (.var 0) (.cons (.var 1) .nil)))) (.cons (.ife (.not (.tru (.un .all (.frz (.comp [3] (.name 3) (.ex (.var 0)) .yes (.call 21 (.cons (.var 3) (.cons (.var 1) .nil)))))))) (.cons (.raise 49 .nil) .nil) .nil) (.cons (.asg 2 (.un .tuple (.frz (.comp [3] (.name 3) (.ex (.var 0)) .yes (.call 24 (.cons (.var 3) (.cons (.var 1) .nil))))))) (.cons (.ex (.call 5 (.cons (.var 2) .nil))) (.cons (.ret (.var 2)) .nil))))) }
def t_lumped_numbers : Fn := { np := 2, ns := 4, body := (.cons (.ex (.call 14 (.cons (.var 0) .nil))) (.cons (.ife (.not (.tru (.call 18 (.cons (.un .len (.var 0)) (.cons (.var 1) .nil))))) (.cons (.raise 49 .nil) .nil) .nil) (.cons (.ife (.tru (.un .any (.frz (.comp2 [2, 3] (.name 2) (.ex (.var 1)) .yes [3] (.name 3) (.ex (.var 2)) .yes (.tv (.cmp .ne (.bin .idx (.var 0) (.var 3)) (.bin .idx (.var 0) (.bin .idx (.var 2) (.lit (.int 0)))))))))) (.cons (.raise 50 .nil) .nil) .nil) (.cons (.ret (.un .tuple (.frz (.comp [2] (.name 2) (.ex (.var 1)) .yes (.bin .idx (.var 0) (.bin .idx (.var 2) (.lit (.int 0)))))))) .nil)))) }
def t_spread_numbers : Fn := { np := 2, ns := 6, body := (.cons (.ex (.call 14 (.cons (.var 0) .nil))) (.cons (.asg 2 (.ife (.tru (.call 37 (.cons (.var 1) .nil))) (.un .sum (.frz (.comp [3] (.name 3) (.ex (.var 1)) .yes (.un .len (.var 3))))) (.lit (.int 0)))) (.cons (.ife (.or (.cmp .gt (.var 2) (.gc (.int 6) (PySem.Str.ofString "MEMBERS"))) (.not (.tru (.call 18 (.cons (.var 2) (.cons (.var 1) .nil)))))) (.cons (.raise 49 .nil) .nil) .nil) (.cons (.ex (.call 13 (.cons (.un .len (.var 1)) (.cons (.var 0) .nil)))) (.cons (.ret (.un .tuple (.frz (.comp [3] (.name 3) (.rng1 (.var 2)) .yes (.bin .idx (.var 0) (.bin .idx (.frz (.comp [4, 5] (.tup (.cons (.name 4) (.cons (.name 5) .nil))) (.enum (.var 1)) (.if1 (.cmp .isin (.var 3) (.var 5))) (.var 4))) (.lit (.int 0)))))))) .nil))))) }
def t_are_lots : Fn := { np := 1, ns := 2, body := (.cons (.ret (.tv (.and (.tru (.un .isTup (.var 0))) (.tru (.un .all (.frz (.comp [1] (.name 1) (.ex (.var 0)) .yes (.un .isTup (.var 1))))))))) .nil) }
def t_lumps_of : Fn := { np := 1, ns := 5, body := (.cons (.ex (.call 5 (.cons (.var 0) .nil))) (.cons (.asg 1 (.call 25 (.cons (.un .len (.bin .idx (.var 0) (.lit (.int 0)))) .nil))) (.cons (.asg 2 (.frz (.comp [3] (.name 3) (.ex (.var 1)) (.if1 (.tru (.un .all (.frz (.comp [4] (.name 4) (.ex (.var 0)) .yes (.call 21 (.cons (.var 4) (.cons (.var 3) .nil)))))))) (.var 3)))) (.cons (.ife (.cmp .gt (.un .len (.var 2)) (.gc (.int 100) (PySem.Str.ofString "LUMPS"))) (.cons (.raise 51 (.cons (.gc (.int 100) (PySem.Str.ofString "LUMPS")) .nil)) .nil) .nil) (.cons (.ret (.un .tuple (.var 2))) .nil))))) }
def t_alike_members : Fn := { np := 1, ns := 9, body := (.cons (.ex (.call 5 (.cons (.var 0) .nil))) (.cons (.asg 1 (.frz (.comp [4] (.name 4) (.ex (.var 0)) .yes (.call 11 (.cons (.var 4) .nil))))) (.cons (.asg 2 (.rngv (.un .len (.bin .idx (.var 0) (.lit (.int 0)))))) (.cons (.asg 3 (.frz (.comp2 [5, 6] (.name 5) (.ex (.var 2)) .yes [6] (.name 6) (.ex (.var 2)) (.if1 (.cmp .lt (.var 5) (.var 6))) (.tup (.cons (.var 5) (.cons (.var 6) .nil)))))) (.cons (.ret (.un .tuple (.frz (.comp [7] (.name 7) (.ex (.var 3)) (.if1 (.tru (.un .all (.frz (.comp [8] (.name 8) (.ex (.var 1)) .yes (.tv (.cmp .eq (.bin .idx (.var 8) (.bin .idx (.var 7) (.lit (.int 0)))) (.bin .idx (.var 8) (.bin .idx (.var 7) (.lit (.int 1))))))))))) (.var 7))))) .nil))))) }
def t_same_orders : Fn := { np := 1, ns := 2, body := (.cons (.ex (.call 5 (.cons (.var 0) .nil))) (.cons (.ret (.un .tuple (.frz (.comp [1] (.name 1) (.ex (.call 26 (.cons (.un .len (.bin .idx (.var 0) (.lit (.int 0)))) .nil))) (.if1 (.tru (.call 27 (.cons (.var 0) (.cons (.var 1) .nil))))) (.var 1))))) .nil)) }
def t_is_same_order : Fn := { np := 2, ns := 2, body := (.cons (.ex (.call 5 (.cons (.var 0) .nil))) (.cons (.ret (.tv (.and (.tru (.call 15 (.cons (.un .len (.bin .idx (.var 0) (.lit (.int 0)))) (.cons (.var 1) .nil)))) (.tru (.call 27 (.cons (.var 0) (.cons (.var 1) .nil))))))) .nil)) }
def t_exchanged_with : Fn := { np := 2, ns := 4, body := (.cons (.ex (.call 5 (.cons (.var 0) .nil))) (.cons (.ex (.call 7 (.cons (.un .len (.bin .idx (.var 0) (.lit (.int 0)))) (.cons (.var 1) .nil)))) (.cons (.asg 2 (.frz (.comp [3] (.name 3) (.ex (.call 26 (.cons (.un .len (.bin .idx (.var 0) (.lit (.int 0)))) .nil))) (.if1 (.tru (.call 27 (.cons (.var 0) (.cons (.var 3) .nil))))) (.var 3)))) (.cons (.ret (.un .tuple (.frz (.sorted .int (.frzM (.comp [3] (.name 3) (.ex (.var 2)) .yes (.bin .idx (.var 3) (.var 1)) (.lit (.bl true)))))))) .nil)))) }
def t_order_between : Fn := { np := 2, ns := 6, body := (.cons (.ex (.call 5 (.cons (.var 0) .nil))) (.cons (.ex (.call 5 (.cons (.var 1) .nil))) (.cons (.ife (.or (.cmp .ne (.un .len (.var 0)) (.un .len (.var 1))) (.cmp .ne (.un .len (.bin .idx (.var 0) (.lit (.int 0)))) (.un .len (.bin .idx (.var 1) (.lit (.int 0)))))) (.cons (.ret (.lit .non)) .nil) .nil) (.cons (.asg 2 (.frz (.comp [4] (.name 4) (.ex (.var 1)) .yes (.call 11 (.cons (.var 4) .nil))))) (.cons (.fo (.name 3) (.ex (.call 26 (.cons (.un .len (.bin .idx (.var 0) (.lit (.int 0)))) .nil))) (.cons (.ife (.tru (.un .all (.frz (.comp [4, 5] (.tup (.cons (.name 4) (.cons (.name 5) .nil))) (.zip (.var 0) (.var 2)) .yes (.tv (.cmp .eq (.call 11 (.cons (.call 17 (.cons (.var 4) (.cons (.var 3) .nil))) .nil)) (.var 5))))))) (.cons (.ret (.var 3)) .nil) .nil) .nil)) (.cons (.ret (.lit .non)) .nil)))))) }
def t_law_cup : Fn := { np := 1, ns := 2, body := (.cons (.asg 1 (.un .abs (.bin .idx (.frz (.cat (.frz (.ofE (.var 0))) (.frz (.disp (.cons (.lit (.int 0)) .nil))))) (.lit (.int 0))))) (.cons (.ret (.new (.disp (.cons (.ife (.cmp .ge (.var 1) (.bin .pow (.lit (.int 10)) (.lit (.int 18)))) (.bin .fdiv (.var 1) (.lit (.int 311))) (.lit (.int 0))) (.cons (.bin .add (.bin .mod (.un .int (.bin .add (.bin .mul (.var 1) (.lit (.int 641))) (.lit (.int 5449)))) (.lit (.int 2077503101))) (.lit (.int 431))) .nil))))) .nil)) }
def t_law_roll : Fn := { np := 2, ns := 4, body := (.cons (.ife (.cmp .gt (.bin .idx (.var 0) (.lit (.int 0))) (.lit (.int 0))) (.cons (.asg 3 (.bin .mod (.un .int (.bin .idx (.var 0) (.lit (.int 0)))) (.var 1))) (.cons (.put 0 (.lit (.int 0)) (.bin .fdiv (.bin .idx (.var 0) (.lit (.int 0))) (.var 1))) (.cons (.ret (.var 3)) .nil))) .nil) (.cons (.put 0 (.lit (.int 1)) (.bin .mod (.un .int (.bin .add (.bin .mul (.bin .idx (.var 0) (.lit (.int 1))) (.lit (.int 31339))) (.lit (.int 8395)))) (.lit (.int 2147483399)))) (.cons (.asg 2 (.bin .mod (.un .int (.bin .mul (.bin .idx (.var 0) (.lit (.int 1))) (.bin .add (.bin .idx (.var 0) (.lit (.int 1))) (.lit (.int 665))))) (.lit (.int 2147483563)))) (.cons (.ret (.bin .mod (.un .int (.bin .fdiv (.var 2) (.lit (.int 797)))) (.var 1))) .nil)))) }
def t_law_book_words : Fn := { np := 4, ns := 6, body := (.cons (.asg 4 (.new (.comp [5] (.name 5) (.ex (.tup (.cons (.glo 38) (.cons (.glo 39) (.cons (.glo 40) .nil))))) .yes (.word 0 (.str (PySem.Str.ofString "")) [(48, .txt (.str (PySem.Str.ofString "meeting"))), (49, .txt (.str (PySem.Str.ofString "member"))), (50, .txt (.str (PySem.Str.ofString "numbers"))), (51, .pre (PySem.Str.ofString "many "))] (.callv 5 (.cons (.var 0) .nil)))))) (.cons (.app 4 (.word 0 (.str (PySem.Str.ofString "")) [(48, .txt (.str (PySem.Str.ofString "meeting"))), (49, .txt (.str (PySem.Str.ofString "member"))), (50, .txt (.str (PySem.Str.ofString "numbers"))), (51, .pre (PySem.Str.ofString "many "))] (.call 41 (.cons (.var 0) (.cons (.lit .non) .nil))))) (.cons (.app 4 (.word 0 (.str (PySem.Str.ofString "")) [(48, .txt (.str (PySem.Str.ofString "meeting"))), (49, .txt (.str (PySem.Str.ofString "member"))), (50, .txt (.str (PySem.Str.ofString "numbers"))), (51, .pre (PySem.Str.ofString "many "))] (.call 28 (.cons (.var 0) (.cons (.var 1) .nil))))) (.cons (.asg 4 (.new (.cat (.var 4) (.frz (.comp [5] (.name 5) (.ex (.tup (.cons (.glo 33) (.cons (.glo 34) .nil)))) .yes (.word 0 (.str (PySem.Str.ofString "")) [(48, .txt (.str (PySem.Str.ofString "meeting"))), (49, .txt (.str (PySem.Str.ofString "member"))), (50, .txt (.str (PySem.Str.ofString "numbers"))), (51, .pre (PySem.Str.ofString "many "))] (.callv 5 (.cons (.var 0) (.cons (.var 2) .nil))))))))) (.cons (.ret (.frz (.cat (.var 4) (.frz (.disp (.cons (.word 0 (.str (PySem.Str.ofString "")) [(48, .txt (.str (PySem.Str.ofString "meeting"))), (49, .txt (.str (PySem.Str.ofString "member"))), (50, .txt (.str (PySem.Str.ofString "numbers"))), (51, .pre (PySem.Str.ofString "many "))] (.call 42 (.cons (.var 0) (.cons (.var 3) .nil)))) .nil)))))) .nil))))) }
def t_law_two_words : Fn := { np := 2, ns := 3, body := (.cons (.ret (.frz (.comp [2] (.name 2) (.ex (.tup (.cons (.glo 31) (.cons (.glo 32) (.cons (.glo 43) .nil))))) .yes (.word 0 (.str (PySem.Str.ofString "")) [(48, .txt (.str (PySem.Str.ofString "meeting"))), (49, .txt (.str (PySem.Str.ofString "member"))), (50, .txt (.str (PySem.Str.ofString "numbers"))), (51, .pre (PySem.Str.ofString "many "))] (.callv 2 (.cons (.var 0) (.cons (.var 1) .nil))))))) .nil) }
def t_law_number_words : Fn := { np := 3, ns := 5, body := (.cons (.asg 3 (.frz (.disp (.cons (.word 0 (.str (PySem.Str.ofString "")) [(48, .txt (.str (PySem.Str.ofString "meeting"))), (49, .txt (.str (PySem.Str.ofString "member"))), (50, .txt (.str (PySem.Str.ofString "numbers"))), (51, .pre (PySem.Str.ofString "many "))] (.call 29 (.cons (.var 0) (.cons (.var 1) .nil)))) .nil)))) (.cons (.ret (.frz (.cat (.var 3) (.frz (.comp [4] (.name 4) (.ex (.tup (.cons (.glo 35) (.cons (.glo 36) .nil)))) .yes (.word 0 (.str (PySem.Str.ofString "")) [(48, .txt (.str (PySem.Str.ofString "meeting"))), (49, .txt (.str (PySem.Str.ofString "member"))), (50, .txt (.str (PySem.Str.ofString "numbers"))), (51, .pre (PySem.Str.ofString "many "))] (.callv 4 (.cons (.var 0) (.cons (.var 2) .nil))))))))) .nil)) }
def t_law : Fn := { np := 1, ns := 10, body := (.cons (.asg 1 (.call 22 (.cons (.var 0) .nil))) (.cons (.asg 2 (.bin .add (.lit (.int 1)) (.call 23 (.cons (.var 1) (.cons (.lit (.int 9)) .nil))))) (.cons (.par [6, 7] (.cons (.tup (.cons (.tup (.cons (.tup (.cons (.var 2) (.cons (.lit (.int 2)) .nil))) (.cons (.tup (.cons (.var 2) (.cons (.lit (.int 2)) .nil))) .nil))) .nil)) (.cons (.tup (.cons (.tup (.cons (.lit (.int 1)) (.cons (.lit (.int 2)) .nil))) (.cons (.tup (.cons (.lit (.int 1)) (.cons (.lit (.int 2)) .nil))) .nil))) .nil))) (.cons (.ife (.or (.cmp .ne (.call 44 (.cons (.var 6) (.cons (.tup (.cons (.lit (.int 1)) (.cons (.lit (.int 0)) .nil))) (.cons (.tup (.cons (.tup (.cons (.lit (.int 0)) (.cons (.lit (.int 1)) .nil))) .nil)) (.cons (.lit (.int 1)) .nil))))) (.frz (.rep (.frz (.disp (.cons (.lit (.str (PySem.Str.ofString ""))) .nil))) (.lit (.int 8))))) (.or (.cmp .ne (.call 45 (.cons (.var 6) (.cons (.var 6) .nil))) (.frz (.rep (.frz (.disp (.cons (.lit (.str (PySem.Str.ofString ""))) .nil))) (.lit (.int 3))))) (.cmp .ne (.call 46 (.cons (.var 7) (.cons (.tup (.cons (.lit (.int 1)) (.cons (.lit (.int 0)) .nil))) (.cons (.tup (.cons (.tup (.cons (.lit (.int 0)) .nil)) (.cons (.tup (.cons (.lit (.int 1)) .nil)) .nil))) .nil)))) (.frz (.rep (.frz (.disp (.cons (.lit (.str (PySem.Str.ofString ""))) .nil))) (.lit (.int 3))))))) (.cons (.ret (.lit (.bl false))) .nil) .nil) (.cons (.fo (.name 3) (.ex (.tup (.cons (.lit .non) (.cons (.tup .nil) (.cons (.frz (.disp (.cons (.bin .idx (.var 6) (.lit (.int 0))) .nil))) (.cons (.bin .idx (.var 6) (.lit (.int 0))) (.cons (.tup (.cons (.bin .idx (.var 6) (.lit (.int 0))) (.cons (.tup (.cons (.tup (.cons (.lit (.int 1)) .nil)) .nil)) .nil))) (.cons (.bin .mul (.var 6) (.lit (.int 7))) (.cons (.tup (.cons (.tup (.cons (.tup (.cons (.lit (.int 0)) .nil)) .nil)) .nil)) (.cons (.tup (.cons (.tup (.cons (.tup (.cons (.lit (.int 100)) .nil)) .nil)) .nil)) (.cons (.tup (.cons (.tup (.cons (.tup (.cons (.lit (.bl true)) .nil)) .nil)) .nil)) (.cons (.tup (.cons (.tup (.cons (.tup (.cons (.un .neg (.lit (.int 1))) (.cons (.lit (.int 2)) .nil))) (.cons (.tup (.cons (.lit (.int 1)) (.cons (.lit (.int 1)) .nil))) .nil))) .nil)) (.cons (.tup (.cons (.lit .non) .nil)) (.cons (.lit (.int 5)) .nil)))))))))))))) (.cons (.ife (.or (.cmp .ne (.call 44 (.cons (.var 3) (.cons (.lit .non) (.cons (.lit .non) (.cons (.lit .non) .nil))))) (.frz (.rep (.frz (.disp (.cons (.lit (.str (PySem.Str.ofString "meeting"))) .nil))) (.lit (.int 8))))) (.or (.cmp .ne (.call 45 (.cons (.var 3) (.cons (.lit .non) .nil))) (.frz (.rep (.frz (.disp (.cons (.lit (.str (PySem.Str.ofString "meeting"))) .nil))) (.lit (.int 3))))) (.cmp .ne (.call 45 (.cons (.var 6) (.cons (.var 3) .nil))) (.frz (.rep (.frz (.disp (.cons (.lit (.str (PySem.Str.ofString "meeting"))) .nil))) (.lit (.int 3))))))) (.cons (.ret (.lit (.bl false))) .nil) .nil) .nil)) (.cons (.fo (.name 3) (.ex (.tup (.cons (.lit .non) (.cons (.tup .nil) (.cons (.frz (.disp (.cons (.lit (.int 0)) (.cons (.lit (.int 1)) .nil)))) (.cons (.tup (.cons (.lit (.int 0)) .nil)) (.cons (.tup (.cons (.lit (.int 0)) (.cons (.lit (.int 0)) .nil))) (.cons (.tup (.cons (.lit (.int 0)) (.cons (.lit (.int 2)) .nil))) (.cons (.tup (.cons (.lit (.bl true)) (.cons (.lit (.int 0)) .nil))) (.cons (.tup (.cons (.lit (.int 0)) (.cons (.lit (.int 1)) (.cons (.lit (.int 2)) .nil)))) (.cons (.tup (.cons (.lit (.str (PySem.Str.ofString "0"))) (.cons (.lit (.int 1)) .nil))) (.cons (.lit (.int 5)) .nil)))))))))))) (.cons (.ife (.or (.cmp .ne (.call 44 (.cons (.var 6) (.cons (.var 3) (.cons (.tup (.cons (.tup (.cons (.lit (.int 0)) (.cons (.lit (.int 1)) .nil))) .nil)) (.cons (.lit (.int 0)) .nil))))) (.frz (.cat (.frz (.cat (.frz (.rep (.frz (.disp (.cons (.lit (.str (PySem.Str.ofString ""))) .nil))) (.lit (.int 4)))) (.frz (.disp (.cons (.lit (.str (PySem.Str.ofString "member"))) .nil))))) (.frz (.rep (.frz (.disp (.cons (.lit (.str (PySem.Str.ofString ""))) .nil))) (.lit (.int 3))))))) (.cmp .ne (.bin .idx (.call 46 (.cons (.var 7) (.cons (.var 3) (.cons (.tup (.cons (.tup (.cons (.lit (.int 0)) (.cons (.lit (.int 1)) .nil))) .nil)) .nil)))) (.lit (.int 0))) (.lit (.str (PySem.Str.ofString "member"))))) (.cons (.ret (.lit (.bl false))) .nil) .nil) .nil)) (.cons (.fo (.name 3) (.ex (.tup (.cons (.lit .non) (.cons (.tup .nil) (.cons (.frz (.disp (.cons (.lit (.int 0)) .nil))) (.cons (.tup (.cons (.lit (.int 1)) .nil)) (.cons (.tup (.cons (.lit (.int 0)) (.cons (.lit (.int 0)) .nil))) (.cons (.tup (.cons (.lit (.int 0)) (.cons (.lit (.int 2)) .nil))) (.cons (.tup (.cons (.lit (.bl true)) .nil)) (.cons (.un .tuple (.frz (.ofR (.rng1 (.lit (.int 7)))))) (.cons (.tup (.cons (.lit (.str (PySem.Str.ofString "0"))) .nil)) (.cons (.lit (.int 5)) .nil)))))))))))) (.cons (.ife (.cmp .ne (.word 0 (.str (PySem.Str.ofString "")) [(48, .txt (.str (PySem.Str.ofString "meeting"))), (49, .txt (.str (PySem.Str.ofString "member"))), (50, .txt (.str (PySem.Str.ofString "numbers"))), (51, .pre (PySem.Str.ofString "many "))] (.call 30 (.cons (.var 3) .nil))) (.lit (.str (PySem.Str.ofString "member")))) (.cons (.ret (.lit (.bl false))) .nil) .nil) .nil)) (.cons (.fo (.name 3) (.ex (.tup (.cons (.lit .non) (.cons (.tup .nil) (.cons (.frz (.disp (.cons (.tup (.cons (.lit (.int 0)) (.cons (.lit (.int 1)) .nil))) .nil))) (.cons (.tup (.cons (.tup (.cons (.lit (.int 0)) .nil)) .nil)) (.cons (.tup (.cons (.tup (.cons (.lit (.int 1)) .nil)) (.cons (.tup (.cons (.lit (.int 0)) .nil)) .nil))) (.cons (.tup (.cons (.tup (.cons (.lit (.int 0)) (.cons (.lit (.int 1)) .nil))) (.cons (.tup (.cons (.lit (.int 1)) .nil)) .nil))) (.cons (.tup (.cons (.tup (.cons (.lit (.int 0)) .nil)) (.cons (.tup (.cons (.lit (.int 1)) .nil)) (.cons (.tup (.cons (.lit (.int 2)) .nil)) .nil)))) (.cons (.tup (.cons (.tup (.cons (.lit (.int 1)) (.cons (.lit (.int 0)) .nil))) .nil)) (.cons (.tup (.cons (.tup (.cons (.lit (.int 0)) (.cons (.lit (.bl true)) .nil))) .nil)) (.cons (.tup (.cons (.tup .nil) .nil)) (.cons (.tup (.cons (.frz (.disp (.cons (.lit (.int 0)) (.cons (.lit (.int 1)) .nil)))) .nil)) (.cons (.tup (.cons (.lit (.int 0)) (.cons (.lit (.int 1)) .nil))) (.cons (.lit (.int 5)) .nil))))))))))))))) (.cons (.ife (.or (.cmp .ne (.call 44 (.cons (.var 6) (.cons (.tup (.cons (.lit (.int 0)) (.cons (.lit (.int 1)) .nil))) (.cons (.var 3) (.cons (.lit (.int 0)) .nil))))) (.frz (.cat (.frz (.cat (.frz (.rep (.frz (.disp (.cons (.lit (.str (PySem.Str.ofString ""))) .nil))) (.lit (.int 5)))) (.frz (.rep (.frz (.disp (.cons (.lit (.str (PySem.Str.ofString "member"))) .nil))) (.lit (.int 2)))))) (.frz (.disp (.cons (.lit (.str (PySem.Str.ofString ""))) .nil)))))) (.cmp .ne (.bin .idx (.call 46 (.cons (.var 7) (.cons (.tup (.cons (.lit (.int 0)) (.cons (.lit (.int 1)) .nil))) (.cons (.var 3) .nil)))) (.lit (.int 1))) (.lit (.str (PySem.Str.ofString "member"))))) (.cons (.ret (.lit (.bl false))) .nil) .nil) .nil)) (.cons (.fo (.name 3) (.ex (.tup (.cons (.lit .non) (.cons (.tup .nil) (.cons (.tup (.cons (.tup (.cons (.lit (.int 0)) (.cons (.lit (.int 2)) .nil))) .nil)) (.cons (.tup (.cons (.tup (.cons (.lit (.int 1)) (.cons (.lit (.int 0)) .nil))) .nil)) (.cons (.tup (.cons (.lit (.int 5)) .nil)) (.cons (.un .tuple (.frz (.comp [8] (.name 8) (.rng1 (.lit (.int 7))) .yes (.tup (.cons (.var 8) .nil))))) (.cons (.tup (.cons (.tup (.cons (.lit (.int 0)) .nil)) (.cons (.tup (.cons (.lit (.int 0)) .nil)) .nil))) (.cons (.tup (.cons (.frz (.disp (.cons (.lit (.int 0)) .nil))) .nil)) .nil)))))))))) (.cons (.ife (.cmp .ne (.bin .idx (.call 46 (.cons (.var 7) (.cons (.tup (.cons (.lit (.int 0)) (.cons (.lit (.int 1)) .nil))) (.cons (.var 3) .nil)))) (.lit (.int 2))) (.lit (.str (PySem.Str.ofString "member")))) (.cons (.ret (.lit (.bl false))) .nil) .nil) .nil)) (.cons (.fo (.name 3) (.ex (.tup (.cons (.lit .non) (.cons (.un .neg (.lit (.int 1))) (.cons (.lit (.int 2)) (.cons (.lit (.bl true)) (.cons (.lit (.str (PySem.Str.ofString "0"))) .nil))))))) (.cons (.ife (.cmp .ne (.call 44 (.cons (.var 6) (.cons (.tup (.cons (.lit (.int 0)) (.cons (.lit (.int 1)) .nil))) (.cons (.tup (.cons (.tup (.cons (.lit (.int 0)) (.cons (.lit (.int 1)) .nil))) .nil)) (.cons (.var 3) .nil))))) (.frz (.cat (.frz (.rep (.frz (.disp (.cons (.lit (.str (PySem.Str.ofString ""))) .nil))) (.lit (.int 7)))) (.frz (.disp (.cons (.lit (.str (PySem.Str.ofString "member"))) .nil)))))) (.cons (.ret (.lit (.bl false))) .nil) .nil) .nil)) (.cons (.fo (.name 3) (.ex (.tup (.cons (.lit .non) (.cons (.tup .nil) (.cons (.frz (.disp (.cons (.tup (.cons (.lit (.int 0)) (.cons (.lit (.int 1)) .nil))) (.cons (.tup (.cons (.lit (.int 1)) (.cons (.lit (.int 2)) .nil))) .nil)))) (.cons (.tup (.cons (.tup (.cons (.lit (.int 0)) (.cons (.lit (.int 1)) .nil))) (.cons (.tup (.cons (.lit (.int 2)) (.cons (.lit (.int 4)) .nil))) .nil))) (.cons (.tup (.cons (.tup (.cons (.lit (.int 0)) (.cons (.lit (.int 1)) .nil))) (.cons (.lit (.int 1)) .nil))) (.cons (.tup (.cons (.tup (.cons (.lit (.int 0)) (.cons (.lit (.int 1)) .nil))) (.cons (.tup (.cons (.bin .add (.bin .pow (.lit (.int 10)) (.lit (.int 6))) (.lit (.int 1))) (.cons (.lit (.int 1)) .nil))) .nil))) (.cons (.bin .mul (.tup (.cons (.tup (.cons (.lit (.int 0)) (.cons (.lit (.int 1)) .nil))) .nil)) (.lit (.int 7))) (.cons (.lit (.int 5)) .nil)))))))))) (.cons (.ife (.cmp .ne (.call 46 (.cons (.var 3) (.cons (.lit .non) (.cons (.lit .non) .nil)))) (.frz (.rep (.frz (.disp (.cons (.lit (.str (PySem.Str.ofString "numbers"))) .nil))) (.lit (.int 3))))) (.cons (.ret (.lit (.bl false))) .nil) .nil) .nil)) (.cons (.asg 4 (.tup (.cons (.tup (.cons (.tup (.cons (.lit (.int 1)) (.cons (.lit (.int 1)) (.cons (.lit (.int 0)) .nil)))) (.cons (.tup (.cons (.lit (.int 0)) (.cons (.lit (.int 1)) (.cons (.lit (.int 0)) .nil)))) (.cons (.tup (.cons (.lit (.int 0)) (.cons (.lit (.int 0)) (.cons (.lit (.int 1)) .nil)))) .nil)))) .nil))) (.cons (.asg 5 (.new (.disp (.cons (.word 0 (.str (PySem.Str.ofString "")) [(48, .txt (.str (PySem.Str.ofString "meeting"))), (49, .txt (.str (PySem.Str.ofString "member"))), (50, .txt (.str (PySem.Str.ofString "numbers"))), (51, .pre (PySem.Str.ofString "many "))] (.call 34 (.cons (.var 4) (.cons (.tup (.cons (.tup (.cons (.lit (.int 0)) (.cons (.lit (.int 2)) .nil))) (.cons (.tup (.cons (.lit (.int 1)) .nil)) .nil))) .nil)))) (.cons (.lit (.str (PySem.Str.ofString ""))) .nil))))) (.cons (.put 5 (.lit (.int 1)) (.word 0 (.str (PySem.Str.ofString "")) [(48, .txt (.str (PySem.Str.ofString "meeting"))), (49, .txt (.str (PySem.Str.ofString "member"))), (50, .txt (.str (PySem.Str.ofString "numbers"))), (51, .pre (PySem.Str.ofString "many "))] (.call 35 (.cons (.tup (.cons (.tup (.cons (.lit (.int 0)) (.cons (.lit (.int 1)) .nil))) (.cons (.tup (.cons (.lit (.int 1)) (.cons (.lit (.int 1)) .nil))) .nil))) (.cons (.tup (.cons (.tup (.cons (.lit (.int 0)) (.cons (.lit (.int 1)) .nil))) .nil)) .nil))))) (.cons (.asg 5 (.new (.cat (.var 5) (.frz (.comp [8] (.name 8) (.ex (.tup (.cons (.tup (.cons (.tup (.cons (.lit (.int 0)) .nil)) (.cons (.tup (.cons (.lit (.int 1)) .nil)) .nil))) (.cons (.tup (.cons (.tup (.cons (.lit (.int 0)) (.cons (.lit (.int 1)) (.cons (.lit (.int 2)) (.cons (.lit (.int 3)) (.cons (.lit (.int 4)) (.cons (.lit (.int 5)) .nil))))))) .nil)) .nil)))) .yes (.word 0 (.str (PySem.Str.ofString "")) [(48, .txt (.str (PySem.Str.ofString "meeting"))), (49, .txt (.str (PySem.Str.ofString "member"))), (50, .txt (.str (PySem.Str.ofString "numbers"))), (51, .pre (PySem.Str.ofString "many "))] (.call 36 (.cons (.tup (.cons (.tup (.cons (.lit (.int 0)) (.cons (.lit (.int 1)) .nil))) .nil)) (.cons (.var 8) .nil))))))))) (.cons (.asg 5 (.new (.cat (.var 5) (.frz (.comp [9] (.name 9) (.ex (.tup (.cons (.bin .mul (.tup (.cons (.lit (.int 1)) .nil)) (.lit (.int 5))) (.cons (.bin .mul (.tup (.cons (.lit (.int 1)) .nil)) (.lit (.int 6))) .nil)))) .yes (.word 0 (.str (PySem.Str.ofString "")) [(48, .txt (.str (PySem.Str.ofString "meeting"))), (49, .txt (.str (PySem.Str.ofString "member"))), (50, .txt (.str (PySem.Str.ofString "numbers"))), (51, .pre (PySem.Str.ofString "many "))] (.call 38 (.cons (.tup (.cons (.bin .mul (.tup (.cons (.var 9) .nil)) (.un .len (.var 9))) .nil)) .nil)))))))) (.cons (.ife (.cmp .ne (.var 5) (.frz (.disp (.cons (.lit (.str (PySem.Str.ofString "member"))) (.cons (.lit (.str (PySem.Str.ofString "numbers"))) (.cons (.lit (.str (PySem.Str.ofString "numbers"))) (.cons (.lit (.str (PySem.Str.ofString ""))) (.cons (.lit (.str (PySem.Str.ofString ""))) (.cons (.lit (.str (PySem.Str.ofString "many 100"))) .nil))))))))) (.cons (.ret (.lit (.bl false))) .nil) .nil) (.cons (.ret (.tv (.and (.cmp .eq (.call 45 (.cons (.var 6) (.cons (.tup (.cons (.tup (.cons (.tup (.cons (.lit (.int 5)) .nil)) .nil)) .nil)) .nil))) (.frz (.disp (.cons (.lit (.str (PySem.Str.ofString ""))) (.cons (.lit (.str (PySem.Str.ofString "meeting"))) (.cons (.lit (.str (PySem.Str.ofString ""))) .nil)))))) (.cmp .eq (.call 45 (.cons (.var 6) (.cons (.bin .mul (.var 6) (.lit (.int 6))) .nil))) (.frz (.disp (.cons (.lit (.str (PySem.Str.ofString "meeting"))) (.cons (.lit (.str (PySem.Str.ofString "meeting"))) (.cons (.lit (.str (PySem.Str.ofString ""))) .nil))))))))) .nil)))))))))))))))))) }
def tb : List Fn := [t_is_whole, t_is_tuple_of, t_is_rising, t_fits_meeting, t_fits_book, t_need_book, t_fits_lot, t_need_member, t_divisor_of, t_lowest, t_fits_fraction, t_table_in, t_fits_numbers, t_need_numbers, t_need_row, t_fits_order, t_need_order, t_renamed, t_fits_lumps, t_need_lumps, t_part_for, t_is_lumped, t_law_cup, t_law_roll, t_lumped, t_partitions_of, t_orders_of, t_is_same_under, t_renamed_book, t_renamed_numbers, t_order_back, t_side_by_side, t_joined_books, t_can_lump, t_lumped_book, t_lumped_numbers, t_spread_numbers, t_are_lots, t_lumps_of, t_alike_members, t_same_orders, t_is_same_order, t_exchanged_with, t_order_between, t_law_book_words, t_law_two_words, t_law_number_words, t_law]
end Ev

set_option Elab.async false
set_option linter.all false
set_option maxRecDepth 100000
set_option maxHeartbeats 4000000
set_option exponentiation.threshold 5000
namespace Ev.Pl
open PySem

theorem forGo_steps {α : Type} {f : P → En → St → R Fl} {c : α → P} {rr : Nat → En} {s : St} : ∀ {l : List α} {i : Nat}, (∀ j x, l[j]? = some x → f (c x) (rr (i + j)) s = .ok (.next (rr (i + j + 1))) s) → forGo f (l.map c) (rr i) s = .ok (.next (rr (i + l.length))) s
  | [], i, _ => rfl
  | x :: l, i, h => by
    have h0 : f (c x) (rr i) s = .ok (.next (rr (i + 1))) s := h 0 x rfl
    rw [List.map_cons, forGo, h0, R.bind_ok']
    have ih := forGo_steps (f := f) (c := c) (rr := rr) (s := s) (l := l) (i := i + 1) fun j y hj => by
      have := h (j + 1) y (by simpa using hj)
      rw [show i + 1 + j = i + (j + 1) by omega]
      exact this
    rw [List.length_cons, show i + (l.length + 1) = i + 1 + l.length by omega]
    exact ih
def forBody (cf : Nat → List D → St → R D) (k0 : Nat) (g : G) (u : Ss) : P → En → St → R Fl := fun x r1 s2 => match asgG g x r1 with
  | some r2 => evSs cf k0 u r2 s2
  | none => .bad
theorem forBody_at {cf : Nat → List D → St → R D} {k0 : Nat} {g : G} {u : Ss} {x : P} {r1 r2 : En} {s : St} {res : R Fl} (h : asgG g x r1 = some r2) (h2 : evSs cf k0 u r2 s = res) : forBody cf k0 g u x r1 s = res := by
  unfold forBody
  rw [h]; exact h2
theorem fo_eq {cf : Nat → List D → St → R D} {k0 : Nat} {r : En} {s s1 : St} {g : G} {it : I} {u : Ss} {xs : List P} (hI : evI cf it r s = .ok xs s1) : evS cf k0 (.fo g it u) r s = forGo (forBody cf k0 g u) xs r s1 := by
  rw [evS, hI, R.bind_ok']; rfl
theorem st_for {cf : Nat → List D → St → R D} {k0 : Nat} {r r1 : En} {s s1 s2 : St} {g : G} {it : I} {u b : Ss} {xs : List P} {res : R Fl} (hI : evI cf it r s = .ok xs s1)
    (h : forGo (forBody cf k0 g u) xs r s1 = .ok (.next r1) s2) (h2 : evSs cf k0 b r1 s2 = res) : evSs cf k0 (.cons (.fo g it u) b) r s = res := by
  rw [evSs, fo_eq hI, h, R.bind_ok']; exact h2
theorem ev_cat {cf : Nat → List D → St → R D} {r : En} {s s1 s2 : St} {e1 e2 : E} {l m : List P} (h1 : evE cf e1 r s = .ok (.p (.lst l)) s1) (h2 : evE cf e2 r s1 = .ok (.p (.lst m)) s2) (hb : l.length + m.length ≤ 1000) : evL cf (.cat e1 e2) r s = .ok (l ++ m) s2 := by
  rw [evL, h1, R.bind_ok', h2, R.bind_ok']
  exact if_pos (decide_eq_true (le_big hb))
theorem forGo_search {α : Type} {f : P → En → St → R Fl} {c : α → P} {p : α → Bool} {d : D} {s : St} {I : En → Prop} : ∀ {l : List α} {r : En}, I r → (∀ x ∈ l, ∀ r, I r → (p x = true → ∃ r', f (c x) r s = .ok (.next r') s ∧ I r') ∧ (p x = false → f (c x) r s = .ok (.ret d) s)) →
    (l.all p = true → ∃ r', forGo f (l.map c) r s = .ok (.next r') s ∧ I r') ∧ (l.all p = false → forGo f (l.map c) r s = .ok (.ret d) s)
  | [], r, h, _ => ⟨fun _ => ⟨r, rfl, h⟩, fun z => by cases z⟩
  | x :: l, r, h, hx => by
    obtain ⟨h1, h2⟩ := hx x List.mem_cons_self r h
    rw [List.all_cons, List.map_cons, forGo]
    cases e : p x with
    | false =>
      rw [h2 e, R.bind_ok']
      exact ⟨fun z => by simp at z, fun _ => rfl⟩
    | true =>
      obtain ⟨r', e1, i1⟩ := h1 e
      rw [e1, R.bind_ok', Bool.true_and]
      exact forGo_search i1 fun y hy => hx y (List.mem_cons_of_mem _ hy)
theorem st_forR {cf : Nat → List D → St → R D} {k0 : Nat} {r : En} {s s1 s2 : St} {g : G} {it : I} {u b : Ss} {xs : List P} {d : D} (hI : evI cf it r s = .ok xs s1)
    (h : forGo (forBody cf k0 g u) xs r s1 = .ok (.ret d) s2) : evSs cf k0 (.cons (.fo g it u) b) r s = .ok (.ret d) s2 := by
  rw [evSs, fo_eq hI, h, R.bind_ok']
theorem st_whl {cf : Nat → List D → St → R D} {k0 : Nat} {r r1 : En} {s s1 : St} {m : Mz} {t : T} {u b : Ss} {res : R Fl} (h : whlGo (fun r1 s1 => evT cf t r1 s1) (fun r1 s1 => evSs cf k0 u r1 s1) (mzOf r m) r s = .ok (.next r1) s1) (h2 : evSs cf k0 b r1 s1 = res) : evSs cf k0 (.cons (.whl m t u) b) r s = res := by
  rw [evSs, evS, h, R.bind_ok']; exact h2
section
variable {cf : Nat → List D → St → R D} {k0 : Nat} {r r1 : En} {s s1 s2 s3 : St} {e e1 e2 : E} {x y z : P} {d d' : D} {xs : List P}
theorem ev_binV {o : B} (h1 : evE cf e1 r s = .ok d s1) (h2 : evE cf e2 r s1 = .ok d' s2) (v1 : view s2 d = some x) (v2 : view s2 d' = some y) (ho : evB o x y = some z) : evE cf (.bin o e1 e2) r s = .ok (.p z) s2 := by
  rw [evE, h1, R.bind_ok', h2, R.bind_ok', v1, v2]; dsimp only; rw [ho]
theorem st_put {b : Ss} {i n : Nat} {ek ev : E} {l : List P} {j : Int} {q : Nat} {res : R Fl} (hv : evE cf ev r s = .ok (.p x) s1) (hi : r[i]? = some (some (.obj n))) (hk : evE cf ek r s1 = .ok (.p (.int j)) s2) (hs : s2[n]? = some (.lst l)) (hj : ixN l.length j = some q)
    (h2 : evSs cf k0 b r (s2.set n (.lst (l.set q x))) = res) : evSs cf k0 (.cons (.put i ek ev) b) r s = res := by
  rw [evSs, evS, hv, R.bind_ok', hi]
  dsimp only
  rw [hk, R.bind_ok', hs]
  dsimp only
  rw [hj]
  exact h2
theorem ev_mx {mn : Bool} {t : Ty} {l : List P} (h : evE cf e r s = .ok (.p (.lst (x :: l))) s1) (h1 : P.hasAll t (x :: l) = true) (h2 : srtOk t = true) : evE cf (.mx mn t e) r s = .ok (.p (firstMin mn x l)) s1 := by
  rw [evE, h, R.bind_ok', show view s1 (.p (.lst (x :: l))) = some (.lst (x :: l)) from rfl]
  dsimp only
  rw [h1, h2]; rfl
theorem st_par {b : Ss} {is : List Nat} {es : Es} {ds : List D} {res : R Fl} (h : evEs cf es r s = .ok ds s1) (hi : setAll is ds r = some r1) (h2 : evSs cf k0 b r1 s1 = res) : evSs cf k0 (.cons (.par is es) b) r s = res := by
  rw [evSs, evS, h, R.bind_ok', hi]; exact h2
theorem ev_rep3 {e k : E} (h : evE cf e r s = .ok (.p (.lst [x])) s1) (h2 : evE cf k r s1 = .ok (.p (.int 3)) s2) : evL cf (.rep e k) r s = .ok [x, x, x] s2 := by
  rw [evL, h, R.bind_ok', h2, R.bind_ok', show view s2 (.p (.lst [x])) = some (.lst [x]) from rfl]; rfl
theorem ev_slc1 {l : List P} (h : evE cf e r s = .ok (.p (.lst (x :: l))) s1) : evL cf (.slc e .none (.some (.lit (.int 1)))) r s = .ok [x] s1 := by
  rw [evL, h, R.bind_ok', evO, R.bind_ok', evO, ev_lit, R.bind_ok']
  dsimp only
  rw [R.bind_ok', show view s1 (.p (.lst (x :: l))) = some (.lst (x :: l)) from rfl]
  dsimp only
  have : cutP (x :: l) none (some 1) = [x] := by
    unfold cutP sIx
    simp
  rw [this]
theorem ev_new {l : L} (h : evL cf l r s = .ok xs s1) : evE cf (.new l) r s = .ok (.obj s1.length) (s1 ++ [.lst xs]) := by rw [evE, h, R.bind_ok']
theorem st_step {a : S} {b : Ss} {res : R Fl} (h : evS cf k0 a r s = .ok (.next r1) s1) (h2 : evSs cf k0 b r1 s1 = res) : evSs cf k0 (.cons a b) r s = res := by
  rw [evSs, h, R.bind_ok']; exact h2
theorem ev_ofE {l : List P} (h : evE cf e r s = .ok (.p (.lst l)) s1) : evL cf (.ofE e) r s = .ok l s1 := by
  rw [evL, h, R.bind_ok', show view s1 (.p (.lst l)) = some (.lst l) from rfl]
end
/-- the cup's store -/
def cupSt (a b : Nat) : St := [.lst [N a, N b]]
theorem cup_at {cf : Nat → List D → St → R D} {a b : Nat} {r : En} (h : r[0]? = some (some (.obj 0))) : evE cf (.bin .idx (.var 0) (.lit (.int 0))) r (cupSt a b) = .ok (.p (N a)) (cupSt a b) := ev_binV (ev_var h) ev_lit rfl rfl rfl
theorem cup_at1 {cf : Nat → List D → St → R D} {a b : Nat} {r : En} (h : r[0]? = some (some (.obj 0))) : evE cf (.bin .idx (.var 0) (.lit (.int 1))) r (cupSt a b) = .ok (.p (N b)) (cupSt a b) := ev_binV (ev_var h) ev_lit rfl rfl rfl
theorem b_mod {i j : Nat} (h : 0 < j) : evB .mod (N i) (N j) = some (N (i % j)) := by
  have : evB .mod (N i) (N j) = some (.int ((i : Int) % (j : Int))) := if_pos (decide_eq_true (by omega))
  rw [this, ← Int.natCast_emod]
theorem b_fdiv {i j : Nat} (h : 0 < j) (h2 : j < 2 ^ 64) : evB .fdiv (N i) (N j) = some (N (i / j)) := by
  have hd : divOk (j : Int) = true := by
    unfold divOk
    rw [Bool.and_eq_true, decide_eq_true_eq, decide_eq_true_eq]
    exact ⟨by omega, Nat.lt_of_lt_of_le (m := 2 ^ 64) (by omega) (Nat.pow_le_pow_right (by omega) (by omega))⟩
  have : evB .fdiv (N i) (N j) = some (.int ((i : Int) / (j : Int))) := if_pos hd
  rw [this, ← Int.natCast_ediv]
theorem b_mul {i j : Nat} (h : i < 2 ^ 64 ∨ j < 2 ^ 64) : evB .mul (N i) (N j) = some (N (i * j)) := by
  have hm : mulOk (i : Int) (j : Int) = true := by
    unfold mulOk
    rcases h with h | h
    · simp [show i < 18446744073709551616 from h]
    · simp [show j < 18446744073709551616 from h]
  have : evB .mul (N i) (N j) = some (.int ((i : Int) * (j : Int))) := if_pos hm
  rw [this, ← Int.natCast_mul]
theorem b_add {i j : Nat} : evB .add (N i) (N j) = some (N (i + j)) := by
  rw [b_add_i, ← Int.natCast_add]
theorem forGo_inv {α : Type} {f : P → En → St → R Fl} {c : α → P} {Inv : Nat → En → St → Prop} : ∀ {l : List α} {i : Nat} {r : En} {s : St}, Inv i r s → (∀ j x r s, l[j]? = some x → Inv (i + j) r s → ∃ r' s', f (c x) r s = .ok (.next r') s' ∧ Inv (i + j + 1) r' s') →
    ∃ r' s', forGo f (l.map c) r s = .ok (.next r') s' ∧ Inv (i + l.length) r' s'
  | [], i, r, s, h, _ => ⟨r, s, rfl, h⟩
  | x :: l, i, r, s, h, step => by
    obtain ⟨r1, s1, e1, h1⟩ := step 0 x r s rfl h
    obtain ⟨r2, s2, e2, h2⟩ := forGo_inv (f := f) (c := c) (Inv := Inv) (l := l) (i := i + 1) (r := r1) (s := s1) h1 fun j y r s hj hi => by
      have := step (j + 1) y r s (by simpa using hj) (by rw [show i + (j + 1) = i + 1 + j by omega]; exact hi)
      rw [show i + 1 + j = i + (j + 1) by omega]
      exact this
    refine ⟨r2, s2, ?_, by rw [List.length_cons, show i + (l.length + 1) = i + 1 + l.length by omega]; exact h2⟩
    rw [List.map_cons, forGo, e1, R.bind_ok']
    exact e2
theorem compGo_cup {α : Type} {f : P → St → R (List P)} {c : α → P} {ok : P → Prop} : ∀ {l : List α} {a b : Nat}, (∀ x ∈ l, ∀ a b, ∃ y a' b', ok y ∧ f (c x) (cupSt a b) = .ok [y] (cupSt a' b')) → ∃ ys a' b', ys.length = l.length ∧ (∀ y ∈ ys, ok y) ∧ compGo f (l.map c) (cupSt a b) = .ok ys (cupSt a' b')
  | [], a, b, _ => ⟨[], a, b, rfl, (fun y h => absurd h List.not_mem_nil), rfl⟩
  | x :: l, a, b, h => by
    obtain ⟨y, a1, b1, h1, e1⟩ := h x List.mem_cons_self a b
    obtain ⟨ys, a2, b2, h2, h3, e2⟩ := compGo_cup (l := l) (a := a1) (b := b1) fun x m => h x (List.mem_cons_of_mem _ m)
    refine ⟨y :: ys, a2, b2, by rw [List.length_cons, List.length_cons, h2], fun z hz => ?_, ?_⟩
    · rcases List.mem_cons.mp hz with rfl | hz
      · exact h1
      · exact h3 z hz
    · rw [List.map_cons, compGo, e1, R.bind_ok', e2, R.bind_ok']; rfl
theorem ev_compC {α : Type} {cf : Nat → List D → St → R D} {r : En} {e : E} {vs : List Nat} {tg : G} {it : I} {c : α → P} {ok : P → Prop} {l : List α} {a b : Nat} (hI : evI cf it r (cupSt a b) = .ok (l.map c) (cupSt a b))
    (hx : ∀ x ∈ l, ∀ a b, ∃ r1 y a' b', asgG tg (c x) (wipeE r vs) = some r1 ∧ ok y ∧ evE cf e r1 (cupSt a b) = .ok (.p y) (cupSt a' b')) (hl : l.length ≤ 1000) :
    ∃ ys a' b', ys.length = l.length ∧ (∀ y ∈ ys, ok y) ∧ evL cf (.comp vs tg it .yes e) r (cupSt a b) = .ok ys (cupSt a' b') := by
  obtain ⟨ys, a', b', h1, h2, h3⟩ := compGo_cup (l := l) (c := c) (ok := ok) (a := a) (b := b) (f := fun x s2 => match asgG tg x (wipeE r vs) with
      | some r1 => (R.noexc (evTo cf .yes r1 s2)).bind fun c s3 => if c then (R.noexc (evE cf e r1 s3)).bind fun d s4 => (match d with | .p y => .ok [y] s4 | _ => .bad) else .ok [] s3
      | none => .bad) fun x m a b => by
    obtain ⟨r1, y, a', b', q1, q2, q3⟩ := hx x m a b
    refine ⟨y, a', b', q2, ?_⟩
    rw [q1]
    dsimp only
    rw [ev_yes, R.noexc_ok, R.bind_ok', if_pos rfl, q3, R.noexc_ok, R.bind_ok']
  refine ⟨ys, a', b', h1, h2, ?_⟩
  have hb : ys.length ≤ big := le_big (by omega)
  rw [evL, hI, R.bind_ok']
  refine (congrArg (fun z => R.bind z fun l s2 => if decide (l.length ≤ big) then R.ok l s2 else .bad) h3).trans ?_
  show (if decide (ys.length ≤ big) then R.ok ys (cupSt a' b') else .bad) = _
  rw [decide_eq_true hb, if_pos rfl]
theorem nats_of : ∀ {ys : List P} {q : Nat → Prop}, (∀ y ∈ ys, ∃ i, y = N i ∧ q i) → ∃ l : List Nat, ys = l.map N ∧ ∀ i ∈ l, q i
  | [], q, _ => ⟨[], rfl, fun i h => absurd h List.not_mem_nil⟩
  | y :: ys, q, h => by
    obtain ⟨i, rfl, hi⟩ := h y List.mem_cons_self
    obtain ⟨l, rfl, hl⟩ := nats_of (ys := ys) (q := q) fun z m => h z (List.mem_cons_of_mem _ m)
    refine ⟨i :: l, rfl, fun j hj => ?_⟩
    rcases List.mem_cons.mp hj with rfl | hj
    · exact hi
    · exact hl j hj
def RowOk (n : Nat) (r : List Nat) : Prop := r.length = n ∧ (∀ x ∈ r, x ≤ 99) ∧ 0 < r.sum
theorem ev_slcL {cf : Nat → List D → St → R D} {r : En} {s s1 : St} {e : E} {l : List P} (h : evE cf e r s = .ok (.p (.tup l)) s1) : evE cf (.slc e .none (.some (.un .neg (.lit (.int 1))))) r s = .ok (.p (.tup (l.take (l.length - 1)))) s1 := by
  have e1 : evE cf (.un .neg (.lit (.int 1))) r s1 = .ok (.p (.int (-1))) s1 := ev_un ev_lit rfl
  rw [evE, h, R.bind_ok', evO, R.bind_ok', evO, e1, R.bind_ok']
  dsimp only
  rw [R.bind_ok', show view s1 (.p (.tup l)) = some (.tup l) from rfl]
  dsimp only
  have : cutP l none (some (-1)) = l.take (l.length - 1) := by
    unfold cutP sIx
    simp
    congr 1
    omega
  rw [this]
theorem ev_rngS {cf : Nat → List D → St → R D} {r : En} {s s1 : St} {e : E} {n : Nat} (h : evE cf e r s = .ok (.p (N n)) s1) (hn : n ≤ 1000) : evI cf (.rng1 e) r s = .ok ((List.range n).map N) s1 := ev_rng h hn
inductive Sm : Nat → P → Prop
  | non {n : Nat} : Sm n .non
  | int {n : Nat} {i : Int} : Sm n (.int i)
  | bl {n : Nat} {b : Bool} : Sm n (.bl b)
  | tup {n : Nat} {l : List P} : (∀ x ∈ l, Sm n x) → l.length ≤ 1000 → Sm (n + 1) (.tup l)
theorem at_P {l : List P} {i : Nat} (h : i < l.length) : atP l (i : Int) = some l[i] := by
  have := at_map (c := fun y => y) (List.getElem?_eq_getElem h)
  rwa [List.map_id'] at this
theorem sm_N {n i : Nat} : Sm n (N i) := .int
theorem sm_nats {n : Nat} {l : List Nat} (h : l.length ≤ 1000) : Sm (n + 1) (nats l) := .tup (fun x hx => by
  obtain ⟨i, _, rfl⟩ := List.mem_map.mp hx
  exact sm_N) (by rw [List.length_map]; exact h)
theorem pow18 : evB .pow (.int 10) (.int 18) = some (.int 1000000000000000000) := by decide +kernel
theorem first_ok {ns : List Int} : ∃ i : Int, atP (ns.map P.int ++ [.int 0]) 0 = some (.int i) := by
  cases ns with
  | nil => exact ⟨0, rfl⟩
  | cons i l => exact ⟨i, at_P (l := (i :: l).map P.int ++ [.int 0]) (i := 0) (by simp)⟩
end Ev.Pl

set_option Elab.async false
set_option linter.all false
set_option maxRecDepth 100000
set_option maxHeartbeats 4000000
set_option exponentiation.threshold 5000
namespace Ev.Pl
open PySem

theorem roll_ok {k m a b : Nat} (hm : 0 < m) (h2 : m ≤ 1000) : ∃ x a' b', x < m ∧ callN tb (k + 1) 23 [.obj 0, .p (N m)] (cupSt a b) = .ok (.p (N x)) (cupSt a' b') := by
  by_cases ha : 0 < a
  · refine ⟨a % m, a / m, b, Nat.mod_lt _ hm, ?_⟩
    rw [callN_at (f := t_law_roll) rfl rfl]
    have e : evSs (callN tb k) (cupSt a b).length t_law_roll.body (enter t_law_roll [.obj 0, .p (N m)]) (cupSt a b) = .ok (.ret (.p (N (a % m)))) (cupSt (a / m) b) :=
      st_ifT (ev_cmp (cup_at rfl) ev_lit (by rw [c_gt]; exact congrArg some (decide_eq_true (by omega)))) (st_asg (ev_bin (ev_un (cup_at rfl) u_int) (ev_var rfl) (b_mod hm)) (by show 3 < 4; decide) (st_put (ev_bin (cup_at rfl) (ev_var rfl) (b_fdiv hm (by omega))) rfl ev_lit rfl rfl (st_ret (ev_var rfl))))
    rw [e]; rfl
  · have a0 : a = 0 := by omega
    subst a0
    let b1 := (b * 31339 + 8395) % 2147483399
    let dp := b1 * (b1 + 665) % 2147483563
    have hb1 : b1 < 2 ^ 64 := Nat.lt_trans (Nat.mod_lt _ (by omega)) (by omega)
    refine ⟨dp / 797 % m, 0, b1, Nat.mod_lt _ hm, ?_⟩
    rw [callN_at (f := t_law_roll) rfl rfl]
    have e : evSs (callN tb k) (cupSt 0 b).length t_law_roll.body (enter t_law_roll [.obj 0, .p (N m)]) (cupSt 0 b) = .ok (.ret (.p (N (dp / 797 % m)))) (cupSt 0 b1) :=
      st_if0 (ev_cmp (cup_at rfl) ev_lit (by rw [c_gt]; rfl)) (st_put (x := N b1) (ev_bin (ev_un (ev_bin (ev_bin (cup_at1 rfl) (ev_lit (x := N 31339)) (b_mul (.inr (by omega)))) (ev_lit (x := N 8395)) b_add) u_int) (ev_lit (x := N 2147483399)) (b_mod (by omega))) rfl ev_lit rfl rfl
        (st_asg (d := .p (N dp)) (ev_bin (ev_un (ev_bin (cup_at1 rfl) (ev_bin (cup_at1 rfl) (ev_lit (x := N 665)) b_add) (b_mul (.inl hb1))) u_int) (ev_lit (x := N 2147483563)) (b_mod (by omega))) (by show 2 < 4; decide)
          (st_ret (ev_bin (ev_un (ev_bin (ev_var rfl) (ev_lit (x := N 797)) (b_fdiv (by omega) (by omega))) u_int) (ev_var rfl) (b_mod hm)))))
    rw [e]; rfl
theorem cup_ok {k : Nat} {ns : List Int} (hn : ns.length ≤ 63) : ∃ a b, callN tb (k + 1) 22 [.p (.lst (ns.map P.int))] [] = .ok (.obj 0) (cupSt a b) := by
  obtain ⟨i, hi⟩ := first_ok (ns := ns)
  have ha : evU .abs (.int i) = some (N i.natAbs) := by
    rw [u_abs]
    refine congrArg (fun z => some (P.int z)) ?_
    split <;> omega
  generalize i.natAbs = c at ha
  have e1 : evE (callN tb k) (.un .abs (.bin .idx (.frz (.cat (.frz (.ofE (.var 0))) (.frz (.disp (.cons (.lit (.int 0)) .nil))))) (.lit (.int 0)))) [some (.p (.lst (ns.map P.int))), none] [] = .ok (.p (N c)) [] :=
    ev_un (ev_bin (ev_frz (ev_cat (ev_frz (ev_ofE (ev_var rfl))) (ev_frz (ev_disp (xs := [.int 0]) (ev_cons ev_lit ev_nil) rfl)) (by simp; omega))) ev_lit hi) ha
  have e2 : ∃ a, evE (callN tb k) (.ife (.cmp .ge (.var 1) (.bin .pow (.lit (.int 10)) (.lit (.int 18)))) (.bin .fdiv (.var 1) (.lit (.int 311))) (.lit (.int 0))) [some (.p (.lst (ns.map P.int))), some (.p (N c))] [] = .ok (.p (N a)) [] := by
    by_cases h : (1000000000000000000 : Int) ≤ (c : Int)
    · exact ⟨c / 311, ev_ifT (ev_cmp (ev_var rfl) (ev_bin ev_lit ev_lit pow18) (by rw [c_ge, decide_eq_true h])) (ev_bin (ev_var rfl) (ev_lit (x := N 311)) (b_fdiv (by omega) (by omega)))⟩
    · exact ⟨0, ev_ifF (ev_cmp (ev_var rfl) (ev_bin ev_lit ev_lit pow18) (by rw [c_ge, decide_eq_false h])) (ev_lit (x := N 0))⟩
  obtain ⟨a, e2⟩ := e2
  refine ⟨a, (c * 641 + 5449) % 2077503101 + 431, ?_⟩
  rw [callN_at (f := t_law_cup) rfl rfl]
  have z : evSs (callN tb k) ([] : St).length t_law_cup.body (enter t_law_cup [.p (.lst (ns.map P.int))]) [] = .ok (.ret (.obj 0)) (cupSt a ((c * 641 + 5449) % 2077503101 + 431)) :=
    st_asg e1 (by show 1 < 2; decide) (st_ret (ev_new (ev_disp (xs := [N a, N ((c * 641 + 5449) % 2077503101 + 431)]) (ev_cons e2 (ev_cons (ev_bin (ev_bin (ev_un (ev_bin (ev_bin (ev_var rfl) (ev_lit (x := N 641)) (b_mul (.inr (by omega)))) (ev_lit (x := N 5449)) b_add) u_int) (ev_lit (x := N 2077503101)) (b_mod (by omega))) (ev_lit (x := N 431)) b_add) ev_nil)) rfl)))
  rw [z]; rfl
end Ev.Pl

set_option Elab.async false
set_option linter.all false
set_option maxRecDepth 100000
set_option maxHeartbeats 4000000
/-! what the evaluator answers by a poorer table of calls, it answers by the whole one -/
namespace Ev
open PySem
def Le {α : Type} (r r' : R α) : Prop := r = .bad ∨ r = r'
theorem Le.rfl {α : Type} {r : R α} : Le r r := .inr _root_.rfl
theorem Le.bad {α : Type} {r : R α} : Le .bad r := .inl _root_.rfl
theorem Le.bind {α β : Type} {r r' : R α} {f f' : α → St → R β} (h : Le r r') (g : ∀ a s, Le (f a s) (f' a s)) : Le (r.bind f) (r'.bind f') := by
  rcases h with h | h
  · rw [h]; exact .inl _root_.rfl
  · subst h
    cases r with
    | ok a s => exact g a s
    | exc c fs s => exact .inr _root_.rfl
    | bad => exact .inl _root_.rfl
theorem Le.noexc {α : Type} {r r' : R α} (h : Le r r') : Le (R.noexc r) (R.noexc r') := by
  rcases h with h | h
  · rw [h]; exact .inl _root_.rfl
  · subst h; exact .rfl
theorem Le.ite {α : Type} {p : Prop} [Decidable p] {a b a' b' : R α} (h : Le a a') (g : Le b b') : Le (if p then a else b) (if p then a' else b') := by
  split
  · exact h
  · exact g
theorem Le.compGo {f f' : P → St → R (List P)} (h : ∀ x s, Le (f x s) (f' x s)) : ∀ (l : List P) (s : St), Le (compGo f l s) (compGo f' l s)
  | [], s => .rfl
  | x :: l, s => by
    rw [Ev.compGo, Ev.compGo]
    exact (h x s).bind fun o s1 => (Le.compGo h l s1).bind fun m s2 => .rfl
theorem Le.dictGo {f f' : P → List P → List P → St → R (List P × List P)} (h : ∀ x ks vs s, Le (f x ks vs s) (f' x ks vs s)) : ∀ (l ks vs : List P) (s : St), Le (dictGo f l ks vs s) (dictGo f' l ks vs s)
  | [], ks, vs, s => .rfl
  | x :: l, ks, vs, s => by
    rw [Ev.dictGo, Ev.dictGo]
    exact (h x ks vs s).bind fun o s1 => Le.dictGo h l _ _ s1
theorem Le.forGo {f f' : P → En → St → R Fl} (h : ∀ x r s, Le (f x r s) (f' x r s)) : ∀ (l : List P) (r : En) (s : St), Le (forGo f l r s) (forGo f' l r s)
  | [], r, s => .rfl
  | x :: l, r, s => by
    rw [Ev.forGo, Ev.forGo]
    refine (h x r s).bind fun fl s1 => ?_
    cases fl with
    | next r1 => exact Le.forGo h l r1 s1
    | ret d => exact .rfl
theorem Le.whlGo {c c' : En → St → R Bool} {b b' : En → St → R Fl} (h : ∀ r s, Le (c r s) (c' r s)) (g : ∀ r s, Le (b r s) (b' r s)) : ∀ (n : Nat) (r : En) (s : St), Le (whlGo c b n r s) (whlGo c' b' n r s)
  | 0, r, s => .rfl
  | n + 1, r, s => by
    rw [Ev.whlGo, Ev.whlGo]
    refine (h r s).bind fun t s1 => .ite ((g r s1).bind fun fl s2 => ?_) .rfl
    cases fl with
    | next r1 => exact Le.whlGo h g n r1 s2
    | ret d => exact .rfl
section
variable {c c' : Nat → List D → St → R D} (H : ∀ g ds st, Le (c g ds st) (c' g ds st))
include H
mutual
theorem mE : ∀ (e : E) (r : En) (s : St), Le (evE c e r s) (evE c' e r s)
  | .var _, r, s => by rw [evE, evE]; exact .rfl
  | .lit _, r, s => by rw [evE, evE]; exact .rfl
  | .gc _ _, r, s => by rw [evE, evE]; exact .rfl
  | .glo _, r, s => by rw [evE, evE]; exact .rfl
  | .tup es, r, s => by rw [evE, evE]; exact (mEs es r s).bind fun _ _ => .rfl
  | .un o e, r, s => by rw [evE, evE]; exact (mE e r s).bind fun _ _ => .rfl
  | .bin o a b, r, s => by rw [evE, evE]; exact (mE a r s).bind fun _ s1 => (mE b r s1).bind fun _ _ => .rfl
  | .get1 a b, r, s => by
    rw [evE, evE]
    refine (mE a r s).bind fun d s1 => ?_
    split
    · exact (mE b r s1).bind fun _ _ => .rfl
    · exact .rfl
  | .get2 a b e, r, s => by
    rw [evE, evE]
    refine (mE a r s).bind fun d s1 => ?_
    split
    · exact (mE b r s1).bind fun _ s2 => (mE e r s2).bind fun _ _ => .rfl
    · exact .rfl
  | .slc e lo hi, r, s => by rw [evE, evE]; exact (mE e r s).bind fun _ s1 => (mO lo r s1).bind fun _ s2 => (mO hi r s2).bind fun _ _ => .rfl
  | .ife t a b, r, s => by rw [evE, evE]; exact (mT t r s).bind fun _ s1 => .ite (mE a r s1) (mE b r s1)
  | .tv t, r, s => by rw [evE, evE]; exact (mT t r s).bind fun _ _ => .rfl
  | .frz l, r, s => by rw [evE, evE]; exact (mL l r s).bind fun _ _ => .rfl
  | .new l, r, s => by rw [evE, evE]; exact (mL l r s).bind fun _ _ => .rfl
  | .frzM m, r, s => by rw [evE, evE]; exact (mM m r s).bind fun _ _ => .rfl
  | .newM m, r, s => by rw [evE, evE]; exact (mM m r s).bind fun _ _ => .rfl
  | .call g es, r, s => by rw [evE, evE]; exact (mEs es r s).bind fun ds s1 => H g ds s1
  | .callv i es, r, s => by
    rw [evE, evE]
    split
    · exact (mEs es r s).noexc.bind fun ds s1 => H _ ds s1
    · exact .rfl
  | .pop _, r, s => by rw [evE, evE]; exact .rfl
  | .mx mn t e, r, s => by rw [evE, evE]; exact (mE e r s).bind fun _ _ => .rfl
  | .idxOf a b, r, s => by
    rw [evE, evE]
    refine (mE a r s).bind fun d s1 => ?_
    split
    · exact (mE b r s1).bind fun _ _ => .rfl
    · exact .rfl
  | .cnt a b, r, s => by
    rw [evE, evE]
    refine (mE a r s).bind fun d s1 => ?_
    split
    · exact (mE b r s1).bind fun _ _ => .rfl
    · exact .rfl
  | .fld _ _, r, s => by rw [evE, evE]; exact .rfl
  | .rngv e, r, s => by rw [evE, evE]; exact (mE e r s).bind fun _ _ => .rfl
  | .fz _, r, s => by rw [evE, evE]; exact .rfl
  | .rev e, r, s => by rw [evE, evE]; exact (mE e r s).bind fun _ _ => .rfl
  | .word g okv tab e, r, s => by
    rw [evE, evE]
    rcases mE e r s with h | h
    · rw [h]; exact .bad
    · rw [h]; exact .rfl
theorem mEs : ∀ (es : Es) (r : En) (s : St), Le (evEs c es r s) (evEs c' es r s)
  | .nil, r, s => by rw [evEs, evEs]; exact .rfl
  | .cons e es, r, s => by rw [evEs, evEs]; exact (mE e r s).bind fun _ s1 => (mEs es r s1).bind fun _ _ => .rfl
theorem mO : ∀ (o : Oe) (r : En) (s : St), Le (evO c o r s) (evO c' o r s)
  | .none, r, s => by rw [evO, evO]; exact .rfl
  | .some e, r, s => by rw [evO, evO]; exact (mE e r s).bind fun _ _ => .rfl
theorem mT : ∀ (t : T) (r : En) (s : St), Le (evT c t r s) (evT c' t r s)
  | .cmp _ a b, r, s => by rw [evT, evT]; exact (mE a r s).bind fun _ s1 => (mE b r s1).bind fun _ _ => .rfl
  | .chain _ _ a b e, r, s => by
    rw [evT, evT]
    refine (mE a r s).bind fun d s1 => (mE b r s1).bind fun d' s2 => ?_
    split
    · split
      · exact (mE e r s2).bind fun _ _ => .rfl
      · exact .rfl
      · exact .rfl
    · exact .rfl
  | .not t, r, s => by rw [evT, evT]; exact (mT t r s).bind fun _ _ => .rfl
  | .and a b, r, s => by rw [evT, evT]; exact (mT a r s).bind fun _ s1 => .ite (mT b r s1) .rfl
  | .or a b, r, s => by rw [evT, evT]; exact (mT a r s).bind fun _ s1 => .ite .rfl (mT b r s1)
  | .tru e, r, s => by rw [evT, evT]; exact (mE e r s).bind fun _ _ => .rfl
  | .emp _ e, r, s => by rw [evT, evT]; exact (mE e r s).bind fun _ _ => .rfl
theorem mTo : ∀ (t : To) (r : En) (s : St), Le (evTo c t r s) (evTo c' t r s)
  | .yes, r, s => by rw [evTo, evTo]; exact .rfl
  | .if1 t, r, s => by rw [evTo, evTo]; exact mT t r s
theorem mL : ∀ (l : L) (r : En) (s : St), Le (evL c l r s) (evL c' l r s)
  | .disp es, r, s => by rw [evL, evL]; exact (mEs es r s).bind fun _ _ => .rfl
  | .comp vs tg it ifs elt, r, s => by
    rw [evL, evL]
    refine Le.bind ((mI it r s).bind fun xs s1 => Le.compGo (fun x s2 => ?_) xs s1) fun _ _ => .rfl
    split
    · exact (mTo ifs _ s2).noexc.bind fun b s3 => .ite ((mE elt _ s3).noexc.bind fun _ _ => .rfl) .rfl
    · exact .rfl
  | .comp2 vs tg it ifs vs1 tg1 it1 ifs1 elt, r, s => by
    rw [evL, evL]
    refine Le.bind ((mI it r s).bind fun xs s1 => Le.compGo (fun x s2 => ?_) xs s1) fun _ _ => .rfl
    split
    · refine (mTo ifs _ s2).noexc.bind fun b s3 => .ite ((mI it1 _ s3).noexc.bind fun ys s4 => Le.compGo (fun y s5 => ?_) ys s4) .rfl
      split
      · exact (mTo ifs1 _ s5).noexc.bind fun b s6 => .ite ((mE elt _ s6).noexc.bind fun _ _ => .rfl) .rfl
      · exact .rfl
    · exact .rfl
  | .ofE e, r, s => by rw [evL, evL]; exact (mE e r s).bind fun _ _ => .rfl
  | .ofR i, r, s => by rw [evL, evL]; exact mI i r s
  | .sorted _ e, r, s => by rw [evL, evL]; exact (mE e r s).bind fun _ _ => .rfl
  | .cat a b, r, s => by rw [evL, evL]; exact (mE a r s).bind fun _ s1 => (mE b r s1).bind fun _ _ => .rfl
  | .rep a b, r, s => by rw [evL, evL]; exact (mE a r s).bind fun _ s1 => (mE b r s1).bind fun _ _ => .rfl
  | .slc e lo hi, r, s => by rw [evL, evL]; exact (mE e r s).bind fun _ s1 => (mO lo r s1).bind fun _ s2 => (mO hi r s2).bind fun _ _ => .rfl
  | .vals e, r, s => by rw [evL, evL]; exact (mE e r s).bind fun _ _ => .rfl
  | .sortset t e, r, s => by rw [evL, evL]; exact (mE e r s).bind fun _ _ => .rfl
  | .sortI _ e, r, s => by rw [evL, evL]; exact (mE e r s).bind fun _ _ => .rfl
  | .sortV _ e, r, s => by rw [evL, evL]; exact (mE e r s).bind fun _ _ => .rfl
  | .sumL e, r, s => by rw [evL, evL]; exact (mE e r s).bind fun _ _ => .rfl
  | .rev e, r, s => by rw [evL, evL]; exact (mE e r s).bind fun _ _ => .rfl
theorem mM : ∀ (m : M) (r : En) (s : St), Le (evM c m r s) (evM c' m r s)
  | .disp .nil .nil, r, s => by rw [evM, evM]; exact .rfl
  | .disp (.cons k .nil) (.cons v .nil), r, s => by rw [evM, evM]; exact (mE k r s).noexc.bind fun _ s1 => (mE v r s1).noexc.bind fun _ _ => .rfl
  | .disp .nil (.cons _ _), r, s => (show Le R.bad R.bad from .rfl)
  | .disp (.cons _ (.cons _ _)) _, r, s => (show Le R.bad R.bad from .rfl)
  | .disp (.cons _ .nil) .nil, r, s => (show Le R.bad R.bad from .rfl)
  | .disp (.cons _ .nil) (.cons _ (.cons _ _)), r, s => (show Le R.bad R.bad from .rfl)
  | .comp vs tg it ifs k v, r, s => by
    rw [evM, evM]
    refine (mI it r s).bind fun xs s1 => Le.dictGo (fun x ks ws s2 => ?_) xs _ _ s1
    split
    · exact (mTo ifs _ s2).noexc.bind fun b s3 => .ite ((mE k _ s3).noexc.bind fun _ s4 => (mE v _ s4).noexc.bind fun _ _ => .rfl) .rfl
    · exact .rfl
  | .comp2 vs tg it ifs vs1 tg1 it1 ifs1 k v, r, s => by
    rw [evM, evM]
    refine (mI it r s).bind fun xs s1 => Le.dictGo (fun x ks ws s2 => ?_) xs _ _ s1
    split
    · refine (mTo ifs _ s2).noexc.bind fun b s3 => .ite ((mI it1 _ s3).noexc.bind fun ys s4 => Le.dictGo (fun y ks ws s5 => ?_) ys _ _ s4) .rfl
      split
      · exact (mTo ifs1 _ s5).noexc.bind fun b s6 => .ite ((mE k _ s6).noexc.bind fun _ s7 => (mE v _ s7).noexc.bind fun _ _ => .rfl) .rfl
      · exact .rfl
    · exact .rfl
theorem mI : ∀ (i : I) (r : En) (s : St), Le (evI c i r s) (evI c' i r s)
  | .ex e, r, s => by rw [evI, evI]; exact (mE e r s).bind fun _ _ => .rfl
  | .rng1 e, r, s => by rw [evI, evI]; exact (mE e r s).bind fun _ _ => .rfl
  | .rng2 a b, r, s => by rw [evI, evI]; exact (mE a r s).bind fun _ s1 => (mE b r s1).bind fun _ _ => .rfl
  | .enum e, r, s => by rw [evI, evI]; exact (mE e r s).bind fun _ _ => .rfl
  | .zip a b, r, s => by rw [evI, evI]; exact (mE a r s).bind fun _ s1 => (mE b r s1).bind fun _ _ => .rfl
  | .items e, r, s => by rw [evI, evI]; exact (mE e r s).bind fun _ _ => .rfl
end
mutual
theorem mS {k0 : Nat} : ∀ (a : S) (r : En) (s : St), Le (evS c k0 a r s) (evS c' k0 a r s)
  | .asg i e, r, s => by rw [evS, evS]; exact (mE H e r s).bind fun _ _ => .rfl
  | .mv _ _, r, s => by rw [evS, evS]; exact .rfl
  | .unp gs e, r, s => by rw [evS, evS]; exact (mE H e r s).bind fun _ _ => .rfl
  | .par is es, r, s => by rw [evS, evS]; exact (mEs H es r s).bind fun _ _ => .rfl
  | .put i k v, r, s => by
    rw [evS, evS]
    refine (mE H v r s).bind fun d s1 => ?_
    split
    · exact (mE H k r s1).bind fun _ _ => .rfl
    · exact .rfl
  | .app i e, r, s => by
    rw [evS, evS]
    split
    · split
      · exact (mE H e r s).bind fun _ _ => .rfl
      · exact .rfl
    · exact .rfl
  | .upd _ _, r, s => by rw [evS, evS]; exact .rfl
  | .fld i f e, r, s => by rw [evS, evS]; exact (mE H e r s).bind fun _ _ => .rfl
  | .ex e, r, s => by rw [evS, evS]; exact (mE H e r s).bind fun _ _ => .rfl
  | .ret e, r, s => by rw [evS, evS]; exact (mE H e r s).bind fun _ _ => .rfl
  | .retv _, r, s => by rw [evS, evS]; exact .rfl
  | .retN, r, s => by rw [evS, evS]; exact .rfl
  | .ife t a b, r, s => by rw [evS, evS]; exact (mT H t r s).bind fun _ s1 => .ite (mSs a r s1) (mSs b r s1)
  | .fo g it b, r, s => by
    rw [evS, evS]
    refine (mI H it r s).bind fun xs s1 => Le.forGo (fun x r1 s2 => ?_) xs r s1
    split
    · exact mSs b _ s2
    · exact .rfl
  | .whl m t b, r, s => by rw [evS, evS]; exact Le.whlGo (fun r1 s1 => mT H t r1 s1) (fun r1 s1 => mSs b r1 s1) _ r s
  | .raise g es, r, s => by rw [evS, evS]; exact (mEs H es r s).bind fun _ _ => .rfl
  | .skip, r, s => by rw [evS, evS]; exact .rfl
  | .never, r, s => by rw [evS, evS]; exact .rfl
theorem mSs {k0 : Nat} : ∀ (a : Ss) (r : En) (s : St), Le (evSs c k0 a r s) (evSs c' k0 a r s)
  | .nil, r, s => by rw [evSs, evSs]; exact .rfl
  | .cons a b, r, s => by
    rw [evSs, evSs]
    refine (mS a r s).bind fun fl s1 => ?_
    cases fl with
    | next r1 => exact mSs b r1 s1
    | ret d => exact .rfl
end
end
end Ev

set_option Elab.async false
set_option linter.all false
set_option maxRecDepth 100000
set_option maxHeartbeats 4000000
/-! calls by a table of what is known -/
namespace Ev
open PySem
inductive Res where
  | val (x : P) | err (c : Nat) (fs : List P)
def Res.at : Res → St → R D
  | .val x, s => .ok (.p x) s
  | .err c fs, s => .exc c fs s
/-- the def, its arguments, how many objects stand, the answer -/
structure Kn where
  g : Nat
  as : List P
  n : Nat
  res : Res
def lookM (T : List Kn) (g : Nat) (as : List D) (s : St) : Option Res := match T with
  | [] => none
  | e :: T => if e.g == g then (match perss as with
      | some xs => if P.beqs e.as xs && e.n == s.length then some e.res else lookM T g as s
      | none => none)
    else lookM T g as s
def callM (T : List Kn) (k0 : Nat) (Tb : List Fn) : Nat → Nat → List D → St → R D
  | 0, _, _, _ => .bad
  | n + 1, g, as, s => match (if Nat.ble k0 (n + 1) then lookM T g as s else none) with
    | some r => r.at s
    | none => match Tb[g]? with
      | some f => if as.length = f.np then leave s.length (evSs (callM T k0 Tb n) s.length f.body (enter f as) s) else .bad
      | none => .bad
theorem Le.leave {k0 : Nat} {r r' : R Fl} (h : Le r r') : Le (leave k0 r) (leave k0 r') := by
  rcases h with h | h
  · rw [h]; exact .inl _root_.rfl
  · subst h; exact .rfl
theorem Le.trans {α : Type} {a b c : R α} (h : Le a b) (g : Le b c) : Le a c := by
  rcases h with h | h
  · exact .inl h
  · rw [h]; exact g
/-- more room gives no other answer -/
theorem callN_le {Tb : List Fn} : ∀ (n g : Nat) (as : List D) (s : St), Le (callN Tb n g as s) (callN Tb (n + 1) g as s)
  | 0, g, as, s => by rw [callN]; exact .bad
  | n + 1, g, as, s => by
    rw [callN, callN]
    split
    · exact .ite (mSs (fun g ds st => callN_le n g ds st) _ _ _).leave .rfl
    · exact .rfl
theorem callN_up {Tb : List Fn} {g : Nat} {as : List D} {s : St} {n : Nat} : ∀ m, n ≤ m → Le (callN Tb n g as s) (callN Tb m g as s)
  | 0, h => by
    obtain rfl : n = 0 := by omega
    exact .rfl
  | m + 1, h => by
    by_cases e : n = m + 1
    · rw [e]; exact .rfl
    · exact (callN_up m (by omega)).trans (callN_le m g as s)
theorem perss_map : ∀ {as : List D} {xs : List P}, perss as = some xs → as = xs.map .p
  | [], xs, h => by cases h; rfl
  | .p x :: as, xs, h => by
    rw [perss] at h
    split at h
    · rename_i ys e
      cases h
      rw [perss_map e]; rfl
    · cases h
  | .obj n :: as, xs, h => by cases h
def Holds (Tb : List Fn) (k0 : Nat) (e : Kn) : Prop := ∀ s : St, s.length = e.n → callN Tb k0 e.g (e.as.map .p) s = e.res.at s
theorem lookM_of {T : List Kn} {g : Nat} {as : List D} {s : St} {r : Res} (h : lookM T g as s = some r) : ∃ e ∈ T, e.g = g ∧ as = e.as.map .p ∧ s.length = e.n ∧ e.res = r := by
  induction T with
  | nil => cases h
  | cons e T ih =>
    rw [lookM] at h
    split at h
    · rename_i hg
      split at h
      · rename_i xs hx
        split at h
        · rename_i hc
          rw [Bool.and_eq_true] at hc
          cases h
          exact ⟨e, List.mem_cons_self, by simpa using hg, by rw [perss_map hx, P.eq_of_beqs _ _ hc.1], (by simpa using hc.2 : e.n = s.length).symm, rfl⟩
        · obtain ⟨e', m, z⟩ := ih h
          exact ⟨e', List.mem_cons_of_mem _ m, z⟩
      · cases h
    · obtain ⟨e', m, z⟩ := ih h
      exact ⟨e', List.mem_cons_of_mem _ m, z⟩
theorem callM_le {T : List Kn} {k0 : Nat} {Tb : List Fn} (hT : ∀ e ∈ T, Holds Tb k0 e) : ∀ (n g : Nat) (as : List D) (s : St), Le (callM T k0 Tb n g as s) (callN Tb n g as s)
  | 0, g, as, s => by rw [callM]; exact .bad
  | n + 1, g, as, s => by
    rw [callM]
    split
    · rename_i r hr
      split at hr
      · rename_i hk
        obtain ⟨e, m, rfl, rfl, hl, rfl⟩ := lookM_of hr
        have z := hT e m s hl
        have up := callN_up (Tb := Tb) (g := e.g) (as := e.as.map .p) (s := s) (n + 1) (Nat.le_of_ble_eq_true hk)
        rw [z] at up
        exact up
      · cases hr
    · rw [callN]
      cases Tb[g]? with
      | some f => exact .ite (mSs (fun g ds st => callM_le hT n g ds st) _ _ _).leave .rfl
      | none => exact .rfl
theorem Le.ok {α : Type} {r r' : R α} {a : α} {s : St} (h : Le r r') (e : r = .ok a s) : r' = .ok a s := by
  rcases h with h | h
  · rw [h] at e; cases e
  · rw [← h]; exact e
theorem Le.eq {α : Type} {r r' q : R α} (h : Le r r') (e : r = q) (nb : q ≠ .bad) : r' = q := by
  rcases h with h | h
  · exact absurd (e.symm.trans h) nb
  · rw [← h]; exact e
/-- an answer by the table is the answer -/
theorem by_callM {T : List Kn} {k0 n g : Nat} {Tb : List Fn} {as : List D} {s : St} {r : Res} (hT : ∀ e ∈ T, Holds Tb k0 e) (e : callM T k0 Tb n g as s = r.at s) : callN Tb n g as s = r.at s := (callM_le hT n g as s).eq e (by cases r <;> (intro z; cases z))
theorem by_callS {T : List Kn} {k0 n k : Nat} {Tb : List Fn} {a : S} {r r1 : En} {s s1 : St} (hT : ∀ e ∈ T, Holds Tb k0 e) (e : evS (callM T k0 Tb n) k a r s = .ok (.next r1) s1) : evS (callN Tb n) k a r s = .ok (.next r1) s1 := (mS (fun g ds st => callM_le hT n g ds st) a r s).ok e
theorem by_callR {T : List Kn} {k0 n k : Nat} {Tb : List Fn} {a : S} {r : En} {d : D} {s s1 : St} (hT : ∀ e ∈ T, Holds Tb k0 e) (e : evS (callM T k0 Tb n) k a r s = .ok (.ret d) s1) : evS (callN Tb n) k a r s = .ok (.ret d) s1 := (mS (fun g ds st => callM_le hT n g ds st) a r s).ok e
theorem holds_nil {Tb : List Fn} {k0 : Nat} : ∀ e ∈ ([] : List Kn), Holds Tb k0 e := fun e h => by cases h
theorem holds_cons {Tb : List Fn} {k0 : Nat} {e : Kn} {T : List Kn} (h : Holds Tb k0 e) (g : ∀ e ∈ T, Holds Tb k0 e) : ∀ x ∈ e :: T, Holds Tb k0 x := fun x m => by
  rcases List.mem_cons.mp m with rfl | m
  · exact h
  · exact g x m
theorem holds1 {Tb : List Fn} {k0 g : Nat} {as : List P} {r : Res} (h : ∀ o : Ob, callN Tb k0 g (as.map .p) [o] = r.at [o]) : Holds Tb k0 ⟨g, as, 1, r⟩ := fun s hs => by
  obtain ⟨o, rfl⟩ := List.length_eq_one_iff.mp hs
  exact h o
theorem holds2 {Tb : List Fn} {k0 g : Nat} {as : List P} {r : Res} (h : ∀ o o' : Ob, callN Tb k0 g (as.map .p) [o, o'] = r.at [o, o']) : Holds Tb k0 ⟨g, as, 2, r⟩ := fun s hs => by
  match s, hs with
  | [o, o'], _ => exact h o o'
theorem holds3 {Tb : List Fn} {k0 g : Nat} {as : List P} {r : Res} (h : ∀ o o' o'' : Ob, callN Tb k0 g (as.map .p) [o, o', o''] = r.at [o, o', o'']) : Holds Tb k0 ⟨g, as, 3, r⟩ := fun s hs => by
  match s, hs with
  | [o, o', o''], _ => exact h o o' o''
theorem holds_app {Tb : List Fn} {k0 : Nat} {T U : List Kn} (h : ∀ e ∈ T, Holds Tb k0 e) (g : ∀ e ∈ U, Holds Tb k0 e) : ∀ x ∈ T ++ U, Holds Tb k0 x := fun x m => (List.mem_append.mp m).elim (h x) (g x)
/-- many calls of one def, their last argument apart -/
theorem holds3s {Tb : List Fn} {k0 g : Nat} {a : P} {r : Res} {l : List P} (h : ∀ o o' o'' : Ob, (l.map fun x => callN Tb k0 g [.p a, .p x] [o, o', o'']) = l.map fun _ => r.at [o, o', o'']) : ∀ e ∈ l.map (fun x => (⟨g, [a, x], 3, r⟩ : Kn)), Holds Tb k0 e := fun e m => by
  obtain ⟨x, hx, rfl⟩ := List.mem_map.mp m
  refine holds3 fun o o' o'' => ?_
  have z := h o o' o''
  rw [List.map_eq_map_iff] at z
  exact z x hx
end Ev

set_option Elab.async false
set_option linter.all false
set_option maxRecDepth 100000
set_option maxHeartbeats 0
namespace Ev.Pl
open PySem
def lawS0 : S := (.asg 1 (.call 22 (.cons (.var 0) .nil)))
def lawS1 : S := (.asg 2 (.bin .add (.lit (.int 1)) (.call 23 (.cons (.var 1) (.cons (.lit (.int 9)) .nil)))))
def lawS2 : S := (.par [6, 7] (.cons (.tup (.cons (.tup (.cons (.tup (.cons (.var 2) (.cons (.lit (.int 2)) .nil))) (.cons (.tup (.cons (.var 2) (.cons (.lit (.int 2)) .nil))) .nil))) .nil)) (.cons (.tup (.cons (.tup (.cons (.lit (.int 1)) (.cons (.lit (.int 2)) .nil))) (.cons (.tup (.cons (.lit (.int 1)) (.cons (.lit (.int 2)) .nil))) .nil))) .nil)))
def lawS3 : S := (.ife (.or (.cmp .ne (.call 44 (.cons (.var 6) (.cons (.tup (.cons (.lit (.int 1)) (.cons (.lit (.int 0)) .nil))) (.cons (.tup (.cons (.tup (.cons (.lit (.int 0)) (.cons (.lit (.int 1)) .nil))) .nil)) (.cons (.lit (.int 1)) .nil))))) (.frz (.rep (.frz (.disp (.cons (.lit (.str (PySem.Str.ofString ""))) .nil))) (.lit (.int 8))))) (.or (.cmp .ne (.call 45 (.cons (.var 6) (.cons (.var 6) .nil))) (.frz (.rep (.frz (.disp (.cons (.lit (.str (PySem.Str.ofString ""))) .nil))) (.lit (.int 3))))) (.cmp .ne (.call 46 (.cons (.var 7) (.cons (.tup (.cons (.lit (.int 1)) (.cons (.lit (.int 0)) .nil))) (.cons (.tup (.cons (.tup (.cons (.lit (.int 0)) .nil)) (.cons (.tup (.cons (.lit (.int 1)) .nil)) .nil))) .nil)))) (.frz (.rep (.frz (.disp (.cons (.lit (.str (PySem.Str.ofString ""))) .nil))) (.lit (.int 3))))))) (.cons (.ret (.lit (.bl false))) .nil) .nil)
def lawS4 : S := (.fo (.name 3) (.ex (.tup (.cons (.lit .non) (.cons (.tup .nil) (.cons (.frz (.disp (.cons (.bin .idx (.var 6) (.lit (.int 0))) .nil))) (.cons (.bin .idx (.var 6) (.lit (.int 0))) (.cons (.tup (.cons (.bin .idx (.var 6) (.lit (.int 0))) (.cons (.tup (.cons (.tup (.cons (.lit (.int 1)) .nil)) .nil)) .nil))) (.cons (.bin .mul (.var 6) (.lit (.int 7))) (.cons (.tup (.cons (.tup (.cons (.tup (.cons (.lit (.int 0)) .nil)) .nil)) .nil)) (.cons (.tup (.cons (.tup (.cons (.tup (.cons (.lit (.int 100)) .nil)) .nil)) .nil)) (.cons (.tup (.cons (.tup (.cons (.tup (.cons (.lit (.bl true)) .nil)) .nil)) .nil)) (.cons (.tup (.cons (.tup (.cons (.tup (.cons (.un .neg (.lit (.int 1))) (.cons (.lit (.int 2)) .nil))) (.cons (.tup (.cons (.lit (.int 1)) (.cons (.lit (.int 1)) .nil))) .nil))) .nil)) (.cons (.tup (.cons (.lit .non) .nil)) (.cons (.lit (.int 5)) .nil)))))))))))))) (.cons (.ife (.or (.cmp .ne (.call 44 (.cons (.var 3) (.cons (.lit .non) (.cons (.lit .non) (.cons (.lit .non) .nil))))) (.frz (.rep (.frz (.disp (.cons (.lit (.str (PySem.Str.ofString "meeting"))) .nil))) (.lit (.int 8))))) (.or (.cmp .ne (.call 45 (.cons (.var 3) (.cons (.lit .non) .nil))) (.frz (.rep (.frz (.disp (.cons (.lit (.str (PySem.Str.ofString "meeting"))) .nil))) (.lit (.int 3))))) (.cmp .ne (.call 45 (.cons (.var 6) (.cons (.var 3) .nil))) (.frz (.rep (.frz (.disp (.cons (.lit (.str (PySem.Str.ofString "meeting"))) .nil))) (.lit (.int 3))))))) (.cons (.ret (.lit (.bl false))) .nil) .nil) .nil))
def lawS5 : S := (.fo (.name 3) (.ex (.tup (.cons (.lit .non) (.cons (.tup .nil) (.cons (.frz (.disp (.cons (.lit (.int 0)) (.cons (.lit (.int 1)) .nil)))) (.cons (.tup (.cons (.lit (.int 0)) .nil)) (.cons (.tup (.cons (.lit (.int 0)) (.cons (.lit (.int 0)) .nil))) (.cons (.tup (.cons (.lit (.int 0)) (.cons (.lit (.int 2)) .nil))) (.cons (.tup (.cons (.lit (.bl true)) (.cons (.lit (.int 0)) .nil))) (.cons (.tup (.cons (.lit (.int 0)) (.cons (.lit (.int 1)) (.cons (.lit (.int 2)) .nil)))) (.cons (.tup (.cons (.lit (.str (PySem.Str.ofString "0"))) (.cons (.lit (.int 1)) .nil))) (.cons (.lit (.int 5)) .nil)))))))))))) (.cons (.ife (.or (.cmp .ne (.call 44 (.cons (.var 6) (.cons (.var 3) (.cons (.tup (.cons (.tup (.cons (.lit (.int 0)) (.cons (.lit (.int 1)) .nil))) .nil)) (.cons (.lit (.int 0)) .nil))))) (.frz (.cat (.frz (.cat (.frz (.rep (.frz (.disp (.cons (.lit (.str (PySem.Str.ofString ""))) .nil))) (.lit (.int 4)))) (.frz (.disp (.cons (.lit (.str (PySem.Str.ofString "member"))) .nil))))) (.frz (.rep (.frz (.disp (.cons (.lit (.str (PySem.Str.ofString ""))) .nil))) (.lit (.int 3))))))) (.cmp .ne (.bin .idx (.call 46 (.cons (.var 7) (.cons (.var 3) (.cons (.tup (.cons (.tup (.cons (.lit (.int 0)) (.cons (.lit (.int 1)) .nil))) .nil)) .nil)))) (.lit (.int 0))) (.lit (.str (PySem.Str.ofString "member"))))) (.cons (.ret (.lit (.bl false))) .nil) .nil) .nil))
def lawS6 : S := (.fo (.name 3) (.ex (.tup (.cons (.lit .non) (.cons (.tup .nil) (.cons (.frz (.disp (.cons (.lit (.int 0)) .nil))) (.cons (.tup (.cons (.lit (.int 1)) .nil)) (.cons (.tup (.cons (.lit (.int 0)) (.cons (.lit (.int 0)) .nil))) (.cons (.tup (.cons (.lit (.int 0)) (.cons (.lit (.int 2)) .nil))) (.cons (.tup (.cons (.lit (.bl true)) .nil)) (.cons (.un .tuple (.frz (.ofR (.rng1 (.lit (.int 7)))))) (.cons (.tup (.cons (.lit (.str (PySem.Str.ofString "0"))) .nil)) (.cons (.lit (.int 5)) .nil)))))))))))) (.cons (.ife (.cmp .ne (.word 0 (.str (PySem.Str.ofString "")) [(48, .txt (.str (PySem.Str.ofString "meeting"))), (49, .txt (.str (PySem.Str.ofString "member"))), (50, .txt (.str (PySem.Str.ofString "numbers"))), (51, .pre (PySem.Str.ofString "many "))] (.call 30 (.cons (.var 3) .nil))) (.lit (.str (PySem.Str.ofString "member")))) (.cons (.ret (.lit (.bl false))) .nil) .nil) .nil))
def lawS7 : S := (.fo (.name 3) (.ex (.tup (.cons (.lit .non) (.cons (.tup .nil) (.cons (.frz (.disp (.cons (.tup (.cons (.lit (.int 0)) (.cons (.lit (.int 1)) .nil))) .nil))) (.cons (.tup (.cons (.tup (.cons (.lit (.int 0)) .nil)) .nil)) (.cons (.tup (.cons (.tup (.cons (.lit (.int 1)) .nil)) (.cons (.tup (.cons (.lit (.int 0)) .nil)) .nil))) (.cons (.tup (.cons (.tup (.cons (.lit (.int 0)) (.cons (.lit (.int 1)) .nil))) (.cons (.tup (.cons (.lit (.int 1)) .nil)) .nil))) (.cons (.tup (.cons (.tup (.cons (.lit (.int 0)) .nil)) (.cons (.tup (.cons (.lit (.int 1)) .nil)) (.cons (.tup (.cons (.lit (.int 2)) .nil)) .nil)))) (.cons (.tup (.cons (.tup (.cons (.lit (.int 1)) (.cons (.lit (.int 0)) .nil))) .nil)) (.cons (.tup (.cons (.tup (.cons (.lit (.int 0)) (.cons (.lit (.bl true)) .nil))) .nil)) (.cons (.tup (.cons (.tup .nil) .nil)) (.cons (.tup (.cons (.frz (.disp (.cons (.lit (.int 0)) (.cons (.lit (.int 1)) .nil)))) .nil)) (.cons (.tup (.cons (.lit (.int 0)) (.cons (.lit (.int 1)) .nil))) (.cons (.lit (.int 5)) .nil))))))))))))))) (.cons (.ife (.or (.cmp .ne (.call 44 (.cons (.var 6) (.cons (.tup (.cons (.lit (.int 0)) (.cons (.lit (.int 1)) .nil))) (.cons (.var 3) (.cons (.lit (.int 0)) .nil))))) (.frz (.cat (.frz (.cat (.frz (.rep (.frz (.disp (.cons (.lit (.str (PySem.Str.ofString ""))) .nil))) (.lit (.int 5)))) (.frz (.rep (.frz (.disp (.cons (.lit (.str (PySem.Str.ofString "member"))) .nil))) (.lit (.int 2)))))) (.frz (.disp (.cons (.lit (.str (PySem.Str.ofString ""))) .nil)))))) (.cmp .ne (.bin .idx (.call 46 (.cons (.var 7) (.cons (.tup (.cons (.lit (.int 0)) (.cons (.lit (.int 1)) .nil))) (.cons (.var 3) .nil)))) (.lit (.int 1))) (.lit (.str (PySem.Str.ofString "member"))))) (.cons (.ret (.lit (.bl false))) .nil) .nil) .nil))
def lawS8 : S := (.fo (.name 3) (.ex (.tup (.cons (.lit .non) (.cons (.tup .nil) (.cons (.tup (.cons (.tup (.cons (.lit (.int 0)) (.cons (.lit (.int 2)) .nil))) .nil)) (.cons (.tup (.cons (.tup (.cons (.lit (.int 1)) (.cons (.lit (.int 0)) .nil))) .nil)) (.cons (.tup (.cons (.lit (.int 5)) .nil)) (.cons (.un .tuple (.frz (.comp [8] (.name 8) (.rng1 (.lit (.int 7))) .yes (.tup (.cons (.var 8) .nil))))) (.cons (.tup (.cons (.tup (.cons (.lit (.int 0)) .nil)) (.cons (.tup (.cons (.lit (.int 0)) .nil)) .nil))) (.cons (.tup (.cons (.frz (.disp (.cons (.lit (.int 0)) .nil))) .nil)) .nil)))))))))) (.cons (.ife (.cmp .ne (.bin .idx (.call 46 (.cons (.var 7) (.cons (.tup (.cons (.lit (.int 0)) (.cons (.lit (.int 1)) .nil))) (.cons (.var 3) .nil)))) (.lit (.int 2))) (.lit (.str (PySem.Str.ofString "member")))) (.cons (.ret (.lit (.bl false))) .nil) .nil) .nil))
def lawS9 : S := (.fo (.name 3) (.ex (.tup (.cons (.lit .non) (.cons (.un .neg (.lit (.int 1))) (.cons (.lit (.int 2)) (.cons (.lit (.bl true)) (.cons (.lit (.str (PySem.Str.ofString "0"))) .nil))))))) (.cons (.ife (.cmp .ne (.call 44 (.cons (.var 6) (.cons (.tup (.cons (.lit (.int 0)) (.cons (.lit (.int 1)) .nil))) (.cons (.tup (.cons (.tup (.cons (.lit (.int 0)) (.cons (.lit (.int 1)) .nil))) .nil)) (.cons (.var 3) .nil))))) (.frz (.cat (.frz (.rep (.frz (.disp (.cons (.lit (.str (PySem.Str.ofString ""))) .nil))) (.lit (.int 7)))) (.frz (.disp (.cons (.lit (.str (PySem.Str.ofString "member"))) .nil)))))) (.cons (.ret (.lit (.bl false))) .nil) .nil) .nil))
def lawS10 : S := (.fo (.name 3) (.ex (.tup (.cons (.lit .non) (.cons (.tup .nil) (.cons (.frz (.disp (.cons (.tup (.cons (.lit (.int 0)) (.cons (.lit (.int 1)) .nil))) (.cons (.tup (.cons (.lit (.int 1)) (.cons (.lit (.int 2)) .nil))) .nil)))) (.cons (.tup (.cons (.tup (.cons (.lit (.int 0)) (.cons (.lit (.int 1)) .nil))) (.cons (.tup (.cons (.lit (.int 2)) (.cons (.lit (.int 4)) .nil))) .nil))) (.cons (.tup (.cons (.tup (.cons (.lit (.int 0)) (.cons (.lit (.int 1)) .nil))) (.cons (.lit (.int 1)) .nil))) (.cons (.tup (.cons (.tup (.cons (.lit (.int 0)) (.cons (.lit (.int 1)) .nil))) (.cons (.tup (.cons (.bin .add (.bin .pow (.lit (.int 10)) (.lit (.int 6))) (.lit (.int 1))) (.cons (.lit (.int 1)) .nil))) .nil))) (.cons (.bin .mul (.tup (.cons (.tup (.cons (.lit (.int 0)) (.cons (.lit (.int 1)) .nil))) .nil)) (.lit (.int 7))) (.cons (.lit (.int 5)) .nil)))))))))) (.cons (.ife (.cmp .ne (.call 46 (.cons (.var 3) (.cons (.lit .non) (.cons (.lit .non) .nil)))) (.frz (.rep (.frz (.disp (.cons (.lit (.str (PySem.Str.ofString "numbers"))) .nil))) (.lit (.int 3))))) (.cons (.ret (.lit (.bl false))) .nil) .nil) .nil))
def lawS11 : S := (.asg 4 (.tup (.cons (.tup (.cons (.tup (.cons (.lit (.int 1)) (.cons (.lit (.int 1)) (.cons (.lit (.int 0)) .nil)))) (.cons (.tup (.cons (.lit (.int 0)) (.cons (.lit (.int 1)) (.cons (.lit (.int 0)) .nil)))) (.cons (.tup (.cons (.lit (.int 0)) (.cons (.lit (.int 0)) (.cons (.lit (.int 1)) .nil)))) .nil)))) .nil)))
def lawS12 : S := (.asg 5 (.new (.disp (.cons (.word 0 (.str (PySem.Str.ofString "")) [(48, .txt (.str (PySem.Str.ofString "meeting"))), (49, .txt (.str (PySem.Str.ofString "member"))), (50, .txt (.str (PySem.Str.ofString "numbers"))), (51, .pre (PySem.Str.ofString "many "))] (.call 34 (.cons (.var 4) (.cons (.tup (.cons (.tup (.cons (.lit (.int 0)) (.cons (.lit (.int 2)) .nil))) (.cons (.tup (.cons (.lit (.int 1)) .nil)) .nil))) .nil)))) (.cons (.lit (.str (PySem.Str.ofString ""))) .nil)))))
def lawS13 : S := (.put 5 (.lit (.int 1)) (.word 0 (.str (PySem.Str.ofString "")) [(48, .txt (.str (PySem.Str.ofString "meeting"))), (49, .txt (.str (PySem.Str.ofString "member"))), (50, .txt (.str (PySem.Str.ofString "numbers"))), (51, .pre (PySem.Str.ofString "many "))] (.call 35 (.cons (.tup (.cons (.tup (.cons (.lit (.int 0)) (.cons (.lit (.int 1)) .nil))) (.cons (.tup (.cons (.lit (.int 1)) (.cons (.lit (.int 1)) .nil))) .nil))) (.cons (.tup (.cons (.tup (.cons (.lit (.int 0)) (.cons (.lit (.int 1)) .nil))) .nil)) .nil)))))
def lawS14 : S := (.asg 5 (.new (.cat (.var 5) (.frz (.comp [8] (.name 8) (.ex (.tup (.cons (.tup (.cons (.tup (.cons (.lit (.int 0)) .nil)) (.cons (.tup (.cons (.lit (.int 1)) .nil)) .nil))) (.cons (.tup (.cons (.tup (.cons (.lit (.int 0)) (.cons (.lit (.int 1)) (.cons (.lit (.int 2)) (.cons (.lit (.int 3)) (.cons (.lit (.int 4)) (.cons (.lit (.int 5)) .nil))))))) .nil)) .nil)))) .yes (.word 0 (.str (PySem.Str.ofString "")) [(48, .txt (.str (PySem.Str.ofString "meeting"))), (49, .txt (.str (PySem.Str.ofString "member"))), (50, .txt (.str (PySem.Str.ofString "numbers"))), (51, .pre (PySem.Str.ofString "many "))] (.call 36 (.cons (.tup (.cons (.tup (.cons (.lit (.int 0)) (.cons (.lit (.int 1)) .nil))) .nil)) (.cons (.var 8) .nil)))))))))
def lawS15 : S := (.asg 5 (.new (.cat (.var 5) (.frz (.comp [9] (.name 9) (.ex (.tup (.cons (.bin .mul (.tup (.cons (.lit (.int 1)) .nil)) (.lit (.int 5))) (.cons (.bin .mul (.tup (.cons (.lit (.int 1)) .nil)) (.lit (.int 6))) .nil)))) .yes (.word 0 (.str (PySem.Str.ofString "")) [(48, .txt (.str (PySem.Str.ofString "meeting"))), (49, .txt (.str (PySem.Str.ofString "member"))), (50, .txt (.str (PySem.Str.ofString "numbers"))), (51, .pre (PySem.Str.ofString "many "))] (.call 38 (.cons (.tup (.cons (.bin .mul (.tup (.cons (.var 9) .nil)) (.un .len (.var 9))) .nil)) .nil))))))))
def lawS16 : S := (.ife (.cmp .ne (.var 5) (.frz (.disp (.cons (.lit (.str (PySem.Str.ofString "member"))) (.cons (.lit (.str (PySem.Str.ofString "numbers"))) (.cons (.lit (.str (PySem.Str.ofString "numbers"))) (.cons (.lit (.str (PySem.Str.ofString ""))) (.cons (.lit (.str (PySem.Str.ofString ""))) (.cons (.lit (.str (PySem.Str.ofString "many 100"))) .nil))))))))) (.cons (.ret (.lit (.bl false))) .nil) .nil)
def lawS17 : S := (.ret (.tv (.and (.cmp .eq (.call 45 (.cons (.var 6) (.cons (.tup (.cons (.tup (.cons (.tup (.cons (.lit (.int 5)) .nil)) .nil)) .nil)) .nil))) (.frz (.disp (.cons (.lit (.str (PySem.Str.ofString ""))) (.cons (.lit (.str (PySem.Str.ofString "meeting"))) (.cons (.lit (.str (PySem.Str.ofString ""))) .nil)))))) (.cmp .eq (.call 45 (.cons (.var 6) (.cons (.bin .mul (.var 6) (.lit (.int 6))) .nil))) (.frz (.disp (.cons (.lit (.str (PySem.Str.ofString "meeting"))) (.cons (.lit (.str (PySem.Str.ofString "meeting"))) (.cons (.lit (.str (PySem.Str.ofString ""))) .nil)))))))))
abbrev gd (i : Nat) : P := .tup [.tup [.tup [.int (1 + (i : Int)), .int 2], .tup [.int (1 + (i : Int)), .int 2]]]
abbrev nmP : P := .tup [.tup [.int 1, .int 2], .tup [.int 1, .int 2]]
abbrev envL (ns : List Int) (d2 d3 d4 d5 d6 d7 d8 d9 : Option D) : En := [some (.p (.lst (ns.map P.int))), some (.obj 0), d2, d3, d4, d5, d6, d7, d8, d9]
abbrev envG (ns : List Int) (i : Nat) (d3 : Option D) : En := envL ns (some (.p (.int (1 + (i : Int))))) d3 none none (some (.p (gd i))) (some (.p nmP)) none none
theorem st_last {cf : Nat → List D → St → R D} {k0 : Nat} {a : S} {b : Ss} {r : En} {s s1 : St} {d : D} (h : evS cf k0 a r s = .ok (.ret d) s1) : evSs cf k0 (.cons a b) r s = .ok (.ret d) s1 := by rw [evSs, h]; rfl
end Ev.Pl

set_option Elab.async false
set_option linter.all false
set_option maxRecDepth 100000
set_option maxHeartbeats 0
namespace Ev.Pl
open PySem
def m6 : P := .tup [.tup [.int 1, .int 1, .int 1, .int 1, .int 1, .int 1], .tup [.int 1, .int 1, .int 1, .int 1, .int 1, .int 1], .tup [.int 1, .int 1, .int 1, .int 1, .int 1, .int 1], .tup [.int 1, .int 1, .int 1, .int 1, .int 1, .int 1], .tup [.int 1, .int 1, .int 1, .int 1, .int 1, .int 1], .tup [.int 1, .int 1, .int 1, .int 1, .int 1, .int 1]]
def pt0 : List P := [.tup [.tup [.int 0], .tup [.int 1], .tup [.int 2], .tup [.int 3], .tup [.int 4], .tup [.int 5]], .tup [.tup [.int 0], .tup [.int 1], .tup [.int 2], .tup [.int 3], .tup [.int 4, .int 5]], .tup [.tup [.int 0], .tup [.int 1], .tup [.int 2], .tup [.int 3, .int 4], .tup [.int 5]], .tup [.tup [.int 0], .tup [.int 1], .tup [.int 2], .tup [.int 3, .int 4, .int 5]], .tup [.tup [.int 0], .tup [.int 1], .tup [.int 2], .tup [.int 3, .int 5], .tup [.int 4]], .tup [.tup [.int 0], .tup [.int 1], .tup [.int 2, .int 3], .tup [.int 4], .tup [.int 5]], .tup [.tup [.int 0], .tup [.int 1], .tup [.int 2, .int 3], .tup [.int 4, .int 5]], .tup [.tup [.int 0], .tup [.int 1], .tup [.int 2, .int 3, .int 4], .tup [.int 5]], .tup [.tup [.int 0], .tup [.int 1], .tup [.int 2, .int 3, .int 4, .int 5]], .tup [.tup [.int 0], .tup [.int 1], .tup [.int 2, .int 3, .int 5], .tup [.int 4]], .tup [.tup [.int 0], .tup [.int 1], .tup [.int 2, .int 4], .tup [.int 3], .tup [.int 5]], .tup [.tup [.int 0], .tup [.int 1], .tup [.int 2, .int 4], .tup [.int 3, .int 5]], .tup [.tup [.int 0], .tup [.int 1], .tup [.int 2, .int 4, .int 5], .tup [.int 3]], .tup [.tup [.int 0], .tup [.int 1], .tup [.int 2, .int 5], .tup [.int 3], .tup [.int 4]], .tup [.tup [.int 0], .tup [.int 1], .tup [.int 2, .int 5], .tup [.int 3, .int 4]], .tup [.tup [.int 0], .tup [.int 1, .int 2], .tup [.int 3], .tup [.int 4], .tup [.int 5]], .tup [.tup [.int 0], .tup [.int 1, .int 2], .tup [.int 3], .tup [.int 4, .int 5]], .tup [.tup [.int 0], .tup [.int 1, .int 2], .tup [.int 3, .int 4], .tup [.int 5]], .tup [.tup [.int 0], .tup [.int 1, .int 2], .tup [.int 3, .int 4, .int 5]], .tup [.tup [.int 0], .tup [.int 1, .int 2], .tup [.int 3, .int 5], .tup [.int 4]], .tup [.tup [.int 0], .tup [.int 1, .int 2, .int 3], .tup [.int 4], .tup [.int 5]], .tup [.tup [.int 0], .tup [.int 1, .int 2, .int 3], .tup [.int 4, .int 5]], .tup [.tup [.int 0], .tup [.int 1, .int 2, .int 3, .int 4], .tup [.int 5]], .tup [.tup [.int 0], .tup [.int 1, .int 2, .int 3, .int 4, .int 5]], .tup [.tup [.int 0], .tup [.int 1, .int 2, .int 3, .int 5], .tup [.int 4]]]
theorem hpt0 : ∀ e ∈ pt0.map (fun x => (⟨21, [m6, x], 3, .val (.bl true)⟩ : Kn)), Holds tb 24 e := holds3s fun o o' o'' => by kernel_rfl
def pt1 : List P := [.tup [.tup [.int 0], .tup [.int 1, .int 2, .int 4], .tup [.int 3], .tup [.int 5]], .tup [.tup [.int 0], .tup [.int 1, .int 2, .int 4], .tup [.int 3, .int 5]], .tup [.tup [.int 0], .tup [.int 1, .int 2, .int 4, .int 5], .tup [.int 3]], .tup [.tup [.int 0], .tup [.int 1, .int 2, .int 5], .tup [.int 3], .tup [.int 4]], .tup [.tup [.int 0], .tup [.int 1, .int 2, .int 5], .tup [.int 3, .int 4]], .tup [.tup [.int 0], .tup [.int 1, .int 3], .tup [.int 2], .tup [.int 4], .tup [.int 5]], .tup [.tup [.int 0], .tup [.int 1, .int 3], .tup [.int 2], .tup [.int 4, .int 5]], .tup [.tup [.int 0], .tup [.int 1, .int 3], .tup [.int 2, .int 4], .tup [.int 5]], .tup [.tup [.int 0], .tup [.int 1, .int 3], .tup [.int 2, .int 4, .int 5]], .tup [.tup [.int 0], .tup [.int 1, .int 3], .tup [.int 2, .int 5], .tup [.int 4]], .tup [.tup [.int 0], .tup [.int 1, .int 3, .int 4], .tup [.int 2], .tup [.int 5]], .tup [.tup [.int 0], .tup [.int 1, .int 3, .int 4], .tup [.int 2, .int 5]], .tup [.tup [.int 0], .tup [.int 1, .int 3, .int 4, .int 5], .tup [.int 2]], .tup [.tup [.int 0], .tup [.int 1, .int 3, .int 5], .tup [.int 2], .tup [.int 4]], .tup [.tup [.int 0], .tup [.int 1, .int 3, .int 5], .tup [.int 2, .int 4]], .tup [.tup [.int 0], .tup [.int 1, .int 4], .tup [.int 2], .tup [.int 3], .tup [.int 5]], .tup [.tup [.int 0], .tup [.int 1, .int 4], .tup [.int 2], .tup [.int 3, .int 5]], .tup [.tup [.int 0], .tup [.int 1, .int 4], .tup [.int 2, .int 3], .tup [.int 5]], .tup [.tup [.int 0], .tup [.int 1, .int 4], .tup [.int 2, .int 3, .int 5]], .tup [.tup [.int 0], .tup [.int 1, .int 4], .tup [.int 2, .int 5], .tup [.int 3]], .tup [.tup [.int 0], .tup [.int 1, .int 4, .int 5], .tup [.int 2], .tup [.int 3]], .tup [.tup [.int 0], .tup [.int 1, .int 4, .int 5], .tup [.int 2, .int 3]], .tup [.tup [.int 0], .tup [.int 1, .int 5], .tup [.int 2], .tup [.int 3], .tup [.int 4]], .tup [.tup [.int 0], .tup [.int 1, .int 5], .tup [.int 2], .tup [.int 3, .int 4]], .tup [.tup [.int 0], .tup [.int 1, .int 5], .tup [.int 2, .int 3], .tup [.int 4]]]
theorem hpt1 : ∀ e ∈ pt1.map (fun x => (⟨21, [m6, x], 3, .val (.bl true)⟩ : Kn)), Holds tb 24 e := holds3s fun o o' o'' => by kernel_rfl
def pt2 : List P := [.tup [.tup [.int 0], .tup [.int 1, .int 5], .tup [.int 2, .int 3, .int 4]], .tup [.tup [.int 0], .tup [.int 1, .int 5], .tup [.int 2, .int 4], .tup [.int 3]], .tup [.tup [.int 0, .int 1], .tup [.int 2], .tup [.int 3], .tup [.int 4], .tup [.int 5]], .tup [.tup [.int 0, .int 1], .tup [.int 2], .tup [.int 3], .tup [.int 4, .int 5]], .tup [.tup [.int 0, .int 1], .tup [.int 2], .tup [.int 3, .int 4], .tup [.int 5]], .tup [.tup [.int 0, .int 1], .tup [.int 2], .tup [.int 3, .int 4, .int 5]], .tup [.tup [.int 0, .int 1], .tup [.int 2], .tup [.int 3, .int 5], .tup [.int 4]], .tup [.tup [.int 0, .int 1], .tup [.int 2, .int 3], .tup [.int 4], .tup [.int 5]], .tup [.tup [.int 0, .int 1], .tup [.int 2, .int 3], .tup [.int 4, .int 5]], .tup [.tup [.int 0, .int 1], .tup [.int 2, .int 3, .int 4], .tup [.int 5]], .tup [.tup [.int 0, .int 1], .tup [.int 2, .int 3, .int 4, .int 5]], .tup [.tup [.int 0, .int 1], .tup [.int 2, .int 3, .int 5], .tup [.int 4]], .tup [.tup [.int 0, .int 1], .tup [.int 2, .int 4], .tup [.int 3], .tup [.int 5]], .tup [.tup [.int 0, .int 1], .tup [.int 2, .int 4], .tup [.int 3, .int 5]], .tup [.tup [.int 0, .int 1], .tup [.int 2, .int 4, .int 5], .tup [.int 3]], .tup [.tup [.int 0, .int 1], .tup [.int 2, .int 5], .tup [.int 3], .tup [.int 4]], .tup [.tup [.int 0, .int 1], .tup [.int 2, .int 5], .tup [.int 3, .int 4]], .tup [.tup [.int 0, .int 1, .int 2], .tup [.int 3], .tup [.int 4], .tup [.int 5]], .tup [.tup [.int 0, .int 1, .int 2], .tup [.int 3], .tup [.int 4, .int 5]], .tup [.tup [.int 0, .int 1, .int 2], .tup [.int 3, .int 4], .tup [.int 5]], .tup [.tup [.int 0, .int 1, .int 2], .tup [.int 3, .int 4, .int 5]], .tup [.tup [.int 0, .int 1, .int 2], .tup [.int 3, .int 5], .tup [.int 4]], .tup [.tup [.int 0, .int 1, .int 2, .int 3], .tup [.int 4], .tup [.int 5]], .tup [.tup [.int 0, .int 1, .int 2, .int 3], .tup [.int 4, .int 5]], .tup [.tup [.int 0, .int 1, .int 2, .int 3, .int 4], .tup [.int 5]]]
theorem hpt2 : ∀ e ∈ pt2.map (fun x => (⟨21, [m6, x], 3, .val (.bl true)⟩ : Kn)), Holds tb 24 e := holds3s fun o o' o'' => by kernel_rfl
def pt3 : List P := [.tup [.tup [.int 0, .int 1, .int 2, .int 3, .int 4, .int 5]], .tup [.tup [.int 0, .int 1, .int 2, .int 3, .int 5], .tup [.int 4]], .tup [.tup [.int 0, .int 1, .int 2, .int 4], .tup [.int 3], .tup [.int 5]], .tup [.tup [.int 0, .int 1, .int 2, .int 4], .tup [.int 3, .int 5]], .tup [.tup [.int 0, .int 1, .int 2, .int 4, .int 5], .tup [.int 3]], .tup [.tup [.int 0, .int 1, .int 2, .int 5], .tup [.int 3], .tup [.int 4]], .tup [.tup [.int 0, .int 1, .int 2, .int 5], .tup [.int 3, .int 4]], .tup [.tup [.int 0, .int 1, .int 3], .tup [.int 2], .tup [.int 4], .tup [.int 5]], .tup [.tup [.int 0, .int 1, .int 3], .tup [.int 2], .tup [.int 4, .int 5]], .tup [.tup [.int 0, .int 1, .int 3], .tup [.int 2, .int 4], .tup [.int 5]], .tup [.tup [.int 0, .int 1, .int 3], .tup [.int 2, .int 4, .int 5]], .tup [.tup [.int 0, .int 1, .int 3], .tup [.int 2, .int 5], .tup [.int 4]], .tup [.tup [.int 0, .int 1, .int 3, .int 4], .tup [.int 2], .tup [.int 5]], .tup [.tup [.int 0, .int 1, .int 3, .int 4], .tup [.int 2, .int 5]], .tup [.tup [.int 0, .int 1, .int 3, .int 4, .int 5], .tup [.int 2]], .tup [.tup [.int 0, .int 1, .int 3, .int 5], .tup [.int 2], .tup [.int 4]], .tup [.tup [.int 0, .int 1, .int 3, .int 5], .tup [.int 2, .int 4]], .tup [.tup [.int 0, .int 1, .int 4], .tup [.int 2], .tup [.int 3], .tup [.int 5]], .tup [.tup [.int 0, .int 1, .int 4], .tup [.int 2], .tup [.int 3, .int 5]], .tup [.tup [.int 0, .int 1, .int 4], .tup [.int 2, .int 3], .tup [.int 5]], .tup [.tup [.int 0, .int 1, .int 4], .tup [.int 2, .int 3, .int 5]], .tup [.tup [.int 0, .int 1, .int 4], .tup [.int 2, .int 5], .tup [.int 3]], .tup [.tup [.int 0, .int 1, .int 4, .int 5], .tup [.int 2], .tup [.int 3]], .tup [.tup [.int 0, .int 1, .int 4, .int 5], .tup [.int 2, .int 3]], .tup [.tup [.int 0, .int 1, .int 5], .tup [.int 2], .tup [.int 3], .tup [.int 4]]]
theorem hpt3 : ∀ e ∈ pt3.map (fun x => (⟨21, [m6, x], 3, .val (.bl true)⟩ : Kn)), Holds tb 24 e := holds3s fun o o' o'' => by kernel_rfl
def pt4 : List P := [.tup [.tup [.int 0, .int 1, .int 5], .tup [.int 2], .tup [.int 3, .int 4]], .tup [.tup [.int 0, .int 1, .int 5], .tup [.int 2, .int 3], .tup [.int 4]], .tup [.tup [.int 0, .int 1, .int 5], .tup [.int 2, .int 3, .int 4]], .tup [.tup [.int 0, .int 1, .int 5], .tup [.int 2, .int 4], .tup [.int 3]], .tup [.tup [.int 0, .int 2], .tup [.int 1], .tup [.int 3], .tup [.int 4], .tup [.int 5]], .tup [.tup [.int 0, .int 2], .tup [.int 1], .tup [.int 3], .tup [.int 4, .int 5]], .tup [.tup [.int 0, .int 2], .tup [.int 1], .tup [.int 3, .int 4], .tup [.int 5]], .tup [.tup [.int 0, .int 2], .tup [.int 1], .tup [.int 3, .int 4, .int 5]], .tup [.tup [.int 0, .int 2], .tup [.int 1], .tup [.int 3, .int 5], .tup [.int 4]], .tup [.tup [.int 0, .int 2], .tup [.int 1, .int 3], .tup [.int 4], .tup [.int 5]], .tup [.tup [.int 0, .int 2], .tup [.int 1, .int 3], .tup [.int 4, .int 5]], .tup [.tup [.int 0, .int 2], .tup [.int 1, .int 3, .int 4], .tup [.int 5]], .tup [.tup [.int 0, .int 2], .tup [.int 1, .int 3, .int 4, .int 5]], .tup [.tup [.int 0, .int 2], .tup [.int 1, .int 3, .int 5], .tup [.int 4]], .tup [.tup [.int 0, .int 2], .tup [.int 1, .int 4], .tup [.int 3], .tup [.int 5]], .tup [.tup [.int 0, .int 2], .tup [.int 1, .int 4], .tup [.int 3, .int 5]], .tup [.tup [.int 0, .int 2], .tup [.int 1, .int 4, .int 5], .tup [.int 3]], .tup [.tup [.int 0, .int 2], .tup [.int 1, .int 5], .tup [.int 3], .tup [.int 4]], .tup [.tup [.int 0, .int 2], .tup [.int 1, .int 5], .tup [.int 3, .int 4]], .tup [.tup [.int 0, .int 2, .int 3], .tup [.int 1], .tup [.int 4], .tup [.int 5]], .tup [.tup [.int 0, .int 2, .int 3], .tup [.int 1], .tup [.int 4, .int 5]], .tup [.tup [.int 0, .int 2, .int 3], .tup [.int 1, .int 4], .tup [.int 5]], .tup [.tup [.int 0, .int 2, .int 3], .tup [.int 1, .int 4, .int 5]], .tup [.tup [.int 0, .int 2, .int 3], .tup [.int 1, .int 5], .tup [.int 4]], .tup [.tup [.int 0, .int 2, .int 3, .int 4], .tup [.int 1], .tup [.int 5]]]
theorem hpt4 : ∀ e ∈ pt4.map (fun x => (⟨21, [m6, x], 3, .val (.bl true)⟩ : Kn)), Holds tb 24 e := holds3s fun o o' o'' => by kernel_rfl
def pt5 : List P := [.tup [.tup [.int 0, .int 2, .int 3, .int 4], .tup [.int 1, .int 5]], .tup [.tup [.int 0, .int 2, .int 3, .int 4, .int 5], .tup [.int 1]], .tup [.tup [.int 0, .int 2, .int 3, .int 5], .tup [.int 1], .tup [.int 4]], .tup [.tup [.int 0, .int 2, .int 3, .int 5], .tup [.int 1, .int 4]], .tup [.tup [.int 0, .int 2, .int 4], .tup [.int 1], .tup [.int 3], .tup [.int 5]], .tup [.tup [.int 0, .int 2, .int 4], .tup [.int 1], .tup [.int 3, .int 5]], .tup [.tup [.int 0, .int 2, .int 4], .tup [.int 1, .int 3], .tup [.int 5]], .tup [.tup [.int 0, .int 2, .int 4], .tup [.int 1, .int 3, .int 5]], .tup [.tup [.int 0, .int 2, .int 4], .tup [.int 1, .int 5], .tup [.int 3]], .tup [.tup [.int 0, .int 2, .int 4, .int 5], .tup [.int 1], .tup [.int 3]], .tup [.tup [.int 0, .int 2, .int 4, .int 5], .tup [.int 1, .int 3]], .tup [.tup [.int 0, .int 2, .int 5], .tup [.int 1], .tup [.int 3], .tup [.int 4]], .tup [.tup [.int 0, .int 2, .int 5], .tup [.int 1], .tup [.int 3, .int 4]], .tup [.tup [.int 0, .int 2, .int 5], .tup [.int 1, .int 3], .tup [.int 4]], .tup [.tup [.int 0, .int 2, .int 5], .tup [.int 1, .int 3, .int 4]], .tup [.tup [.int 0, .int 2, .int 5], .tup [.int 1, .int 4], .tup [.int 3]], .tup [.tup [.int 0, .int 3], .tup [.int 1], .tup [.int 2], .tup [.int 4], .tup [.int 5]], .tup [.tup [.int 0, .int 3], .tup [.int 1], .tup [.int 2], .tup [.int 4, .int 5]], .tup [.tup [.int 0, .int 3], .tup [.int 1], .tup [.int 2, .int 4], .tup [.int 5]], .tup [.tup [.int 0, .int 3], .tup [.int 1], .tup [.int 2, .int 4, .int 5]], .tup [.tup [.int 0, .int 3], .tup [.int 1], .tup [.int 2, .int 5], .tup [.int 4]], .tup [.tup [.int 0, .int 3], .tup [.int 1, .int 2], .tup [.int 4], .tup [.int 5]], .tup [.tup [.int 0, .int 3], .tup [.int 1, .int 2], .tup [.int 4, .int 5]], .tup [.tup [.int 0, .int 3], .tup [.int 1, .int 2, .int 4], .tup [.int 5]], .tup [.tup [.int 0, .int 3], .tup [.int 1, .int 2, .int 4, .int 5]]]
theorem hpt5 : ∀ e ∈ pt5.map (fun x => (⟨21, [m6, x], 3, .val (.bl true)⟩ : Kn)), Holds tb 24 e := holds3s fun o o' o'' => by kernel_rfl
def pt6 : List P := [.tup [.tup [.int 0, .int 3], .tup [.int 1, .int 2, .int 5], .tup [.int 4]], .tup [.tup [.int 0, .int 3], .tup [.int 1, .int 4], .tup [.int 2], .tup [.int 5]], .tup [.tup [.int 0, .int 3], .tup [.int 1, .int 4], .tup [.int 2, .int 5]], .tup [.tup [.int 0, .int 3], .tup [.int 1, .int 4, .int 5], .tup [.int 2]], .tup [.tup [.int 0, .int 3], .tup [.int 1, .int 5], .tup [.int 2], .tup [.int 4]], .tup [.tup [.int 0, .int 3], .tup [.int 1, .int 5], .tup [.int 2, .int 4]], .tup [.tup [.int 0, .int 3, .int 4], .tup [.int 1], .tup [.int 2], .tup [.int 5]], .tup [.tup [.int 0, .int 3, .int 4], .tup [.int 1], .tup [.int 2, .int 5]], .tup [.tup [.int 0, .int 3, .int 4], .tup [.int 1, .int 2], .tup [.int 5]], .tup [.tup [.int 0, .int 3, .int 4], .tup [.int 1, .int 2, .int 5]], .tup [.tup [.int 0, .int 3, .int 4], .tup [.int 1, .int 5], .tup [.int 2]], .tup [.tup [.int 0, .int 3, .int 4, .int 5], .tup [.int 1], .tup [.int 2]], .tup [.tup [.int 0, .int 3, .int 4, .int 5], .tup [.int 1, .int 2]], .tup [.tup [.int 0, .int 3, .int 5], .tup [.int 1], .tup [.int 2], .tup [.int 4]], .tup [.tup [.int 0, .int 3, .int 5], .tup [.int 1], .tup [.int 2, .int 4]], .tup [.tup [.int 0, .int 3, .int 5], .tup [.int 1, .int 2], .tup [.int 4]], .tup [.tup [.int 0, .int 3, .int 5], .tup [.int 1, .int 2, .int 4]], .tup [.tup [.int 0, .int 3, .int 5], .tup [.int 1, .int 4], .tup [.int 2]], .tup [.tup [.int 0, .int 4], .tup [.int 1], .tup [.int 2], .tup [.int 3], .tup [.int 5]], .tup [.tup [.int 0, .int 4], .tup [.int 1], .tup [.int 2], .tup [.int 3, .int 5]], .tup [.tup [.int 0, .int 4], .tup [.int 1], .tup [.int 2, .int 3], .tup [.int 5]], .tup [.tup [.int 0, .int 4], .tup [.int 1], .tup [.int 2, .int 3, .int 5]], .tup [.tup [.int 0, .int 4], .tup [.int 1], .tup [.int 2, .int 5], .tup [.int 3]], .tup [.tup [.int 0, .int 4], .tup [.int 1, .int 2], .tup [.int 3], .tup [.int 5]], .tup [.tup [.int 0, .int 4], .tup [.int 1, .int 2], .tup [.int 3, .int 5]]]
theorem hpt6 : ∀ e ∈ pt6.map (fun x => (⟨21, [m6, x], 3, .val (.bl true)⟩ : Kn)), Holds tb 24 e := holds3s fun o o' o'' => by kernel_rfl
def pt7 : List P := [.tup [.tup [.int 0, .int 4], .tup [.int 1, .int 2, .int 3], .tup [.int 5]], .tup [.tup [.int 0, .int 4], .tup [.int 1, .int 2, .int 3, .int 5]], .tup [.tup [.int 0, .int 4], .tup [.int 1, .int 2, .int 5], .tup [.int 3]], .tup [.tup [.int 0, .int 4], .tup [.int 1, .int 3], .tup [.int 2], .tup [.int 5]], .tup [.tup [.int 0, .int 4], .tup [.int 1, .int 3], .tup [.int 2, .int 5]], .tup [.tup [.int 0, .int 4], .tup [.int 1, .int 3, .int 5], .tup [.int 2]], .tup [.tup [.int 0, .int 4], .tup [.int 1, .int 5], .tup [.int 2], .tup [.int 3]], .tup [.tup [.int 0, .int 4], .tup [.int 1, .int 5], .tup [.int 2, .int 3]], .tup [.tup [.int 0, .int 4, .int 5], .tup [.int 1], .tup [.int 2], .tup [.int 3]], .tup [.tup [.int 0, .int 4, .int 5], .tup [.int 1], .tup [.int 2, .int 3]], .tup [.tup [.int 0, .int 4, .int 5], .tup [.int 1, .int 2], .tup [.int 3]], .tup [.tup [.int 0, .int 4, .int 5], .tup [.int 1, .int 2, .int 3]], .tup [.tup [.int 0, .int 4, .int 5], .tup [.int 1, .int 3], .tup [.int 2]], .tup [.tup [.int 0, .int 5], .tup [.int 1], .tup [.int 2], .tup [.int 3], .tup [.int 4]], .tup [.tup [.int 0, .int 5], .tup [.int 1], .tup [.int 2], .tup [.int 3, .int 4]], .tup [.tup [.int 0, .int 5], .tup [.int 1], .tup [.int 2, .int 3], .tup [.int 4]], .tup [.tup [.int 0, .int 5], .tup [.int 1], .tup [.int 2, .int 3, .int 4]], .tup [.tup [.int 0, .int 5], .tup [.int 1], .tup [.int 2, .int 4], .tup [.int 3]], .tup [.tup [.int 0, .int 5], .tup [.int 1, .int 2], .tup [.int 3], .tup [.int 4]], .tup [.tup [.int 0, .int 5], .tup [.int 1, .int 2], .tup [.int 3, .int 4]], .tup [.tup [.int 0, .int 5], .tup [.int 1, .int 2, .int 3], .tup [.int 4]], .tup [.tup [.int 0, .int 5], .tup [.int 1, .int 2, .int 3, .int 4]], .tup [.tup [.int 0, .int 5], .tup [.int 1, .int 2, .int 4], .tup [.int 3]], .tup [.tup [.int 0, .int 5], .tup [.int 1, .int 3], .tup [.int 2], .tup [.int 4]], .tup [.tup [.int 0, .int 5], .tup [.int 1, .int 3], .tup [.int 2, .int 4]]]
theorem hpt7 : ∀ e ∈ pt7.map (fun x => (⟨21, [m6, x], 3, .val (.bl true)⟩ : Kn)), Holds tb 24 e := holds3s fun o o' o'' => by kernel_rfl
def pt8 : List P := [.tup [.tup [.int 0, .int 5], .tup [.int 1, .int 3, .int 4], .tup [.int 2]], .tup [.tup [.int 0, .int 5], .tup [.int 1, .int 4], .tup [.int 2], .tup [.int 3]], .tup [.tup [.int 0, .int 5], .tup [.int 1, .int 4], .tup [.int 2, .int 3]]]
theorem hpt8 : ∀ e ∈ pt8.map (fun x => (⟨21, [m6, x], 3, .val (.bl true)⟩ : Kn)), Holds tb 24 e := holds3s fun o o' o'' => by kernel_rfl
def Tp : List Kn := pt0.map (fun x => (⟨21, [m6, x], 3, .val (.bl true)⟩ : Kn)) ++ pt1.map (fun x => (⟨21, [m6, x], 3, .val (.bl true)⟩ : Kn)) ++ pt2.map (fun x => (⟨21, [m6, x], 3, .val (.bl true)⟩ : Kn)) ++ pt3.map (fun x => (⟨21, [m6, x], 3, .val (.bl true)⟩ : Kn)) ++ pt4.map (fun x => (⟨21, [m6, x], 3, .val (.bl true)⟩ : Kn)) ++ pt5.map (fun x => (⟨21, [m6, x], 3, .val (.bl true)⟩ : Kn)) ++ pt6.map (fun x => (⟨21, [m6, x], 3, .val (.bl true)⟩ : Kn)) ++ pt7.map (fun x => (⟨21, [m6, x], 3, .val (.bl true)⟩ : Kn)) ++ pt8.map (fun x => (⟨21, [m6, x], 3, .val (.bl true)⟩ : Kn))
theorem hTp : ∀ e ∈ Tp, Holds tb 24 e := holds_app (holds_app (holds_app (holds_app (holds_app (holds_app (holds_app (holds_app hpt0 hpt1) hpt2) hpt3) hpt4) hpt5) hpt6) hpt7) hpt8
def nl6 : Kn := ⟨38, [.tup [m6]], 3, .err 51 [.int 100]⟩
theorem hl6 : Holds tb 28 nl6 := holds3 fun o o' o'' => by_callM (T := Tp) (k0 := 24) hTp (by kernel_rfl)
end Ev.Pl

set_option Elab.async false
set_option linter.all false
set_option maxRecDepth 100000
set_option maxHeartbeats 0
namespace Ev.Pl
open PySem
def nl5 : Kn := ⟨38, [.tup [.tup [.tup [.int 1, .int 1, .int 1, .int 1, .int 1], .tup [.int 1, .int 1, .int 1, .int 1, .int 1], .tup [.int 1, .int 1, .int 1, .int 1, .int 1], .tup [.int 1, .int 1, .int 1, .int 1, .int 1], .tup [.int 1, .int 1, .int 1, .int 1, .int 1]]]], 3, .val (.tup [.tup [.tup [.int 0], .tup [.int 1], .tup [.int 2], .tup [.int 3], .tup [.int 4]], .tup [.tup [.int 0], .tup [.int 1], .tup [.int 2], .tup [.int 3, .int 4]], .tup [.tup [.int 0], .tup [.int 1], .tup [.int 2, .int 3], .tup [.int 4]], .tup [.tup [.int 0], .tup [.int 1], .tup [.int 2, .int 3, .int 4]], .tup [.tup [.int 0], .tup [.int 1], .tup [.int 2, .int 4], .tup [.int 3]], .tup [.tup [.int 0], .tup [.int 1, .int 2], .tup [.int 3], .tup [.int 4]], .tup [.tup [.int 0], .tup [.int 1, .int 2], .tup [.int 3, .int 4]], .tup [.tup [.int 0], .tup [.int 1, .int 2, .int 3], .tup [.int 4]], .tup [.tup [.int 0], .tup [.int 1, .int 2, .int 3, .int 4]], .tup [.tup [.int 0], .tup [.int 1, .int 2, .int 4], .tup [.int 3]], .tup [.tup [.int 0], .tup [.int 1, .int 3], .tup [.int 2], .tup [.int 4]], .tup [.tup [.int 0], .tup [.int 1, .int 3], .tup [.int 2, .int 4]], .tup [.tup [.int 0], .tup [.int 1, .int 3, .int 4], .tup [.int 2]], .tup [.tup [.int 0], .tup [.int 1, .int 4], .tup [.int 2], .tup [.int 3]], .tup [.tup [.int 0], .tup [.int 1, .int 4], .tup [.int 2, .int 3]], .tup [.tup [.int 0, .int 1], .tup [.int 2], .tup [.int 3], .tup [.int 4]], .tup [.tup [.int 0, .int 1], .tup [.int 2], .tup [.int 3, .int 4]], .tup [.tup [.int 0, .int 1], .tup [.int 2, .int 3], .tup [.int 4]], .tup [.tup [.int 0, .int 1], .tup [.int 2, .int 3, .int 4]], .tup [.tup [.int 0, .int 1], .tup [.int 2, .int 4], .tup [.int 3]], .tup [.tup [.int 0, .int 1, .int 2], .tup [.int 3], .tup [.int 4]], .tup [.tup [.int 0, .int 1, .int 2], .tup [.int 3, .int 4]], .tup [.tup [.int 0, .int 1, .int 2, .int 3], .tup [.int 4]], .tup [.tup [.int 0, .int 1, .int 2, .int 3, .int 4]], .tup [.tup [.int 0, .int 1, .int 2, .int 4], .tup [.int 3]], .tup [.tup [.int 0, .int 1, .int 3], .tup [.int 2], .tup [.int 4]], .tup [.tup [.int 0, .int 1, .int 3], .tup [.int 2, .int 4]], .tup [.tup [.int 0, .int 1, .int 3, .int 4], .tup [.int 2]], .tup [.tup [.int 0, .int 1, .int 4], .tup [.int 2], .tup [.int 3]], .tup [.tup [.int 0, .int 1, .int 4], .tup [.int 2, .int 3]], .tup [.tup [.int 0, .int 2], .tup [.int 1], .tup [.int 3], .tup [.int 4]], .tup [.tup [.int 0, .int 2], .tup [.int 1], .tup [.int 3, .int 4]], .tup [.tup [.int 0, .int 2], .tup [.int 1, .int 3], .tup [.int 4]], .tup [.tup [.int 0, .int 2], .tup [.int 1, .int 3, .int 4]], .tup [.tup [.int 0, .int 2], .tup [.int 1, .int 4], .tup [.int 3]], .tup [.tup [.int 0, .int 2, .int 3], .tup [.int 1], .tup [.int 4]], .tup [.tup [.int 0, .int 2, .int 3], .tup [.int 1, .int 4]], .tup [.tup [.int 0, .int 2, .int 3, .int 4], .tup [.int 1]], .tup [.tup [.int 0, .int 2, .int 4], .tup [.int 1], .tup [.int 3]], .tup [.tup [.int 0, .int 2, .int 4], .tup [.int 1, .int 3]], .tup [.tup [.int 0, .int 3], .tup [.int 1], .tup [.int 2], .tup [.int 4]], .tup [.tup [.int 0, .int 3], .tup [.int 1], .tup [.int 2, .int 4]], .tup [.tup [.int 0, .int 3], .tup [.int 1, .int 2], .tup [.int 4]], .tup [.tup [.int 0, .int 3], .tup [.int 1, .int 2, .int 4]], .tup [.tup [.int 0, .int 3], .tup [.int 1, .int 4], .tup [.int 2]], .tup [.tup [.int 0, .int 3, .int 4], .tup [.int 1], .tup [.int 2]], .tup [.tup [.int 0, .int 3, .int 4], .tup [.int 1, .int 2]], .tup [.tup [.int 0, .int 4], .tup [.int 1], .tup [.int 2], .tup [.int 3]], .tup [.tup [.int 0, .int 4], .tup [.int 1], .tup [.int 2, .int 3]], .tup [.tup [.int 0, .int 4], .tup [.int 1, .int 2], .tup [.int 3]], .tup [.tup [.int 0, .int 4], .tup [.int 1, .int 2, .int 3]], .tup [.tup [.int 0, .int 4], .tup [.int 1, .int 3], .tup [.int 2]]])⟩
theorem hl5 : Holds tb 28 nl5 := holds3 fun o o' o'' => by kernel_rfl
def TA : List Kn := [nl6, nl5]
theorem hTA : ∀ e ∈ TA, Holds tb 28 e := holds_cons hl6 (holds_cons hl5 (holds_nil))
def telP : P := .tup [.tup [.tup [.int 1, .int 1, .int 0], .tup [.int 0, .int 1, .int 0], .tup [.int 0, .int 0, .int 1]]]
section
variable {ns : List Int} {a b : Nat} {d2 d3 d6 d7 : Option D}
theorem law11 : evS (callN tb 40) 0 lawS11 (envL ns d2 d3 none none d6 d7 none none) (cupSt a b) = .ok (.next (envL ns d2 d3 (some (.p telP)) none d6 d7 none none)) (cupSt a b) := by kernel_rfl
theorem law12 : evS (callN tb 40) 0 lawS12 (envL ns d2 d3 (some (.p telP)) none d6 d7 none none) (cupSt a b) = .ok (.next (envL ns d2 d3 (some (.p telP)) (some (.obj 1)) d6 d7 none none)) (cupSt a b ++ [.lst [.str (PySem.Str.ofString "member"), .str (PySem.Str.ofString "")]]) := by kernel_rfl
theorem law13 : evS (callN tb 40) 0 lawS13 (envL ns d2 d3 (some (.p telP)) (some (.obj 1)) d6 d7 none none) (cupSt a b ++ [.lst [.str (PySem.Str.ofString "member"), .str (PySem.Str.ofString "")]]) = .ok (.next (envL ns d2 d3 (some (.p telP)) (some (.obj 1)) d6 d7 none none)) (cupSt a b ++ [.lst [.str (PySem.Str.ofString "member"), .str (PySem.Str.ofString "numbers")]]) := by kernel_rfl
theorem law14 : evS (callN tb 40) 0 lawS14 (envL ns d2 d3 (some (.p telP)) (some (.obj 1)) d6 d7 none none) (cupSt a b ++ [.lst [.str (PySem.Str.ofString "member"), .str (PySem.Str.ofString "numbers")]]) = .ok (.next (envL ns d2 d3 (some (.p telP)) (some (.obj 2)) d6 d7 none none)) (cupSt a b ++ [.lst [.str (PySem.Str.ofString "member"), .str (PySem.Str.ofString "numbers")], .lst [.str (PySem.Str.ofString "member"), .str (PySem.Str.ofString "numbers"), .str (PySem.Str.ofString "numbers"), .str (PySem.Str.ofString "")]]) := by kernel_rfl
theorem law15 : evS (callN tb 40) 0 lawS15 (envL ns d2 d3 (some (.p telP)) (some (.obj 2)) d6 d7 none none) (cupSt a b ++ [.lst [.str (PySem.Str.ofString "member"), .str (PySem.Str.ofString "numbers")], .lst [.str (PySem.Str.ofString "member"), .str (PySem.Str.ofString "numbers"), .str (PySem.Str.ofString "numbers"), .str (PySem.Str.ofString "")]]) = .ok (.next (envL ns d2 d3 (some (.p telP)) (some (.obj 3)) d6 d7 none none)) (cupSt a b ++ [.lst [.str (PySem.Str.ofString "member"), .str (PySem.Str.ofString "numbers")], .lst [.str (PySem.Str.ofString "member"), .str (PySem.Str.ofString "numbers"), .str (PySem.Str.ofString "numbers"), .str (PySem.Str.ofString "")], .lst [.str (PySem.Str.ofString "member"), .str (PySem.Str.ofString "numbers"), .str (PySem.Str.ofString "numbers"), .str (PySem.Str.ofString ""), .str (PySem.Str.ofString ""), .str (PySem.Str.ofString "many 100")]]) := by_callS hTA (by kernel_rfl)
theorem law16 : evS (callN tb 40) 0 lawS16 (envL ns d2 d3 (some (.p telP)) (some (.obj 3)) d6 d7 none none) (cupSt a b ++ [.lst [.str (PySem.Str.ofString "member"), .str (PySem.Str.ofString "numbers")], .lst [.str (PySem.Str.ofString "member"), .str (PySem.Str.ofString "numbers"), .str (PySem.Str.ofString "numbers"), .str (PySem.Str.ofString "")], .lst [.str (PySem.Str.ofString "member"), .str (PySem.Str.ofString "numbers"), .str (PySem.Str.ofString "numbers"), .str (PySem.Str.ofString ""), .str (PySem.Str.ofString ""), .str (PySem.Str.ofString "many 100")]]) = .ok (.next (envL ns d2 d3 (some (.p telP)) (some (.obj 3)) d6 d7 none none)) (cupSt a b ++ [.lst [.str (PySem.Str.ofString "member"), .str (PySem.Str.ofString "numbers")], .lst [.str (PySem.Str.ofString "member"), .str (PySem.Str.ofString "numbers"), .str (PySem.Str.ofString "numbers"), .str (PySem.Str.ofString "")], .lst [.str (PySem.Str.ofString "member"), .str (PySem.Str.ofString "numbers"), .str (PySem.Str.ofString "numbers"), .str (PySem.Str.ofString ""), .str (PySem.Str.ofString ""), .str (PySem.Str.ofString "many 100")]]) := by kernel_rfl
end
end Ev.Pl

set_option Elab.async false
set_option linter.all false
set_option maxRecDepth 100000
set_option maxHeartbeats 0
namespace Ev.Pl
open PySem
def nb0_1 : Kn := ⟨5, [gd 0], 1, .val (.non)⟩
theorem hb0_1 : Holds tb 28 nb0_1 := holds1 fun o => by kernel_rfl
def nb0_2 : Kn := ⟨5, [gd 0], 2, .val (.non)⟩
theorem hb0_2 : Holds tb 28 nb0_2 := holds2 fun o o' => by kernel_rfl
def nb0_3 : Kn := ⟨5, [gd 0], 3, .val (.non)⟩
theorem hb0_3 : Holds tb 28 nb0_3 := holds3 fun o o' o'' => by kernel_rfl
def TB0 : List Kn := [nb0_1, nb0_2, nb0_3]
theorem hTB0 : ∀ e ∈ TB0, Holds tb 28 e := holds_cons hb0_1 (holds_cons hb0_2 (holds_cons hb0_3 (holds_nil)))
def nc0_0 : Kn := ⟨38, [gd 0], 1, .val (.tup [.tup [.tup [.int 0], .tup [.int 1]], .tup [.tup [.int 0, .int 1]]])⟩
theorem hc0_0 : Holds tb 30 nc0_0 := holds1 fun o => by_callM (T := TB0) (k0 := 28) hTB0 (by kernel_rfl)
def nc0_1 : Kn := ⟨39, [gd 0], 1, .val (.tup [.tup [.int 0, .int 1]])⟩
theorem hc0_1 : Holds tb 30 nc0_1 := holds1 fun o => by_callM (T := TB0) (k0 := 28) hTB0 (by kernel_rfl)
def nc0_2 : Kn := ⟨40, [gd 0], 1, .val (.tup [.tup [.int 0, .int 1]])⟩
theorem hc0_2 : Holds tb 30 nc0_2 := holds1 fun o => by_callM (T := TB0) (k0 := 28) hTB0 (by kernel_rfl)
def nc0_3 : Kn := ⟨41, [gd 0, .non], 2, .val (.bl false)⟩
theorem hc0_3 : Holds tb 30 nc0_3 := holds2 fun o o' => by_callM (T := TB0) (k0 := 28) hTB0 (by kernel_rfl)
def nc0_4 : Kn := ⟨28, [gd 0, .tup [.int 0, .int 1]], 2, .val (.tup [.tup [.tup [.int 1, .int 2], .tup [.int 1, .int 2]]])⟩
theorem hc0_4 : Holds tb 30 nc0_4 := holds2 fun o o' => by_callM (T := TB0) (k0 := 28) hTB0 (by kernel_rfl)
def nc0_5 : Kn := ⟨33, [gd 0, .tup [.tup [.int 0, .int 1]]], 2, .val (.bl true)⟩
theorem hc0_5 : Holds tb 30 nc0_5 := holds2 fun o o' => by_callM (T := TB0) (k0 := 28) hTB0 (by kernel_rfl)
def nc0_6 : Kn := ⟨34, [gd 0, .tup [.tup [.int 0, .int 1]]], 2, .val (.tup [.tup [.tup [.int 3]]])⟩
theorem hc0_6 : Holds tb 30 nc0_6 := holds2 fun o o' => by_callM (T := TB0) (k0 := 28) hTB0 (by kernel_rfl)
def nc0_7 : Kn := ⟨42, [gd 0, .int 0], 3, .val (.tup [.int 0])⟩
theorem hc0_7 : Holds tb 30 nc0_7 := holds3 fun o o' o'' => by_callM (T := TB0) (k0 := 28) hTB0 (by kernel_rfl)
def nc0_8 : Kn := ⟨29, [.tup [.tup [.int 1, .int 2], .tup [.int 1, .int 2]], .tup [.int 0, .int 1]], 1, .val (.tup [.tup [.int 1, .int 2], .tup [.int 1, .int 2]])⟩
theorem hc0_8 : Holds tb 30 nc0_8 := holds1 fun o => by kernel_rfl
def nc0_9 : Kn := ⟨35, [.tup [.tup [.int 1, .int 2], .tup [.int 1, .int 2]], .tup [.tup [.int 0, .int 1]]], 1, .val (.tup [.tup [.int 1, .int 2]])⟩
theorem hc0_9 : Holds tb 30 nc0_9 := holds1 fun o => by kernel_rfl
def nc0_10 : Kn := ⟨36, [.tup [.tup [.int 1, .int 2], .tup [.int 1, .int 2]], .tup [.tup [.int 0, .int 1]]], 1, .err 50 []⟩
theorem hc0_10 : Holds tb 30 nc0_10 := holds1 fun o => by kernel_rfl
def TC0 : List Kn := [nc0_0, nc0_1, nc0_2, nc0_3, nc0_4, nc0_5, nc0_6, nc0_7, nc0_8, nc0_9, nc0_10]
theorem hTC0 : ∀ e ∈ TC0, Holds tb 30 e := holds_cons hc0_0 (holds_cons hc0_1 (holds_cons hc0_2 (holds_cons hc0_3 (holds_cons hc0_4 (holds_cons hc0_5 (holds_cons hc0_6 (holds_cons hc0_7 (holds_cons hc0_8 (holds_cons hc0_9 (holds_cons hc0_10 (holds_nil)))))))))))
section
variable {ns : List Int} {a b : Nat}
theorem law2_0 : evS (callN tb 40) 0 lawS2 (envL ns (some (.p (.int (1 + ((0 : Nat) : Int))))) none none none none none none none) (cupSt a b) = .ok (.next (envG ns 0 none)) (cupSt a b) := by kernel_rfl
theorem law3_0 : evS (callN tb 40) 0 lawS3 (envG ns 0 none) (cupSt a b) = .ok (.next (envG ns 0 none)) (cupSt a b) := by_callS hTC0 (by kernel_rfl)
theorem law4_0 : evS (callN tb 40) 0 lawS4 (envG ns 0 none) (cupSt a b) = .ok (.next (envG ns 0 (some (.p (.int 5))))) (cupSt a b) := by_callS hTC0 (by kernel_rfl)
theorem law5_0 : evS (callN tb 40) 0 lawS5 (envG ns 0 (some (.p (.int 5)))) (cupSt a b) = .ok (.next (envG ns 0 (some (.p (.int 5))))) (cupSt a b) := by_callS hTC0 (by kernel_rfl)
theorem law6_0 : evS (callN tb 40) 0 lawS6 (envG ns 0 (some (.p (.int 5)))) (cupSt a b) = .ok (.next (envG ns 0 (some (.p (.int 5))))) (cupSt a b) := by_callS hTC0 (by kernel_rfl)
theorem law7_0 : evS (callN tb 40) 0 lawS7 (envG ns 0 (some (.p (.int 5)))) (cupSt a b) = .ok (.next (envG ns 0 (some (.p (.int 5))))) (cupSt a b) := by_callS hTC0 (by kernel_rfl)
theorem law8_0 : evS (callN tb 40) 0 lawS8 (envG ns 0 (some (.p (.int 5)))) (cupSt a b) = .ok (.next (envG ns 0 (some (.p (.tup [.lst [.int 0]]))))) (cupSt a b) := by_callS hTC0 (by kernel_rfl)
theorem law9_0 : evS (callN tb 40) 0 lawS9 (envG ns 0 (some (.p (.tup [.lst [.int 0]])))) (cupSt a b) = .ok (.next (envG ns 0 (some (.p (.str (PySem.Str.ofString "0")))))) (cupSt a b) := by_callS hTC0 (by kernel_rfl)
theorem law10_0 : evS (callN tb 40) 0 lawS10 (envG ns 0 (some (.p (.str (PySem.Str.ofString "0"))))) (cupSt a b) = .ok (.next (envG ns 0 (some (.p (.int 5))))) (cupSt a b) := by_callS hTC0 (by kernel_rfl)
theorem law17_0 : evS (callN tb 40) 0 lawS17 (envL ns (some (.p (.int (1 + ((0 : Nat) : Int))))) (some (.p (.int 5))) (some (.p (.tup [.tup [.tup [.int 1, .int 1, .int 0], .tup [.int 0, .int 1, .int 0], .tup [.int 0, .int 0, .int 1]]]))) (some (.obj 3)) (some (.p (gd 0))) (some (.p nmP)) none none) (cupSt a b ++ [.lst [.str (PySem.Str.ofString "member"), .str (PySem.Str.ofString "numbers")], .lst [.str (PySem.Str.ofString "member"), .str (PySem.Str.ofString "numbers"), .str (PySem.Str.ofString "numbers"), .str (PySem.Str.ofString "")], .lst [.str (PySem.Str.ofString "member"), .str (PySem.Str.ofString "numbers"), .str (PySem.Str.ofString "numbers"), .str (PySem.Str.ofString ""), .str (PySem.Str.ofString ""), .str (PySem.Str.ofString "many 100")]]) = .ok (.ret (.p (.bl true))) (cupSt a b ++ [.lst [.str (PySem.Str.ofString "member"), .str (PySem.Str.ofString "numbers")], .lst [.str (PySem.Str.ofString "member"), .str (PySem.Str.ofString "numbers"), .str (PySem.Str.ofString "numbers"), .str (PySem.Str.ofString "")], .lst [.str (PySem.Str.ofString "member"), .str (PySem.Str.ofString "numbers"), .str (PySem.Str.ofString "numbers"), .str (PySem.Str.ofString ""), .str (PySem.Str.ofString ""), .str (PySem.Str.ofString "many 100")]]) := by kernel_rfl
end
end Ev.Pl

set_option Elab.async false
set_option linter.all false
set_option maxRecDepth 100000
set_option maxHeartbeats 0
namespace Ev.Pl
open PySem
def nb1_1 : Kn := ⟨5, [gd 1], 1, .val (.non)⟩
theorem hb1_1 : Holds tb 28 nb1_1 := holds1 fun o => by kernel_rfl
def nb1_2 : Kn := ⟨5, [gd 1], 2, .val (.non)⟩
theorem hb1_2 : Holds tb 28 nb1_2 := holds2 fun o o' => by kernel_rfl
def nb1_3 : Kn := ⟨5, [gd 1], 3, .val (.non)⟩
theorem hb1_3 : Holds tb 28 nb1_3 := holds3 fun o o' o'' => by kernel_rfl
def TB1 : List Kn := [nb1_1, nb1_2, nb1_3]
theorem hTB1 : ∀ e ∈ TB1, Holds tb 28 e := holds_cons hb1_1 (holds_cons hb1_2 (holds_cons hb1_3 (holds_nil)))
def nc1_0 : Kn := ⟨38, [gd 1], 1, .val (.tup [.tup [.tup [.int 0], .tup [.int 1]], .tup [.tup [.int 0, .int 1]]])⟩
theorem hc1_0 : Holds tb 30 nc1_0 := holds1 fun o => by_callM (T := TB1) (k0 := 28) hTB1 (by kernel_rfl)
def nc1_1 : Kn := ⟨39, [gd 1], 1, .val (.tup [.tup [.int 0, .int 1]])⟩
theorem hc1_1 : Holds tb 30 nc1_1 := holds1 fun o => by_callM (T := TB1) (k0 := 28) hTB1 (by kernel_rfl)
def nc1_2 : Kn := ⟨40, [gd 1], 1, .val (.tup [.tup [.int 0, .int 1], .tup [.int 1, .int 0]])⟩
theorem hc1_2 : Holds tb 30 nc1_2 := holds1 fun o => by_callM (T := TB1) (k0 := 28) hTB1 (by kernel_rfl)
def nc1_3 : Kn := ⟨41, [gd 1, .non], 2, .val (.bl false)⟩
theorem hc1_3 : Holds tb 30 nc1_3 := holds2 fun o o' => by_callM (T := TB1) (k0 := 28) hTB1 (by kernel_rfl)
def nc1_4 : Kn := ⟨28, [gd 1, .tup [.int 0, .int 1]], 2, .val (.tup [.tup [.tup [.int 2, .int 2], .tup [.int 2, .int 2]]])⟩
theorem hc1_4 : Holds tb 30 nc1_4 := holds2 fun o o' => by_callM (T := TB1) (k0 := 28) hTB1 (by kernel_rfl)
def nc1_5 : Kn := ⟨33, [gd 1, .tup [.tup [.int 0, .int 1]]], 2, .val (.bl true)⟩
theorem hc1_5 : Holds tb 30 nc1_5 := holds2 fun o o' => by_callM (T := TB1) (k0 := 28) hTB1 (by kernel_rfl)
def nc1_6 : Kn := ⟨34, [gd 1, .tup [.tup [.int 0, .int 1]]], 2, .val (.tup [.tup [.tup [.int 4]]])⟩
theorem hc1_6 : Holds tb 30 nc1_6 := holds2 fun o o' => by_callM (T := TB1) (k0 := 28) hTB1 (by kernel_rfl)
def nc1_7 : Kn := ⟨42, [gd 1, .int 0], 3, .val (.tup [.int 0, .int 1])⟩
theorem hc1_7 : Holds tb 30 nc1_7 := holds3 fun o o' o'' => by_callM (T := TB1) (k0 := 28) hTB1 (by kernel_rfl)
def nc1_8 : Kn := ⟨29, [.tup [.tup [.int 1, .int 2], .tup [.int 1, .int 2]], .tup [.int 0, .int 1]], 1, .val (.tup [.tup [.int 1, .int 2], .tup [.int 1, .int 2]])⟩
theorem hc1_8 : Holds tb 30 nc1_8 := holds1 fun o => by kernel_rfl
def nc1_9 : Kn := ⟨35, [.tup [.tup [.int 1, .int 2], .tup [.int 1, .int 2]], .tup [.tup [.int 0, .int 1]]], 1, .val (.tup [.tup [.int 1, .int 2]])⟩
theorem hc1_9 : Holds tb 30 nc1_9 := holds1 fun o => by kernel_rfl
def nc1_10 : Kn := ⟨36, [.tup [.tup [.int 1, .int 2], .tup [.int 1, .int 2]], .tup [.tup [.int 0, .int 1]]], 1, .err 50 []⟩
theorem hc1_10 : Holds tb 30 nc1_10 := holds1 fun o => by kernel_rfl
def TC1 : List Kn := [nc1_0, nc1_1, nc1_2, nc1_3, nc1_4, nc1_5, nc1_6, nc1_7, nc1_8, nc1_9, nc1_10]
theorem hTC1 : ∀ e ∈ TC1, Holds tb 30 e := holds_cons hc1_0 (holds_cons hc1_1 (holds_cons hc1_2 (holds_cons hc1_3 (holds_cons hc1_4 (holds_cons hc1_5 (holds_cons hc1_6 (holds_cons hc1_7 (holds_cons hc1_8 (holds_cons hc1_9 (holds_cons hc1_10 (holds_nil)))))))))))
section
variable {ns : List Int} {a b : Nat}
theorem law2_1 : evS (callN tb 40) 0 lawS2 (envL ns (some (.p (.int (1 + ((1 : Nat) : Int))))) none none none none none none none) (cupSt a b) = .ok (.next (envG ns 1 none)) (cupSt a b) := by kernel_rfl
theorem law3_1 : evS (callN tb 40) 0 lawS3 (envG ns 1 none) (cupSt a b) = .ok (.next (envG ns 1 none)) (cupSt a b) := by_callS hTC1 (by kernel_rfl)
theorem law4_1 : evS (callN tb 40) 0 lawS4 (envG ns 1 none) (cupSt a b) = .ok (.next (envG ns 1 (some (.p (.int 5))))) (cupSt a b) := by_callS hTC1 (by kernel_rfl)
theorem law5_1 : evS (callN tb 40) 0 lawS5 (envG ns 1 (some (.p (.int 5)))) (cupSt a b) = .ok (.next (envG ns 1 (some (.p (.int 5))))) (cupSt a b) := by_callS hTC1 (by kernel_rfl)
theorem law6_1 : evS (callN tb 40) 0 lawS6 (envG ns 1 (some (.p (.int 5)))) (cupSt a b) = .ok (.next (envG ns 1 (some (.p (.int 5))))) (cupSt a b) := by_callS hTC1 (by kernel_rfl)
theorem law7_1 : evS (callN tb 40) 0 lawS7 (envG ns 1 (some (.p (.int 5)))) (cupSt a b) = .ok (.next (envG ns 1 (some (.p (.int 5))))) (cupSt a b) := by_callS hTC1 (by kernel_rfl)
theorem law8_1 : evS (callN tb 40) 0 lawS8 (envG ns 1 (some (.p (.int 5)))) (cupSt a b) = .ok (.next (envG ns 1 (some (.p (.tup [.lst [.int 0]]))))) (cupSt a b) := by_callS hTC1 (by kernel_rfl)
theorem law9_1 : evS (callN tb 40) 0 lawS9 (envG ns 1 (some (.p (.tup [.lst [.int 0]])))) (cupSt a b) = .ok (.next (envG ns 1 (some (.p (.str (PySem.Str.ofString "0")))))) (cupSt a b) := by_callS hTC1 (by kernel_rfl)
theorem law10_1 : evS (callN tb 40) 0 lawS10 (envG ns 1 (some (.p (.str (PySem.Str.ofString "0"))))) (cupSt a b) = .ok (.next (envG ns 1 (some (.p (.int 5))))) (cupSt a b) := by_callS hTC1 (by kernel_rfl)
theorem law17_1 : evS (callN tb 40) 0 lawS17 (envL ns (some (.p (.int (1 + ((1 : Nat) : Int))))) (some (.p (.int 5))) (some (.p (.tup [.tup [.tup [.int 1, .int 1, .int 0], .tup [.int 0, .int 1, .int 0], .tup [.int 0, .int 0, .int 1]]]))) (some (.obj 3)) (some (.p (gd 1))) (some (.p nmP)) none none) (cupSt a b ++ [.lst [.str (PySem.Str.ofString "member"), .str (PySem.Str.ofString "numbers")], .lst [.str (PySem.Str.ofString "member"), .str (PySem.Str.ofString "numbers"), .str (PySem.Str.ofString "numbers"), .str (PySem.Str.ofString "")], .lst [.str (PySem.Str.ofString "member"), .str (PySem.Str.ofString "numbers"), .str (PySem.Str.ofString "numbers"), .str (PySem.Str.ofString ""), .str (PySem.Str.ofString ""), .str (PySem.Str.ofString "many 100")]]) = .ok (.ret (.p (.bl true))) (cupSt a b ++ [.lst [.str (PySem.Str.ofString "member"), .str (PySem.Str.ofString "numbers")], .lst [.str (PySem.Str.ofString "member"), .str (PySem.Str.ofString "numbers"), .str (PySem.Str.ofString "numbers"), .str (PySem.Str.ofString "")], .lst [.str (PySem.Str.ofString "member"), .str (PySem.Str.ofString "numbers"), .str (PySem.Str.ofString "numbers"), .str (PySem.Str.ofString ""), .str (PySem.Str.ofString ""), .str (PySem.Str.ofString "many 100")]]) := by kernel_rfl
end
end Ev.Pl

set_option Elab.async false
set_option linter.all false
set_option maxRecDepth 100000
set_option maxHeartbeats 0
namespace Ev.Pl
open PySem
def nb2_1 : Kn := ⟨5, [gd 2], 1, .val (.non)⟩
theorem hb2_1 : Holds tb 28 nb2_1 := holds1 fun o => by kernel_rfl
def nb2_2 : Kn := ⟨5, [gd 2], 2, .val (.non)⟩
theorem hb2_2 : Holds tb 28 nb2_2 := holds2 fun o o' => by kernel_rfl
def nb2_3 : Kn := ⟨5, [gd 2], 3, .val (.non)⟩
theorem hb2_3 : Holds tb 28 nb2_3 := holds3 fun o o' o'' => by kernel_rfl
def TB2 : List Kn := [nb2_1, nb2_2, nb2_3]
theorem hTB2 : ∀ e ∈ TB2, Holds tb 28 e := holds_cons hb2_1 (holds_cons hb2_2 (holds_cons hb2_3 (holds_nil)))
def nc2_0 : Kn := ⟨38, [gd 2], 1, .val (.tup [.tup [.tup [.int 0], .tup [.int 1]], .tup [.tup [.int 0, .int 1]]])⟩
theorem hc2_0 : Holds tb 30 nc2_0 := holds1 fun o => by_callM (T := TB2) (k0 := 28) hTB2 (by kernel_rfl)
def nc2_1 : Kn := ⟨39, [gd 2], 1, .val (.tup [.tup [.int 0, .int 1]])⟩
theorem hc2_1 : Holds tb 30 nc2_1 := holds1 fun o => by_callM (T := TB2) (k0 := 28) hTB2 (by kernel_rfl)
def nc2_2 : Kn := ⟨40, [gd 2], 1, .val (.tup [.tup [.int 0, .int 1]])⟩
theorem hc2_2 : Holds tb 30 nc2_2 := holds1 fun o => by_callM (T := TB2) (k0 := 28) hTB2 (by kernel_rfl)
def nc2_3 : Kn := ⟨41, [gd 2, .non], 2, .val (.bl false)⟩
theorem hc2_3 : Holds tb 30 nc2_3 := holds2 fun o o' => by_callM (T := TB2) (k0 := 28) hTB2 (by kernel_rfl)
def nc2_4 : Kn := ⟨28, [gd 2, .tup [.int 0, .int 1]], 2, .val (.tup [.tup [.tup [.int 3, .int 2], .tup [.int 3, .int 2]]])⟩
theorem hc2_4 : Holds tb 30 nc2_4 := holds2 fun o o' => by_callM (T := TB2) (k0 := 28) hTB2 (by kernel_rfl)
def nc2_5 : Kn := ⟨33, [gd 2, .tup [.tup [.int 0, .int 1]]], 2, .val (.bl true)⟩
theorem hc2_5 : Holds tb 30 nc2_5 := holds2 fun o o' => by_callM (T := TB2) (k0 := 28) hTB2 (by kernel_rfl)
def nc2_6 : Kn := ⟨34, [gd 2, .tup [.tup [.int 0, .int 1]]], 2, .val (.tup [.tup [.tup [.int 5]]])⟩
theorem hc2_6 : Holds tb 30 nc2_6 := holds2 fun o o' => by_callM (T := TB2) (k0 := 28) hTB2 (by kernel_rfl)
def nc2_7 : Kn := ⟨42, [gd 2, .int 0], 3, .val (.tup [.int 0])⟩
theorem hc2_7 : Holds tb 30 nc2_7 := holds3 fun o o' o'' => by_callM (T := TB2) (k0 := 28) hTB2 (by kernel_rfl)
def nc2_8 : Kn := ⟨29, [.tup [.tup [.int 1, .int 2], .tup [.int 1, .int 2]], .tup [.int 0, .int 1]], 1, .val (.tup [.tup [.int 1, .int 2], .tup [.int 1, .int 2]])⟩
theorem hc2_8 : Holds tb 30 nc2_8 := holds1 fun o => by kernel_rfl
def nc2_9 : Kn := ⟨35, [.tup [.tup [.int 1, .int 2], .tup [.int 1, .int 2]], .tup [.tup [.int 0, .int 1]]], 1, .val (.tup [.tup [.int 1, .int 2]])⟩
theorem hc2_9 : Holds tb 30 nc2_9 := holds1 fun o => by kernel_rfl
def nc2_10 : Kn := ⟨36, [.tup [.tup [.int 1, .int 2], .tup [.int 1, .int 2]], .tup [.tup [.int 0, .int 1]]], 1, .err 50 []⟩
theorem hc2_10 : Holds tb 30 nc2_10 := holds1 fun o => by kernel_rfl
def TC2 : List Kn := [nc2_0, nc2_1, nc2_2, nc2_3, nc2_4, nc2_5, nc2_6, nc2_7, nc2_8, nc2_9, nc2_10]
theorem hTC2 : ∀ e ∈ TC2, Holds tb 30 e := holds_cons hc2_0 (holds_cons hc2_1 (holds_cons hc2_2 (holds_cons hc2_3 (holds_cons hc2_4 (holds_cons hc2_5 (holds_cons hc2_6 (holds_cons hc2_7 (holds_cons hc2_8 (holds_cons hc2_9 (holds_cons hc2_10 (holds_nil)))))))))))
section
variable {ns : List Int} {a b : Nat}
theorem law2_2 : evS (callN tb 40) 0 lawS2 (envL ns (some (.p (.int (1 + ((2 : Nat) : Int))))) none none none none none none none) (cupSt a b) = .ok (.next (envG ns 2 none)) (cupSt a b) := by kernel_rfl
theorem law3_2 : evS (callN tb 40) 0 lawS3 (envG ns 2 none) (cupSt a b) = .ok (.next (envG ns 2 none)) (cupSt a b) := by_callS hTC2 (by kernel_rfl)
theorem law4_2 : evS (callN tb 40) 0 lawS4 (envG ns 2 none) (cupSt a b) = .ok (.next (envG ns 2 (some (.p (.int 5))))) (cupSt a b) := by_callS hTC2 (by kernel_rfl)
theorem law5_2 : evS (callN tb 40) 0 lawS5 (envG ns 2 (some (.p (.int 5)))) (cupSt a b) = .ok (.next (envG ns 2 (some (.p (.int 5))))) (cupSt a b) := by_callS hTC2 (by kernel_rfl)
theorem law6_2 : evS (callN tb 40) 0 lawS6 (envG ns 2 (some (.p (.int 5)))) (cupSt a b) = .ok (.next (envG ns 2 (some (.p (.int 5))))) (cupSt a b) := by_callS hTC2 (by kernel_rfl)
theorem law7_2 : evS (callN tb 40) 0 lawS7 (envG ns 2 (some (.p (.int 5)))) (cupSt a b) = .ok (.next (envG ns 2 (some (.p (.int 5))))) (cupSt a b) := by_callS hTC2 (by kernel_rfl)
theorem law8_2 : evS (callN tb 40) 0 lawS8 (envG ns 2 (some (.p (.int 5)))) (cupSt a b) = .ok (.next (envG ns 2 (some (.p (.tup [.lst [.int 0]]))))) (cupSt a b) := by_callS hTC2 (by kernel_rfl)
theorem law9_2 : evS (callN tb 40) 0 lawS9 (envG ns 2 (some (.p (.tup [.lst [.int 0]])))) (cupSt a b) = .ok (.next (envG ns 2 (some (.p (.str (PySem.Str.ofString "0")))))) (cupSt a b) := by_callS hTC2 (by kernel_rfl)
theorem law10_2 : evS (callN tb 40) 0 lawS10 (envG ns 2 (some (.p (.str (PySem.Str.ofString "0"))))) (cupSt a b) = .ok (.next (envG ns 2 (some (.p (.int 5))))) (cupSt a b) := by_callS hTC2 (by kernel_rfl)
theorem law17_2 : evS (callN tb 40) 0 lawS17 (envL ns (some (.p (.int (1 + ((2 : Nat) : Int))))) (some (.p (.int 5))) (some (.p (.tup [.tup [.tup [.int 1, .int 1, .int 0], .tup [.int 0, .int 1, .int 0], .tup [.int 0, .int 0, .int 1]]]))) (some (.obj 3)) (some (.p (gd 2))) (some (.p nmP)) none none) (cupSt a b ++ [.lst [.str (PySem.Str.ofString "member"), .str (PySem.Str.ofString "numbers")], .lst [.str (PySem.Str.ofString "member"), .str (PySem.Str.ofString "numbers"), .str (PySem.Str.ofString "numbers"), .str (PySem.Str.ofString "")], .lst [.str (PySem.Str.ofString "member"), .str (PySem.Str.ofString "numbers"), .str (PySem.Str.ofString "numbers"), .str (PySem.Str.ofString ""), .str (PySem.Str.ofString ""), .str (PySem.Str.ofString "many 100")]]) = .ok (.ret (.p (.bl true))) (cupSt a b ++ [.lst [.str (PySem.Str.ofString "member"), .str (PySem.Str.ofString "numbers")], .lst [.str (PySem.Str.ofString "member"), .str (PySem.Str.ofString "numbers"), .str (PySem.Str.ofString "numbers"), .str (PySem.Str.ofString "")], .lst [.str (PySem.Str.ofString "member"), .str (PySem.Str.ofString "numbers"), .str (PySem.Str.ofString "numbers"), .str (PySem.Str.ofString ""), .str (PySem.Str.ofString ""), .str (PySem.Str.ofString "many 100")]]) := by kernel_rfl
end
end Ev.Pl

set_option Elab.async false
set_option linter.all false
set_option maxRecDepth 100000
set_option maxHeartbeats 0
namespace Ev.Pl
open PySem
def nb3_1 : Kn := ⟨5, [gd 3], 1, .val (.non)⟩
theorem hb3_1 : Holds tb 28 nb3_1 := holds1 fun o => by kernel_rfl
def nb3_2 : Kn := ⟨5, [gd 3], 2, .val (.non)⟩
theorem hb3_2 : Holds tb 28 nb3_2 := holds2 fun o o' => by kernel_rfl
def nb3_3 : Kn := ⟨5, [gd 3], 3, .val (.non)⟩
theorem hb3_3 : Holds tb 28 nb3_3 := holds3 fun o o' o'' => by kernel_rfl
def TB3 : List Kn := [nb3_1, nb3_2, nb3_3]
theorem hTB3 : ∀ e ∈ TB3, Holds tb 28 e := holds_cons hb3_1 (holds_cons hb3_2 (holds_cons hb3_3 (holds_nil)))
def nc3_0 : Kn := ⟨38, [gd 3], 1, .val (.tup [.tup [.tup [.int 0], .tup [.int 1]], .tup [.tup [.int 0, .int 1]]])⟩
theorem hc3_0 : Holds tb 30 nc3_0 := holds1 fun o => by_callM (T := TB3) (k0 := 28) hTB3 (by kernel_rfl)
def nc3_1 : Kn := ⟨39, [gd 3], 1, .val (.tup [.tup [.int 0, .int 1]])⟩
theorem hc3_1 : Holds tb 30 nc3_1 := holds1 fun o => by_callM (T := TB3) (k0 := 28) hTB3 (by kernel_rfl)
def nc3_2 : Kn := ⟨40, [gd 3], 1, .val (.tup [.tup [.int 0, .int 1]])⟩
theorem hc3_2 : Holds tb 30 nc3_2 := holds1 fun o => by_callM (T := TB3) (k0 := 28) hTB3 (by kernel_rfl)
def nc3_3 : Kn := ⟨41, [gd 3, .non], 2, .val (.bl false)⟩
theorem hc3_3 : Holds tb 30 nc3_3 := holds2 fun o o' => by_callM (T := TB3) (k0 := 28) hTB3 (by kernel_rfl)
def nc3_4 : Kn := ⟨28, [gd 3, .tup [.int 0, .int 1]], 2, .val (.tup [.tup [.tup [.int 4, .int 2], .tup [.int 4, .int 2]]])⟩
theorem hc3_4 : Holds tb 30 nc3_4 := holds2 fun o o' => by_callM (T := TB3) (k0 := 28) hTB3 (by kernel_rfl)
def nc3_5 : Kn := ⟨33, [gd 3, .tup [.tup [.int 0, .int 1]]], 2, .val (.bl true)⟩
theorem hc3_5 : Holds tb 30 nc3_5 := holds2 fun o o' => by_callM (T := TB3) (k0 := 28) hTB3 (by kernel_rfl)
def nc3_6 : Kn := ⟨34, [gd 3, .tup [.tup [.int 0, .int 1]]], 2, .val (.tup [.tup [.tup [.int 6]]])⟩
theorem hc3_6 : Holds tb 30 nc3_6 := holds2 fun o o' => by_callM (T := TB3) (k0 := 28) hTB3 (by kernel_rfl)
def nc3_7 : Kn := ⟨42, [gd 3, .int 0], 3, .val (.tup [.int 0])⟩
theorem hc3_7 : Holds tb 30 nc3_7 := holds3 fun o o' o'' => by_callM (T := TB3) (k0 := 28) hTB3 (by kernel_rfl)
def nc3_8 : Kn := ⟨29, [.tup [.tup [.int 1, .int 2], .tup [.int 1, .int 2]], .tup [.int 0, .int 1]], 1, .val (.tup [.tup [.int 1, .int 2], .tup [.int 1, .int 2]])⟩
theorem hc3_8 : Holds tb 30 nc3_8 := holds1 fun o => by kernel_rfl
def nc3_9 : Kn := ⟨35, [.tup [.tup [.int 1, .int 2], .tup [.int 1, .int 2]], .tup [.tup [.int 0, .int 1]]], 1, .val (.tup [.tup [.int 1, .int 2]])⟩
theorem hc3_9 : Holds tb 30 nc3_9 := holds1 fun o => by kernel_rfl
def nc3_10 : Kn := ⟨36, [.tup [.tup [.int 1, .int 2], .tup [.int 1, .int 2]], .tup [.tup [.int 0, .int 1]]], 1, .err 50 []⟩
theorem hc3_10 : Holds tb 30 nc3_10 := holds1 fun o => by kernel_rfl
def TC3 : List Kn := [nc3_0, nc3_1, nc3_2, nc3_3, nc3_4, nc3_5, nc3_6, nc3_7, nc3_8, nc3_9, nc3_10]
theorem hTC3 : ∀ e ∈ TC3, Holds tb 30 e := holds_cons hc3_0 (holds_cons hc3_1 (holds_cons hc3_2 (holds_cons hc3_3 (holds_cons hc3_4 (holds_cons hc3_5 (holds_cons hc3_6 (holds_cons hc3_7 (holds_cons hc3_8 (holds_cons hc3_9 (holds_cons hc3_10 (holds_nil)))))))))))
section
variable {ns : List Int} {a b : Nat}
theorem law2_3 : evS (callN tb 40) 0 lawS2 (envL ns (some (.p (.int (1 + ((3 : Nat) : Int))))) none none none none none none none) (cupSt a b) = .ok (.next (envG ns 3 none)) (cupSt a b) := by kernel_rfl
theorem law3_3 : evS (callN tb 40) 0 lawS3 (envG ns 3 none) (cupSt a b) = .ok (.next (envG ns 3 none)) (cupSt a b) := by_callS hTC3 (by kernel_rfl)
theorem law4_3 : evS (callN tb 40) 0 lawS4 (envG ns 3 none) (cupSt a b) = .ok (.next (envG ns 3 (some (.p (.int 5))))) (cupSt a b) := by_callS hTC3 (by kernel_rfl)
theorem law5_3 : evS (callN tb 40) 0 lawS5 (envG ns 3 (some (.p (.int 5)))) (cupSt a b) = .ok (.next (envG ns 3 (some (.p (.int 5))))) (cupSt a b) := by_callS hTC3 (by kernel_rfl)
theorem law6_3 : evS (callN tb 40) 0 lawS6 (envG ns 3 (some (.p (.int 5)))) (cupSt a b) = .ok (.next (envG ns 3 (some (.p (.int 5))))) (cupSt a b) := by_callS hTC3 (by kernel_rfl)
theorem law7_3 : evS (callN tb 40) 0 lawS7 (envG ns 3 (some (.p (.int 5)))) (cupSt a b) = .ok (.next (envG ns 3 (some (.p (.int 5))))) (cupSt a b) := by_callS hTC3 (by kernel_rfl)
theorem law8_3 : evS (callN tb 40) 0 lawS8 (envG ns 3 (some (.p (.int 5)))) (cupSt a b) = .ok (.next (envG ns 3 (some (.p (.tup [.lst [.int 0]]))))) (cupSt a b) := by_callS hTC3 (by kernel_rfl)
theorem law9_3 : evS (callN tb 40) 0 lawS9 (envG ns 3 (some (.p (.tup [.lst [.int 0]])))) (cupSt a b) = .ok (.next (envG ns 3 (some (.p (.str (PySem.Str.ofString "0")))))) (cupSt a b) := by_callS hTC3 (by kernel_rfl)
theorem law10_3 : evS (callN tb 40) 0 lawS10 (envG ns 3 (some (.p (.str (PySem.Str.ofString "0"))))) (cupSt a b) = .ok (.next (envG ns 3 (some (.p (.int 5))))) (cupSt a b) := by_callS hTC3 (by kernel_rfl)
theorem law17_3 : evS (callN tb 40) 0 lawS17 (envL ns (some (.p (.int (1 + ((3 : Nat) : Int))))) (some (.p (.int 5))) (some (.p (.tup [.tup [.tup [.int 1, .int 1, .int 0], .tup [.int 0, .int 1, .int 0], .tup [.int 0, .int 0, .int 1]]]))) (some (.obj 3)) (some (.p (gd 3))) (some (.p nmP)) none none) (cupSt a b ++ [.lst [.str (PySem.Str.ofString "member"), .str (PySem.Str.ofString "numbers")], .lst [.str (PySem.Str.ofString "member"), .str (PySem.Str.ofString "numbers"), .str (PySem.Str.ofString "numbers"), .str (PySem.Str.ofString "")], .lst [.str (PySem.Str.ofString "member"), .str (PySem.Str.ofString "numbers"), .str (PySem.Str.ofString "numbers"), .str (PySem.Str.ofString ""), .str (PySem.Str.ofString ""), .str (PySem.Str.ofString "many 100")]]) = .ok (.ret (.p (.bl true))) (cupSt a b ++ [.lst [.str (PySem.Str.ofString "member"), .str (PySem.Str.ofString "numbers")], .lst [.str (PySem.Str.ofString "member"), .str (PySem.Str.ofString "numbers"), .str (PySem.Str.ofString "numbers"), .str (PySem.Str.ofString "")], .lst [.str (PySem.Str.ofString "member"), .str (PySem.Str.ofString "numbers"), .str (PySem.Str.ofString "numbers"), .str (PySem.Str.ofString ""), .str (PySem.Str.ofString ""), .str (PySem.Str.ofString "many 100")]]) := by kernel_rfl
end
end Ev.Pl

set_option Elab.async false
set_option linter.all false
set_option maxRecDepth 100000
set_option maxHeartbeats 0
namespace Ev.Pl
open PySem
def nb4_1 : Kn := ⟨5, [gd 4], 1, .val (.non)⟩
theorem hb4_1 : Holds tb 28 nb4_1 := holds1 fun o => by kernel_rfl
def nb4_2 : Kn := ⟨5, [gd 4], 2, .val (.non)⟩
theorem hb4_2 : Holds tb 28 nb4_2 := holds2 fun o o' => by kernel_rfl
def nb4_3 : Kn := ⟨5, [gd 4], 3, .val (.non)⟩
theorem hb4_3 : Holds tb 28 nb4_3 := holds3 fun o o' o'' => by kernel_rfl
def TB4 : List Kn := [nb4_1, nb4_2, nb4_3]
theorem hTB4 : ∀ e ∈ TB4, Holds tb 28 e := holds_cons hb4_1 (holds_cons hb4_2 (holds_cons hb4_3 (holds_nil)))
def nc4_0 : Kn := ⟨38, [gd 4], 1, .val (.tup [.tup [.tup [.int 0], .tup [.int 1]], .tup [.tup [.int 0, .int 1]]])⟩
theorem hc4_0 : Holds tb 30 nc4_0 := holds1 fun o => by_callM (T := TB4) (k0 := 28) hTB4 (by kernel_rfl)
def nc4_1 : Kn := ⟨39, [gd 4], 1, .val (.tup [.tup [.int 0, .int 1]])⟩
theorem hc4_1 : Holds tb 30 nc4_1 := holds1 fun o => by_callM (T := TB4) (k0 := 28) hTB4 (by kernel_rfl)
def nc4_2 : Kn := ⟨40, [gd 4], 1, .val (.tup [.tup [.int 0, .int 1]])⟩
theorem hc4_2 : Holds tb 30 nc4_2 := holds1 fun o => by_callM (T := TB4) (k0 := 28) hTB4 (by kernel_rfl)
def nc4_3 : Kn := ⟨41, [gd 4, .non], 2, .val (.bl false)⟩
theorem hc4_3 : Holds tb 30 nc4_3 := holds2 fun o o' => by_callM (T := TB4) (k0 := 28) hTB4 (by kernel_rfl)
def nc4_4 : Kn := ⟨28, [gd 4, .tup [.int 0, .int 1]], 2, .val (.tup [.tup [.tup [.int 5, .int 2], .tup [.int 5, .int 2]]])⟩
theorem hc4_4 : Holds tb 30 nc4_4 := holds2 fun o o' => by_callM (T := TB4) (k0 := 28) hTB4 (by kernel_rfl)
def nc4_5 : Kn := ⟨33, [gd 4, .tup [.tup [.int 0, .int 1]]], 2, .val (.bl true)⟩
theorem hc4_5 : Holds tb 30 nc4_5 := holds2 fun o o' => by_callM (T := TB4) (k0 := 28) hTB4 (by kernel_rfl)
def nc4_6 : Kn := ⟨34, [gd 4, .tup [.tup [.int 0, .int 1]]], 2, .val (.tup [.tup [.tup [.int 7]]])⟩
theorem hc4_6 : Holds tb 30 nc4_6 := holds2 fun o o' => by_callM (T := TB4) (k0 := 28) hTB4 (by kernel_rfl)
def nc4_7 : Kn := ⟨42, [gd 4, .int 0], 3, .val (.tup [.int 0])⟩
theorem hc4_7 : Holds tb 30 nc4_7 := holds3 fun o o' o'' => by_callM (T := TB4) (k0 := 28) hTB4 (by kernel_rfl)
def nc4_8 : Kn := ⟨29, [.tup [.tup [.int 1, .int 2], .tup [.int 1, .int 2]], .tup [.int 0, .int 1]], 1, .val (.tup [.tup [.int 1, .int 2], .tup [.int 1, .int 2]])⟩
theorem hc4_8 : Holds tb 30 nc4_8 := holds1 fun o => by kernel_rfl
def nc4_9 : Kn := ⟨35, [.tup [.tup [.int 1, .int 2], .tup [.int 1, .int 2]], .tup [.tup [.int 0, .int 1]]], 1, .val (.tup [.tup [.int 1, .int 2]])⟩
theorem hc4_9 : Holds tb 30 nc4_9 := holds1 fun o => by kernel_rfl
def nc4_10 : Kn := ⟨36, [.tup [.tup [.int 1, .int 2], .tup [.int 1, .int 2]], .tup [.tup [.int 0, .int 1]]], 1, .err 50 []⟩
theorem hc4_10 : Holds tb 30 nc4_10 := holds1 fun o => by kernel_rfl
def TC4 : List Kn := [nc4_0, nc4_1, nc4_2, nc4_3, nc4_4, nc4_5, nc4_6, nc4_7, nc4_8, nc4_9, nc4_10]
theorem hTC4 : ∀ e ∈ TC4, Holds tb 30 e := holds_cons hc4_0 (holds_cons hc4_1 (holds_cons hc4_2 (holds_cons hc4_3 (holds_cons hc4_4 (holds_cons hc4_5 (holds_cons hc4_6 (holds_cons hc4_7 (holds_cons hc4_8 (holds_cons hc4_9 (holds_cons hc4_10 (holds_nil)))))))))))
section
variable {ns : List Int} {a b : Nat}
theorem law2_4 : evS (callN tb 40) 0 lawS2 (envL ns (some (.p (.int (1 + ((4 : Nat) : Int))))) none none none none none none none) (cupSt a b) = .ok (.next (envG ns 4 none)) (cupSt a b) := by kernel_rfl
theorem law3_4 : evS (callN tb 40) 0 lawS3 (envG ns 4 none) (cupSt a b) = .ok (.next (envG ns 4 none)) (cupSt a b) := by_callS hTC4 (by kernel_rfl)
theorem law4_4 : evS (callN tb 40) 0 lawS4 (envG ns 4 none) (cupSt a b) = .ok (.next (envG ns 4 (some (.p (.int 5))))) (cupSt a b) := by_callS hTC4 (by kernel_rfl)
theorem law5_4 : evS (callN tb 40) 0 lawS5 (envG ns 4 (some (.p (.int 5)))) (cupSt a b) = .ok (.next (envG ns 4 (some (.p (.int 5))))) (cupSt a b) := by_callS hTC4 (by kernel_rfl)
theorem law6_4 : evS (callN tb 40) 0 lawS6 (envG ns 4 (some (.p (.int 5)))) (cupSt a b) = .ok (.next (envG ns 4 (some (.p (.int 5))))) (cupSt a b) := by_callS hTC4 (by kernel_rfl)
theorem law7_4 : evS (callN tb 40) 0 lawS7 (envG ns 4 (some (.p (.int 5)))) (cupSt a b) = .ok (.next (envG ns 4 (some (.p (.int 5))))) (cupSt a b) := by_callS hTC4 (by kernel_rfl)
theorem law8_4 : evS (callN tb 40) 0 lawS8 (envG ns 4 (some (.p (.int 5)))) (cupSt a b) = .ok (.next (envG ns 4 (some (.p (.tup [.lst [.int 0]]))))) (cupSt a b) := by_callS hTC4 (by kernel_rfl)
theorem law9_4 : evS (callN tb 40) 0 lawS9 (envG ns 4 (some (.p (.tup [.lst [.int 0]])))) (cupSt a b) = .ok (.next (envG ns 4 (some (.p (.str (PySem.Str.ofString "0")))))) (cupSt a b) := by_callS hTC4 (by kernel_rfl)
theorem law10_4 : evS (callN tb 40) 0 lawS10 (envG ns 4 (some (.p (.str (PySem.Str.ofString "0"))))) (cupSt a b) = .ok (.next (envG ns 4 (some (.p (.int 5))))) (cupSt a b) := by_callS hTC4 (by kernel_rfl)
theorem law17_4 : evS (callN tb 40) 0 lawS17 (envL ns (some (.p (.int (1 + ((4 : Nat) : Int))))) (some (.p (.int 5))) (some (.p (.tup [.tup [.tup [.int 1, .int 1, .int 0], .tup [.int 0, .int 1, .int 0], .tup [.int 0, .int 0, .int 1]]]))) (some (.obj 3)) (some (.p (gd 4))) (some (.p nmP)) none none) (cupSt a b ++ [.lst [.str (PySem.Str.ofString "member"), .str (PySem.Str.ofString "numbers")], .lst [.str (PySem.Str.ofString "member"), .str (PySem.Str.ofString "numbers"), .str (PySem.Str.ofString "numbers"), .str (PySem.Str.ofString "")], .lst [.str (PySem.Str.ofString "member"), .str (PySem.Str.ofString "numbers"), .str (PySem.Str.ofString "numbers"), .str (PySem.Str.ofString ""), .str (PySem.Str.ofString ""), .str (PySem.Str.ofString "many 100")]]) = .ok (.ret (.p (.bl true))) (cupSt a b ++ [.lst [.str (PySem.Str.ofString "member"), .str (PySem.Str.ofString "numbers")], .lst [.str (PySem.Str.ofString "member"), .str (PySem.Str.ofString "numbers"), .str (PySem.Str.ofString "numbers"), .str (PySem.Str.ofString "")], .lst [.str (PySem.Str.ofString "member"), .str (PySem.Str.ofString "numbers"), .str (PySem.Str.ofString "numbers"), .str (PySem.Str.ofString ""), .str (PySem.Str.ofString ""), .str (PySem.Str.ofString "many 100")]]) := by kernel_rfl
end
end Ev.Pl

set_option Elab.async false
set_option linter.all false
set_option maxRecDepth 100000
set_option maxHeartbeats 0
namespace Ev.Pl
open PySem
def nb5_1 : Kn := ⟨5, [gd 5], 1, .val (.non)⟩
theorem hb5_1 : Holds tb 28 nb5_1 := holds1 fun o => by kernel_rfl
def nb5_2 : Kn := ⟨5, [gd 5], 2, .val (.non)⟩
theorem hb5_2 : Holds tb 28 nb5_2 := holds2 fun o o' => by kernel_rfl
def nb5_3 : Kn := ⟨5, [gd 5], 3, .val (.non)⟩
theorem hb5_3 : Holds tb 28 nb5_3 := holds3 fun o o' o'' => by kernel_rfl
def TB5 : List Kn := [nb5_1, nb5_2, nb5_3]
theorem hTB5 : ∀ e ∈ TB5, Holds tb 28 e := holds_cons hb5_1 (holds_cons hb5_2 (holds_cons hb5_3 (holds_nil)))
def nc5_0 : Kn := ⟨38, [gd 5], 1, .val (.tup [.tup [.tup [.int 0], .tup [.int 1]], .tup [.tup [.int 0, .int 1]]])⟩
theorem hc5_0 : Holds tb 30 nc5_0 := holds1 fun o => by_callM (T := TB5) (k0 := 28) hTB5 (by kernel_rfl)
def nc5_1 : Kn := ⟨39, [gd 5], 1, .val (.tup [.tup [.int 0, .int 1]])⟩
theorem hc5_1 : Holds tb 30 nc5_1 := holds1 fun o => by_callM (T := TB5) (k0 := 28) hTB5 (by kernel_rfl)
def nc5_2 : Kn := ⟨40, [gd 5], 1, .val (.tup [.tup [.int 0, .int 1]])⟩
theorem hc5_2 : Holds tb 30 nc5_2 := holds1 fun o => by_callM (T := TB5) (k0 := 28) hTB5 (by kernel_rfl)
def nc5_3 : Kn := ⟨41, [gd 5, .non], 2, .val (.bl false)⟩
theorem hc5_3 : Holds tb 30 nc5_3 := holds2 fun o o' => by_callM (T := TB5) (k0 := 28) hTB5 (by kernel_rfl)
def nc5_4 : Kn := ⟨28, [gd 5, .tup [.int 0, .int 1]], 2, .val (.tup [.tup [.tup [.int 6, .int 2], .tup [.int 6, .int 2]]])⟩
theorem hc5_4 : Holds tb 30 nc5_4 := holds2 fun o o' => by_callM (T := TB5) (k0 := 28) hTB5 (by kernel_rfl)
def nc5_5 : Kn := ⟨33, [gd 5, .tup [.tup [.int 0, .int 1]]], 2, .val (.bl true)⟩
theorem hc5_5 : Holds tb 30 nc5_5 := holds2 fun o o' => by_callM (T := TB5) (k0 := 28) hTB5 (by kernel_rfl)
def nc5_6 : Kn := ⟨34, [gd 5, .tup [.tup [.int 0, .int 1]]], 2, .val (.tup [.tup [.tup [.int 8]]])⟩
theorem hc5_6 : Holds tb 30 nc5_6 := holds2 fun o o' => by_callM (T := TB5) (k0 := 28) hTB5 (by kernel_rfl)
def nc5_7 : Kn := ⟨42, [gd 5, .int 0], 3, .val (.tup [.int 0])⟩
theorem hc5_7 : Holds tb 30 nc5_7 := holds3 fun o o' o'' => by_callM (T := TB5) (k0 := 28) hTB5 (by kernel_rfl)
def nc5_8 : Kn := ⟨29, [.tup [.tup [.int 1, .int 2], .tup [.int 1, .int 2]], .tup [.int 0, .int 1]], 1, .val (.tup [.tup [.int 1, .int 2], .tup [.int 1, .int 2]])⟩
theorem hc5_8 : Holds tb 30 nc5_8 := holds1 fun o => by kernel_rfl
def nc5_9 : Kn := ⟨35, [.tup [.tup [.int 1, .int 2], .tup [.int 1, .int 2]], .tup [.tup [.int 0, .int 1]]], 1, .val (.tup [.tup [.int 1, .int 2]])⟩
theorem hc5_9 : Holds tb 30 nc5_9 := holds1 fun o => by kernel_rfl
def nc5_10 : Kn := ⟨36, [.tup [.tup [.int 1, .int 2], .tup [.int 1, .int 2]], .tup [.tup [.int 0, .int 1]]], 1, .err 50 []⟩
theorem hc5_10 : Holds tb 30 nc5_10 := holds1 fun o => by kernel_rfl
def TC5 : List Kn := [nc5_0, nc5_1, nc5_2, nc5_3, nc5_4, nc5_5, nc5_6, nc5_7, nc5_8, nc5_9, nc5_10]
theorem hTC5 : ∀ e ∈ TC5, Holds tb 30 e := holds_cons hc5_0 (holds_cons hc5_1 (holds_cons hc5_2 (holds_cons hc5_3 (holds_cons hc5_4 (holds_cons hc5_5 (holds_cons hc5_6 (holds_cons hc5_7 (holds_cons hc5_8 (holds_cons hc5_9 (holds_cons hc5_10 (holds_nil)))))))))))
section
variable {ns : List Int} {a b : Nat}
theorem law2_5 : evS (callN tb 40) 0 lawS2 (envL ns (some (.p (.int (1 + ((5 : Nat) : Int))))) none none none none none none none) (cupSt a b) = .ok (.next (envG ns 5 none)) (cupSt a b) := by kernel_rfl
theorem law3_5 : evS (callN tb 40) 0 lawS3 (envG ns 5 none) (cupSt a b) = .ok (.next (envG ns 5 none)) (cupSt a b) := by_callS hTC5 (by kernel_rfl)
theorem law4_5 : evS (callN tb 40) 0 lawS4 (envG ns 5 none) (cupSt a b) = .ok (.next (envG ns 5 (some (.p (.int 5))))) (cupSt a b) := by_callS hTC5 (by kernel_rfl)
theorem law5_5 : evS (callN tb 40) 0 lawS5 (envG ns 5 (some (.p (.int 5)))) (cupSt a b) = .ok (.next (envG ns 5 (some (.p (.int 5))))) (cupSt a b) := by_callS hTC5 (by kernel_rfl)
theorem law6_5 : evS (callN tb 40) 0 lawS6 (envG ns 5 (some (.p (.int 5)))) (cupSt a b) = .ok (.next (envG ns 5 (some (.p (.int 5))))) (cupSt a b) := by_callS hTC5 (by kernel_rfl)
theorem law7_5 : evS (callN tb 40) 0 lawS7 (envG ns 5 (some (.p (.int 5)))) (cupSt a b) = .ok (.next (envG ns 5 (some (.p (.int 5))))) (cupSt a b) := by_callS hTC5 (by kernel_rfl)
theorem law8_5 : evS (callN tb 40) 0 lawS8 (envG ns 5 (some (.p (.int 5)))) (cupSt a b) = .ok (.next (envG ns 5 (some (.p (.tup [.lst [.int 0]]))))) (cupSt a b) := by_callS hTC5 (by kernel_rfl)
theorem law9_5 : evS (callN tb 40) 0 lawS9 (envG ns 5 (some (.p (.tup [.lst [.int 0]])))) (cupSt a b) = .ok (.next (envG ns 5 (some (.p (.str (PySem.Str.ofString "0")))))) (cupSt a b) := by_callS hTC5 (by kernel_rfl)
theorem law10_5 : evS (callN tb 40) 0 lawS10 (envG ns 5 (some (.p (.str (PySem.Str.ofString "0"))))) (cupSt a b) = .ok (.next (envG ns 5 (some (.p (.int 5))))) (cupSt a b) := by_callS hTC5 (by kernel_rfl)
theorem law17_5 : evS (callN tb 40) 0 lawS17 (envL ns (some (.p (.int (1 + ((5 : Nat) : Int))))) (some (.p (.int 5))) (some (.p (.tup [.tup [.tup [.int 1, .int 1, .int 0], .tup [.int 0, .int 1, .int 0], .tup [.int 0, .int 0, .int 1]]]))) (some (.obj 3)) (some (.p (gd 5))) (some (.p nmP)) none none) (cupSt a b ++ [.lst [.str (PySem.Str.ofString "member"), .str (PySem.Str.ofString "numbers")], .lst [.str (PySem.Str.ofString "member"), .str (PySem.Str.ofString "numbers"), .str (PySem.Str.ofString "numbers"), .str (PySem.Str.ofString "")], .lst [.str (PySem.Str.ofString "member"), .str (PySem.Str.ofString "numbers"), .str (PySem.Str.ofString "numbers"), .str (PySem.Str.ofString ""), .str (PySem.Str.ofString ""), .str (PySem.Str.ofString "many 100")]]) = .ok (.ret (.p (.bl true))) (cupSt a b ++ [.lst [.str (PySem.Str.ofString "member"), .str (PySem.Str.ofString "numbers")], .lst [.str (PySem.Str.ofString "member"), .str (PySem.Str.ofString "numbers"), .str (PySem.Str.ofString "numbers"), .str (PySem.Str.ofString "")], .lst [.str (PySem.Str.ofString "member"), .str (PySem.Str.ofString "numbers"), .str (PySem.Str.ofString "numbers"), .str (PySem.Str.ofString ""), .str (PySem.Str.ofString ""), .str (PySem.Str.ofString "many 100")]]) := by kernel_rfl
end
end Ev.Pl

set_option Elab.async false
set_option linter.all false
set_option maxRecDepth 100000
set_option maxHeartbeats 0
namespace Ev.Pl
open PySem
def nb6_1 : Kn := ⟨5, [gd 6], 1, .val (.non)⟩
theorem hb6_1 : Holds tb 28 nb6_1 := holds1 fun o => by kernel_rfl
def nb6_2 : Kn := ⟨5, [gd 6], 2, .val (.non)⟩
theorem hb6_2 : Holds tb 28 nb6_2 := holds2 fun o o' => by kernel_rfl
def nb6_3 : Kn := ⟨5, [gd 6], 3, .val (.non)⟩
theorem hb6_3 : Holds tb 28 nb6_3 := holds3 fun o o' o'' => by kernel_rfl
def TB6 : List Kn := [nb6_1, nb6_2, nb6_3]
theorem hTB6 : ∀ e ∈ TB6, Holds tb 28 e := holds_cons hb6_1 (holds_cons hb6_2 (holds_cons hb6_3 (holds_nil)))
def nc6_0 : Kn := ⟨38, [gd 6], 1, .val (.tup [.tup [.tup [.int 0], .tup [.int 1]], .tup [.tup [.int 0, .int 1]]])⟩
theorem hc6_0 : Holds tb 30 nc6_0 := holds1 fun o => by_callM (T := TB6) (k0 := 28) hTB6 (by kernel_rfl)
def nc6_1 : Kn := ⟨39, [gd 6], 1, .val (.tup [.tup [.int 0, .int 1]])⟩
theorem hc6_1 : Holds tb 30 nc6_1 := holds1 fun o => by_callM (T := TB6) (k0 := 28) hTB6 (by kernel_rfl)
def nc6_2 : Kn := ⟨40, [gd 6], 1, .val (.tup [.tup [.int 0, .int 1]])⟩
theorem hc6_2 : Holds tb 30 nc6_2 := holds1 fun o => by_callM (T := TB6) (k0 := 28) hTB6 (by kernel_rfl)
def nc6_3 : Kn := ⟨41, [gd 6, .non], 2, .val (.bl false)⟩
theorem hc6_3 : Holds tb 30 nc6_3 := holds2 fun o o' => by_callM (T := TB6) (k0 := 28) hTB6 (by kernel_rfl)
def nc6_4 : Kn := ⟨28, [gd 6, .tup [.int 0, .int 1]], 2, .val (.tup [.tup [.tup [.int 7, .int 2], .tup [.int 7, .int 2]]])⟩
theorem hc6_4 : Holds tb 30 nc6_4 := holds2 fun o o' => by_callM (T := TB6) (k0 := 28) hTB6 (by kernel_rfl)
def nc6_5 : Kn := ⟨33, [gd 6, .tup [.tup [.int 0, .int 1]]], 2, .val (.bl true)⟩
theorem hc6_5 : Holds tb 30 nc6_5 := holds2 fun o o' => by_callM (T := TB6) (k0 := 28) hTB6 (by kernel_rfl)
def nc6_6 : Kn := ⟨34, [gd 6, .tup [.tup [.int 0, .int 1]]], 2, .val (.tup [.tup [.tup [.int 9]]])⟩
theorem hc6_6 : Holds tb 30 nc6_6 := holds2 fun o o' => by_callM (T := TB6) (k0 := 28) hTB6 (by kernel_rfl)
def nc6_7 : Kn := ⟨42, [gd 6, .int 0], 3, .val (.tup [.int 0])⟩
theorem hc6_7 : Holds tb 30 nc6_7 := holds3 fun o o' o'' => by_callM (T := TB6) (k0 := 28) hTB6 (by kernel_rfl)
def nc6_8 : Kn := ⟨29, [.tup [.tup [.int 1, .int 2], .tup [.int 1, .int 2]], .tup [.int 0, .int 1]], 1, .val (.tup [.tup [.int 1, .int 2], .tup [.int 1, .int 2]])⟩
theorem hc6_8 : Holds tb 30 nc6_8 := holds1 fun o => by kernel_rfl
def nc6_9 : Kn := ⟨35, [.tup [.tup [.int 1, .int 2], .tup [.int 1, .int 2]], .tup [.tup [.int 0, .int 1]]], 1, .val (.tup [.tup [.int 1, .int 2]])⟩
theorem hc6_9 : Holds tb 30 nc6_9 := holds1 fun o => by kernel_rfl
def nc6_10 : Kn := ⟨36, [.tup [.tup [.int 1, .int 2], .tup [.int 1, .int 2]], .tup [.tup [.int 0, .int 1]]], 1, .err 50 []⟩
theorem hc6_10 : Holds tb 30 nc6_10 := holds1 fun o => by kernel_rfl
def TC6 : List Kn := [nc6_0, nc6_1, nc6_2, nc6_3, nc6_4, nc6_5, nc6_6, nc6_7, nc6_8, nc6_9, nc6_10]
theorem hTC6 : ∀ e ∈ TC6, Holds tb 30 e := holds_cons hc6_0 (holds_cons hc6_1 (holds_cons hc6_2 (holds_cons hc6_3 (holds_cons hc6_4 (holds_cons hc6_5 (holds_cons hc6_6 (holds_cons hc6_7 (holds_cons hc6_8 (holds_cons hc6_9 (holds_cons hc6_10 (holds_nil)))))))))))
section
variable {ns : List Int} {a b : Nat}
theorem law2_6 : evS (callN tb 40) 0 lawS2 (envL ns (some (.p (.int (1 + ((6 : Nat) : Int))))) none none none none none none none) (cupSt a b) = .ok (.next (envG ns 6 none)) (cupSt a b) := by kernel_rfl
theorem law3_6 : evS (callN tb 40) 0 lawS3 (envG ns 6 none) (cupSt a b) = .ok (.next (envG ns 6 none)) (cupSt a b) := by_callS hTC6 (by kernel_rfl)
theorem law4_6 : evS (callN tb 40) 0 lawS4 (envG ns 6 none) (cupSt a b) = .ok (.next (envG ns 6 (some (.p (.int 5))))) (cupSt a b) := by_callS hTC6 (by kernel_rfl)
theorem law5_6 : evS (callN tb 40) 0 lawS5 (envG ns 6 (some (.p (.int 5)))) (cupSt a b) = .ok (.next (envG ns 6 (some (.p (.int 5))))) (cupSt a b) := by_callS hTC6 (by kernel_rfl)
theorem law6_6 : evS (callN tb 40) 0 lawS6 (envG ns 6 (some (.p (.int 5)))) (cupSt a b) = .ok (.next (envG ns 6 (some (.p (.int 5))))) (cupSt a b) := by_callS hTC6 (by kernel_rfl)
theorem law7_6 : evS (callN tb 40) 0 lawS7 (envG ns 6 (some (.p (.int 5)))) (cupSt a b) = .ok (.next (envG ns 6 (some (.p (.int 5))))) (cupSt a b) := by_callS hTC6 (by kernel_rfl)
theorem law8_6 : evS (callN tb 40) 0 lawS8 (envG ns 6 (some (.p (.int 5)))) (cupSt a b) = .ok (.next (envG ns 6 (some (.p (.tup [.lst [.int 0]]))))) (cupSt a b) := by_callS hTC6 (by kernel_rfl)
theorem law9_6 : evS (callN tb 40) 0 lawS9 (envG ns 6 (some (.p (.tup [.lst [.int 0]])))) (cupSt a b) = .ok (.next (envG ns 6 (some (.p (.str (PySem.Str.ofString "0")))))) (cupSt a b) := by_callS hTC6 (by kernel_rfl)
theorem law10_6 : evS (callN tb 40) 0 lawS10 (envG ns 6 (some (.p (.str (PySem.Str.ofString "0"))))) (cupSt a b) = .ok (.next (envG ns 6 (some (.p (.int 5))))) (cupSt a b) := by_callS hTC6 (by kernel_rfl)
theorem law17_6 : evS (callN tb 40) 0 lawS17 (envL ns (some (.p (.int (1 + ((6 : Nat) : Int))))) (some (.p (.int 5))) (some (.p (.tup [.tup [.tup [.int 1, .int 1, .int 0], .tup [.int 0, .int 1, .int 0], .tup [.int 0, .int 0, .int 1]]]))) (some (.obj 3)) (some (.p (gd 6))) (some (.p nmP)) none none) (cupSt a b ++ [.lst [.str (PySem.Str.ofString "member"), .str (PySem.Str.ofString "numbers")], .lst [.str (PySem.Str.ofString "member"), .str (PySem.Str.ofString "numbers"), .str (PySem.Str.ofString "numbers"), .str (PySem.Str.ofString "")], .lst [.str (PySem.Str.ofString "member"), .str (PySem.Str.ofString "numbers"), .str (PySem.Str.ofString "numbers"), .str (PySem.Str.ofString ""), .str (PySem.Str.ofString ""), .str (PySem.Str.ofString "many 100")]]) = .ok (.ret (.p (.bl true))) (cupSt a b ++ [.lst [.str (PySem.Str.ofString "member"), .str (PySem.Str.ofString "numbers")], .lst [.str (PySem.Str.ofString "member"), .str (PySem.Str.ofString "numbers"), .str (PySem.Str.ofString "numbers"), .str (PySem.Str.ofString "")], .lst [.str (PySem.Str.ofString "member"), .str (PySem.Str.ofString "numbers"), .str (PySem.Str.ofString "numbers"), .str (PySem.Str.ofString ""), .str (PySem.Str.ofString ""), .str (PySem.Str.ofString "many 100")]]) := by kernel_rfl
end
end Ev.Pl

set_option Elab.async false
set_option linter.all false
set_option maxRecDepth 100000
set_option maxHeartbeats 0
namespace Ev.Pl
open PySem
def nb7_1 : Kn := ⟨5, [gd 7], 1, .val (.non)⟩
theorem hb7_1 : Holds tb 28 nb7_1 := holds1 fun o => by kernel_rfl
def nb7_2 : Kn := ⟨5, [gd 7], 2, .val (.non)⟩
theorem hb7_2 : Holds tb 28 nb7_2 := holds2 fun o o' => by kernel_rfl
def nb7_3 : Kn := ⟨5, [gd 7], 3, .val (.non)⟩
theorem hb7_3 : Holds tb 28 nb7_3 := holds3 fun o o' o'' => by kernel_rfl
def TB7 : List Kn := [nb7_1, nb7_2, nb7_3]
theorem hTB7 : ∀ e ∈ TB7, Holds tb 28 e := holds_cons hb7_1 (holds_cons hb7_2 (holds_cons hb7_3 (holds_nil)))
def nc7_0 : Kn := ⟨38, [gd 7], 1, .val (.tup [.tup [.tup [.int 0], .tup [.int 1]], .tup [.tup [.int 0, .int 1]]])⟩
theorem hc7_0 : Holds tb 30 nc7_0 := holds1 fun o => by_callM (T := TB7) (k0 := 28) hTB7 (by kernel_rfl)
def nc7_1 : Kn := ⟨39, [gd 7], 1, .val (.tup [.tup [.int 0, .int 1]])⟩
theorem hc7_1 : Holds tb 30 nc7_1 := holds1 fun o => by_callM (T := TB7) (k0 := 28) hTB7 (by kernel_rfl)
def nc7_2 : Kn := ⟨40, [gd 7], 1, .val (.tup [.tup [.int 0, .int 1]])⟩
theorem hc7_2 : Holds tb 30 nc7_2 := holds1 fun o => by_callM (T := TB7) (k0 := 28) hTB7 (by kernel_rfl)
def nc7_3 : Kn := ⟨41, [gd 7, .non], 2, .val (.bl false)⟩
theorem hc7_3 : Holds tb 30 nc7_3 := holds2 fun o o' => by_callM (T := TB7) (k0 := 28) hTB7 (by kernel_rfl)
def nc7_4 : Kn := ⟨28, [gd 7, .tup [.int 0, .int 1]], 2, .val (.tup [.tup [.tup [.int 8, .int 2], .tup [.int 8, .int 2]]])⟩
theorem hc7_4 : Holds tb 30 nc7_4 := holds2 fun o o' => by_callM (T := TB7) (k0 := 28) hTB7 (by kernel_rfl)
def nc7_5 : Kn := ⟨33, [gd 7, .tup [.tup [.int 0, .int 1]]], 2, .val (.bl true)⟩
theorem hc7_5 : Holds tb 30 nc7_5 := holds2 fun o o' => by_callM (T := TB7) (k0 := 28) hTB7 (by kernel_rfl)
def nc7_6 : Kn := ⟨34, [gd 7, .tup [.tup [.int 0, .int 1]]], 2, .val (.tup [.tup [.tup [.int 10]]])⟩
theorem hc7_6 : Holds tb 30 nc7_6 := holds2 fun o o' => by_callM (T := TB7) (k0 := 28) hTB7 (by kernel_rfl)
def nc7_7 : Kn := ⟨42, [gd 7, .int 0], 3, .val (.tup [.int 0])⟩
theorem hc7_7 : Holds tb 30 nc7_7 := holds3 fun o o' o'' => by_callM (T := TB7) (k0 := 28) hTB7 (by kernel_rfl)
def nc7_8 : Kn := ⟨29, [.tup [.tup [.int 1, .int 2], .tup [.int 1, .int 2]], .tup [.int 0, .int 1]], 1, .val (.tup [.tup [.int 1, .int 2], .tup [.int 1, .int 2]])⟩
theorem hc7_8 : Holds tb 30 nc7_8 := holds1 fun o => by kernel_rfl
def nc7_9 : Kn := ⟨35, [.tup [.tup [.int 1, .int 2], .tup [.int 1, .int 2]], .tup [.tup [.int 0, .int 1]]], 1, .val (.tup [.tup [.int 1, .int 2]])⟩
theorem hc7_9 : Holds tb 30 nc7_9 := holds1 fun o => by kernel_rfl
def nc7_10 : Kn := ⟨36, [.tup [.tup [.int 1, .int 2], .tup [.int 1, .int 2]], .tup [.tup [.int 0, .int 1]]], 1, .err 50 []⟩
theorem hc7_10 : Holds tb 30 nc7_10 := holds1 fun o => by kernel_rfl
def TC7 : List Kn := [nc7_0, nc7_1, nc7_2, nc7_3, nc7_4, nc7_5, nc7_6, nc7_7, nc7_8, nc7_9, nc7_10]
theorem hTC7 : ∀ e ∈ TC7, Holds tb 30 e := holds_cons hc7_0 (holds_cons hc7_1 (holds_cons hc7_2 (holds_cons hc7_3 (holds_cons hc7_4 (holds_cons hc7_5 (holds_cons hc7_6 (holds_cons hc7_7 (holds_cons hc7_8 (holds_cons hc7_9 (holds_cons hc7_10 (holds_nil)))))))))))
section
variable {ns : List Int} {a b : Nat}
theorem law2_7 : evS (callN tb 40) 0 lawS2 (envL ns (some (.p (.int (1 + ((7 : Nat) : Int))))) none none none none none none none) (cupSt a b) = .ok (.next (envG ns 7 none)) (cupSt a b) := by kernel_rfl
theorem law3_7 : evS (callN tb 40) 0 lawS3 (envG ns 7 none) (cupSt a b) = .ok (.next (envG ns 7 none)) (cupSt a b) := by_callS hTC7 (by kernel_rfl)
theorem law4_7 : evS (callN tb 40) 0 lawS4 (envG ns 7 none) (cupSt a b) = .ok (.next (envG ns 7 (some (.p (.int 5))))) (cupSt a b) := by_callS hTC7 (by kernel_rfl)
theorem law5_7 : evS (callN tb 40) 0 lawS5 (envG ns 7 (some (.p (.int 5)))) (cupSt a b) = .ok (.next (envG ns 7 (some (.p (.int 5))))) (cupSt a b) := by_callS hTC7 (by kernel_rfl)
theorem law6_7 : evS (callN tb 40) 0 lawS6 (envG ns 7 (some (.p (.int 5)))) (cupSt a b) = .ok (.next (envG ns 7 (some (.p (.int 5))))) (cupSt a b) := by_callS hTC7 (by kernel_rfl)
theorem law7_7 : evS (callN tb 40) 0 lawS7 (envG ns 7 (some (.p (.int 5)))) (cupSt a b) = .ok (.next (envG ns 7 (some (.p (.int 5))))) (cupSt a b) := by_callS hTC7 (by kernel_rfl)
theorem law8_7 : evS (callN tb 40) 0 lawS8 (envG ns 7 (some (.p (.int 5)))) (cupSt a b) = .ok (.next (envG ns 7 (some (.p (.tup [.lst [.int 0]]))))) (cupSt a b) := by_callS hTC7 (by kernel_rfl)
theorem law9_7 : evS (callN tb 40) 0 lawS9 (envG ns 7 (some (.p (.tup [.lst [.int 0]])))) (cupSt a b) = .ok (.next (envG ns 7 (some (.p (.str (PySem.Str.ofString "0")))))) (cupSt a b) := by_callS hTC7 (by kernel_rfl)
theorem law10_7 : evS (callN tb 40) 0 lawS10 (envG ns 7 (some (.p (.str (PySem.Str.ofString "0"))))) (cupSt a b) = .ok (.next (envG ns 7 (some (.p (.int 5))))) (cupSt a b) := by_callS hTC7 (by kernel_rfl)
theorem law17_7 : evS (callN tb 40) 0 lawS17 (envL ns (some (.p (.int (1 + ((7 : Nat) : Int))))) (some (.p (.int 5))) (some (.p (.tup [.tup [.tup [.int 1, .int 1, .int 0], .tup [.int 0, .int 1, .int 0], .tup [.int 0, .int 0, .int 1]]]))) (some (.obj 3)) (some (.p (gd 7))) (some (.p nmP)) none none) (cupSt a b ++ [.lst [.str (PySem.Str.ofString "member"), .str (PySem.Str.ofString "numbers")], .lst [.str (PySem.Str.ofString "member"), .str (PySem.Str.ofString "numbers"), .str (PySem.Str.ofString "numbers"), .str (PySem.Str.ofString "")], .lst [.str (PySem.Str.ofString "member"), .str (PySem.Str.ofString "numbers"), .str (PySem.Str.ofString "numbers"), .str (PySem.Str.ofString ""), .str (PySem.Str.ofString ""), .str (PySem.Str.ofString "many 100")]]) = .ok (.ret (.p (.bl true))) (cupSt a b ++ [.lst [.str (PySem.Str.ofString "member"), .str (PySem.Str.ofString "numbers")], .lst [.str (PySem.Str.ofString "member"), .str (PySem.Str.ofString "numbers"), .str (PySem.Str.ofString "numbers"), .str (PySem.Str.ofString "")], .lst [.str (PySem.Str.ofString "member"), .str (PySem.Str.ofString "numbers"), .str (PySem.Str.ofString "numbers"), .str (PySem.Str.ofString ""), .str (PySem.Str.ofString ""), .str (PySem.Str.ofString "many 100")]]) := by kernel_rfl
end
end Ev.Pl

set_option Elab.async false
set_option linter.all false
set_option maxRecDepth 100000
set_option maxHeartbeats 0
namespace Ev.Pl
open PySem
def nb8_1 : Kn := ⟨5, [gd 8], 1, .val (.non)⟩
theorem hb8_1 : Holds tb 28 nb8_1 := holds1 fun o => by kernel_rfl
def nb8_2 : Kn := ⟨5, [gd 8], 2, .val (.non)⟩
theorem hb8_2 : Holds tb 28 nb8_2 := holds2 fun o o' => by kernel_rfl
def nb8_3 : Kn := ⟨5, [gd 8], 3, .val (.non)⟩
theorem hb8_3 : Holds tb 28 nb8_3 := holds3 fun o o' o'' => by kernel_rfl
def TB8 : List Kn := [nb8_1, nb8_2, nb8_3]
theorem hTB8 : ∀ e ∈ TB8, Holds tb 28 e := holds_cons hb8_1 (holds_cons hb8_2 (holds_cons hb8_3 (holds_nil)))
def nc8_0 : Kn := ⟨38, [gd 8], 1, .val (.tup [.tup [.tup [.int 0], .tup [.int 1]], .tup [.tup [.int 0, .int 1]]])⟩
theorem hc8_0 : Holds tb 30 nc8_0 := holds1 fun o => by_callM (T := TB8) (k0 := 28) hTB8 (by kernel_rfl)
def nc8_1 : Kn := ⟨39, [gd 8], 1, .val (.tup [.tup [.int 0, .int 1]])⟩
theorem hc8_1 : Holds tb 30 nc8_1 := holds1 fun o => by_callM (T := TB8) (k0 := 28) hTB8 (by kernel_rfl)
def nc8_2 : Kn := ⟨40, [gd 8], 1, .val (.tup [.tup [.int 0, .int 1]])⟩
theorem hc8_2 : Holds tb 30 nc8_2 := holds1 fun o => by_callM (T := TB8) (k0 := 28) hTB8 (by kernel_rfl)
def nc8_3 : Kn := ⟨41, [gd 8, .non], 2, .val (.bl false)⟩
theorem hc8_3 : Holds tb 30 nc8_3 := holds2 fun o o' => by_callM (T := TB8) (k0 := 28) hTB8 (by kernel_rfl)
def nc8_4 : Kn := ⟨28, [gd 8, .tup [.int 0, .int 1]], 2, .val (.tup [.tup [.tup [.int 9, .int 2], .tup [.int 9, .int 2]]])⟩
theorem hc8_4 : Holds tb 30 nc8_4 := holds2 fun o o' => by_callM (T := TB8) (k0 := 28) hTB8 (by kernel_rfl)
def nc8_5 : Kn := ⟨33, [gd 8, .tup [.tup [.int 0, .int 1]]], 2, .val (.bl true)⟩
theorem hc8_5 : Holds tb 30 nc8_5 := holds2 fun o o' => by_callM (T := TB8) (k0 := 28) hTB8 (by kernel_rfl)
def nc8_6 : Kn := ⟨34, [gd 8, .tup [.tup [.int 0, .int 1]]], 2, .val (.tup [.tup [.tup [.int 11]]])⟩
theorem hc8_6 : Holds tb 30 nc8_6 := holds2 fun o o' => by_callM (T := TB8) (k0 := 28) hTB8 (by kernel_rfl)
def nc8_7 : Kn := ⟨42, [gd 8, .int 0], 3, .val (.tup [.int 0])⟩
theorem hc8_7 : Holds tb 30 nc8_7 := holds3 fun o o' o'' => by_callM (T := TB8) (k0 := 28) hTB8 (by kernel_rfl)
def nc8_8 : Kn := ⟨29, [.tup [.tup [.int 1, .int 2], .tup [.int 1, .int 2]], .tup [.int 0, .int 1]], 1, .val (.tup [.tup [.int 1, .int 2], .tup [.int 1, .int 2]])⟩
theorem hc8_8 : Holds tb 30 nc8_8 := holds1 fun o => by kernel_rfl
def nc8_9 : Kn := ⟨35, [.tup [.tup [.int 1, .int 2], .tup [.int 1, .int 2]], .tup [.tup [.int 0, .int 1]]], 1, .val (.tup [.tup [.int 1, .int 2]])⟩
theorem hc8_9 : Holds tb 30 nc8_9 := holds1 fun o => by kernel_rfl
def nc8_10 : Kn := ⟨36, [.tup [.tup [.int 1, .int 2], .tup [.int 1, .int 2]], .tup [.tup [.int 0, .int 1]]], 1, .err 50 []⟩
theorem hc8_10 : Holds tb 30 nc8_10 := holds1 fun o => by kernel_rfl
def TC8 : List Kn := [nc8_0, nc8_1, nc8_2, nc8_3, nc8_4, nc8_5, nc8_6, nc8_7, nc8_8, nc8_9, nc8_10]
theorem hTC8 : ∀ e ∈ TC8, Holds tb 30 e := holds_cons hc8_0 (holds_cons hc8_1 (holds_cons hc8_2 (holds_cons hc8_3 (holds_cons hc8_4 (holds_cons hc8_5 (holds_cons hc8_6 (holds_cons hc8_7 (holds_cons hc8_8 (holds_cons hc8_9 (holds_cons hc8_10 (holds_nil)))))))))))
section
variable {ns : List Int} {a b : Nat}
theorem law2_8 : evS (callN tb 40) 0 lawS2 (envL ns (some (.p (.int (1 + ((8 : Nat) : Int))))) none none none none none none none) (cupSt a b) = .ok (.next (envG ns 8 none)) (cupSt a b) := by kernel_rfl
theorem law3_8 : evS (callN tb 40) 0 lawS3 (envG ns 8 none) (cupSt a b) = .ok (.next (envG ns 8 none)) (cupSt a b) := by_callS hTC8 (by kernel_rfl)
theorem law4_8 : evS (callN tb 40) 0 lawS4 (envG ns 8 none) (cupSt a b) = .ok (.next (envG ns 8 (some (.p (.int 5))))) (cupSt a b) := by_callS hTC8 (by kernel_rfl)
theorem law5_8 : evS (callN tb 40) 0 lawS5 (envG ns 8 (some (.p (.int 5)))) (cupSt a b) = .ok (.next (envG ns 8 (some (.p (.int 5))))) (cupSt a b) := by_callS hTC8 (by kernel_rfl)
theorem law6_8 : evS (callN tb 40) 0 lawS6 (envG ns 8 (some (.p (.int 5)))) (cupSt a b) = .ok (.next (envG ns 8 (some (.p (.int 5))))) (cupSt a b) := by_callS hTC8 (by kernel_rfl)
theorem law7_8 : evS (callN tb 40) 0 lawS7 (envG ns 8 (some (.p (.int 5)))) (cupSt a b) = .ok (.next (envG ns 8 (some (.p (.int 5))))) (cupSt a b) := by_callS hTC8 (by kernel_rfl)
theorem law8_8 : evS (callN tb 40) 0 lawS8 (envG ns 8 (some (.p (.int 5)))) (cupSt a b) = .ok (.next (envG ns 8 (some (.p (.tup [.lst [.int 0]]))))) (cupSt a b) := by_callS hTC8 (by kernel_rfl)
theorem law9_8 : evS (callN tb 40) 0 lawS9 (envG ns 8 (some (.p (.tup [.lst [.int 0]])))) (cupSt a b) = .ok (.next (envG ns 8 (some (.p (.str (PySem.Str.ofString "0")))))) (cupSt a b) := by_callS hTC8 (by kernel_rfl)
theorem law10_8 : evS (callN tb 40) 0 lawS10 (envG ns 8 (some (.p (.str (PySem.Str.ofString "0"))))) (cupSt a b) = .ok (.next (envG ns 8 (some (.p (.int 5))))) (cupSt a b) := by_callS hTC8 (by kernel_rfl)
theorem law17_8 : evS (callN tb 40) 0 lawS17 (envL ns (some (.p (.int (1 + ((8 : Nat) : Int))))) (some (.p (.int 5))) (some (.p (.tup [.tup [.tup [.int 1, .int 1, .int 0], .tup [.int 0, .int 1, .int 0], .tup [.int 0, .int 0, .int 1]]]))) (some (.obj 3)) (some (.p (gd 8))) (some (.p nmP)) none none) (cupSt a b ++ [.lst [.str (PySem.Str.ofString "member"), .str (PySem.Str.ofString "numbers")], .lst [.str (PySem.Str.ofString "member"), .str (PySem.Str.ofString "numbers"), .str (PySem.Str.ofString "numbers"), .str (PySem.Str.ofString "")], .lst [.str (PySem.Str.ofString "member"), .str (PySem.Str.ofString "numbers"), .str (PySem.Str.ofString "numbers"), .str (PySem.Str.ofString ""), .str (PySem.Str.ofString ""), .str (PySem.Str.ofString "many 100")]]) = .ok (.ret (.p (.bl true))) (cupSt a b ++ [.lst [.str (PySem.Str.ofString "member"), .str (PySem.Str.ofString "numbers")], .lst [.str (PySem.Str.ofString "member"), .str (PySem.Str.ofString "numbers"), .str (PySem.Str.ofString "numbers"), .str (PySem.Str.ofString "")], .lst [.str (PySem.Str.ofString "member"), .str (PySem.Str.ofString "numbers"), .str (PySem.Str.ofString "numbers"), .str (PySem.Str.ofString ""), .str (PySem.Str.ofString ""), .str (PySem.Str.ofString "many 100")]]) := by kernel_rfl
end
end Ev.Pl

set_option Elab.async false
set_option linter.all false
set_option maxRecDepth 100000
set_option maxHeartbeats 0
namespace Ev.Pl
open PySem
def restB : Ss := .cons lawS2 (.cons lawS3 (.cons lawS4 (.cons lawS5 (.cons lawS6 (.cons lawS7 (.cons lawS8 (.cons lawS9 (.cons lawS10 (.cons lawS11 (.cons lawS12 (.cons lawS13 (.cons lawS14 (.cons lawS15 (.cons lawS16 (.cons lawS17 (.nil))))))))))))))))
section
variable {ns : List Int} {a b : Nat}
theorem rest_0 : evSs (callN tb 40) 0 restB (envL ns (some (.p (.int (1 + ((0 : Nat) : Int))))) none none none none none none none) (cupSt a b) = .ok (.ret (.p (.bl true))) (cupSt a b ++ [.lst [.str (PySem.Str.ofString "member"), .str (PySem.Str.ofString "numbers")], .lst [.str (PySem.Str.ofString "member"), .str (PySem.Str.ofString "numbers"), .str (PySem.Str.ofString "numbers"), .str (PySem.Str.ofString "")], .lst [.str (PySem.Str.ofString "member"), .str (PySem.Str.ofString "numbers"), .str (PySem.Str.ofString "numbers"), .str (PySem.Str.ofString ""), .str (PySem.Str.ofString ""), .str (PySem.Str.ofString "many 100")]]) := st_step law2_0 (st_step law3_0 (st_step law4_0 (st_step law5_0 (st_step law6_0 (st_step law7_0 (st_step law8_0 (st_step law9_0 (st_step law10_0 (st_step law11 (st_step law12 (st_step law13 (st_step law14 (st_step law15 (st_step law16 (st_last law17_0)))))))))))))))
theorem rest_1 : evSs (callN tb 40) 0 restB (envL ns (some (.p (.int (1 + ((1 : Nat) : Int))))) none none none none none none none) (cupSt a b) = .ok (.ret (.p (.bl true))) (cupSt a b ++ [.lst [.str (PySem.Str.ofString "member"), .str (PySem.Str.ofString "numbers")], .lst [.str (PySem.Str.ofString "member"), .str (PySem.Str.ofString "numbers"), .str (PySem.Str.ofString "numbers"), .str (PySem.Str.ofString "")], .lst [.str (PySem.Str.ofString "member"), .str (PySem.Str.ofString "numbers"), .str (PySem.Str.ofString "numbers"), .str (PySem.Str.ofString ""), .str (PySem.Str.ofString ""), .str (PySem.Str.ofString "many 100")]]) := st_step law2_1 (st_step law3_1 (st_step law4_1 (st_step law5_1 (st_step law6_1 (st_step law7_1 (st_step law8_1 (st_step law9_1 (st_step law10_1 (st_step law11 (st_step law12 (st_step law13 (st_step law14 (st_step law15 (st_step law16 (st_last law17_1)))))))))))))))
theorem rest_2 : evSs (callN tb 40) 0 restB (envL ns (some (.p (.int (1 + ((2 : Nat) : Int))))) none none none none none none none) (cupSt a b) = .ok (.ret (.p (.bl true))) (cupSt a b ++ [.lst [.str (PySem.Str.ofString "member"), .str (PySem.Str.ofString "numbers")], .lst [.str (PySem.Str.ofString "member"), .str (PySem.Str.ofString "numbers"), .str (PySem.Str.ofString "numbers"), .str (PySem.Str.ofString "")], .lst [.str (PySem.Str.ofString "member"), .str (PySem.Str.ofString "numbers"), .str (PySem.Str.ofString "numbers"), .str (PySem.Str.ofString ""), .str (PySem.Str.ofString ""), .str (PySem.Str.ofString "many 100")]]) := st_step law2_2 (st_step law3_2 (st_step law4_2 (st_step law5_2 (st_step law6_2 (st_step law7_2 (st_step law8_2 (st_step law9_2 (st_step law10_2 (st_step law11 (st_step law12 (st_step law13 (st_step law14 (st_step law15 (st_step law16 (st_last law17_2)))))))))))))))
theorem rest_3 : evSs (callN tb 40) 0 restB (envL ns (some (.p (.int (1 + ((3 : Nat) : Int))))) none none none none none none none) (cupSt a b) = .ok (.ret (.p (.bl true))) (cupSt a b ++ [.lst [.str (PySem.Str.ofString "member"), .str (PySem.Str.ofString "numbers")], .lst [.str (PySem.Str.ofString "member"), .str (PySem.Str.ofString "numbers"), .str (PySem.Str.ofString "numbers"), .str (PySem.Str.ofString "")], .lst [.str (PySem.Str.ofString "member"), .str (PySem.Str.ofString "numbers"), .str (PySem.Str.ofString "numbers"), .str (PySem.Str.ofString ""), .str (PySem.Str.ofString ""), .str (PySem.Str.ofString "many 100")]]) := st_step law2_3 (st_step law3_3 (st_step law4_3 (st_step law5_3 (st_step law6_3 (st_step law7_3 (st_step law8_3 (st_step law9_3 (st_step law10_3 (st_step law11 (st_step law12 (st_step law13 (st_step law14 (st_step law15 (st_step law16 (st_last law17_3)))))))))))))))
theorem rest_4 : evSs (callN tb 40) 0 restB (envL ns (some (.p (.int (1 + ((4 : Nat) : Int))))) none none none none none none none) (cupSt a b) = .ok (.ret (.p (.bl true))) (cupSt a b ++ [.lst [.str (PySem.Str.ofString "member"), .str (PySem.Str.ofString "numbers")], .lst [.str (PySem.Str.ofString "member"), .str (PySem.Str.ofString "numbers"), .str (PySem.Str.ofString "numbers"), .str (PySem.Str.ofString "")], .lst [.str (PySem.Str.ofString "member"), .str (PySem.Str.ofString "numbers"), .str (PySem.Str.ofString "numbers"), .str (PySem.Str.ofString ""), .str (PySem.Str.ofString ""), .str (PySem.Str.ofString "many 100")]]) := st_step law2_4 (st_step law3_4 (st_step law4_4 (st_step law5_4 (st_step law6_4 (st_step law7_4 (st_step law8_4 (st_step law9_4 (st_step law10_4 (st_step law11 (st_step law12 (st_step law13 (st_step law14 (st_step law15 (st_step law16 (st_last law17_4)))))))))))))))
theorem rest_5 : evSs (callN tb 40) 0 restB (envL ns (some (.p (.int (1 + ((5 : Nat) : Int))))) none none none none none none none) (cupSt a b) = .ok (.ret (.p (.bl true))) (cupSt a b ++ [.lst [.str (PySem.Str.ofString "member"), .str (PySem.Str.ofString "numbers")], .lst [.str (PySem.Str.ofString "member"), .str (PySem.Str.ofString "numbers"), .str (PySem.Str.ofString "numbers"), .str (PySem.Str.ofString "")], .lst [.str (PySem.Str.ofString "member"), .str (PySem.Str.ofString "numbers"), .str (PySem.Str.ofString "numbers"), .str (PySem.Str.ofString ""), .str (PySem.Str.ofString ""), .str (PySem.Str.ofString "many 100")]]) := st_step law2_5 (st_step law3_5 (st_step law4_5 (st_step law5_5 (st_step law6_5 (st_step law7_5 (st_step law8_5 (st_step law9_5 (st_step law10_5 (st_step law11 (st_step law12 (st_step law13 (st_step law14 (st_step law15 (st_step law16 (st_last law17_5)))))))))))))))
theorem rest_6 : evSs (callN tb 40) 0 restB (envL ns (some (.p (.int (1 + ((6 : Nat) : Int))))) none none none none none none none) (cupSt a b) = .ok (.ret (.p (.bl true))) (cupSt a b ++ [.lst [.str (PySem.Str.ofString "member"), .str (PySem.Str.ofString "numbers")], .lst [.str (PySem.Str.ofString "member"), .str (PySem.Str.ofString "numbers"), .str (PySem.Str.ofString "numbers"), .str (PySem.Str.ofString "")], .lst [.str (PySem.Str.ofString "member"), .str (PySem.Str.ofString "numbers"), .str (PySem.Str.ofString "numbers"), .str (PySem.Str.ofString ""), .str (PySem.Str.ofString ""), .str (PySem.Str.ofString "many 100")]]) := st_step law2_6 (st_step law3_6 (st_step law4_6 (st_step law5_6 (st_step law6_6 (st_step law7_6 (st_step law8_6 (st_step law9_6 (st_step law10_6 (st_step law11 (st_step law12 (st_step law13 (st_step law14 (st_step law15 (st_step law16 (st_last law17_6)))))))))))))))
theorem rest_7 : evSs (callN tb 40) 0 restB (envL ns (some (.p (.int (1 + ((7 : Nat) : Int))))) none none none none none none none) (cupSt a b) = .ok (.ret (.p (.bl true))) (cupSt a b ++ [.lst [.str (PySem.Str.ofString "member"), .str (PySem.Str.ofString "numbers")], .lst [.str (PySem.Str.ofString "member"), .str (PySem.Str.ofString "numbers"), .str (PySem.Str.ofString "numbers"), .str (PySem.Str.ofString "")], .lst [.str (PySem.Str.ofString "member"), .str (PySem.Str.ofString "numbers"), .str (PySem.Str.ofString "numbers"), .str (PySem.Str.ofString ""), .str (PySem.Str.ofString ""), .str (PySem.Str.ofString "many 100")]]) := st_step law2_7 (st_step law3_7 (st_step law4_7 (st_step law5_7 (st_step law6_7 (st_step law7_7 (st_step law8_7 (st_step law9_7 (st_step law10_7 (st_step law11 (st_step law12 (st_step law13 (st_step law14 (st_step law15 (st_step law16 (st_last law17_7)))))))))))))))
theorem rest_8 : evSs (callN tb 40) 0 restB (envL ns (some (.p (.int (1 + ((8 : Nat) : Int))))) none none none none none none none) (cupSt a b) = .ok (.ret (.p (.bl true))) (cupSt a b ++ [.lst [.str (PySem.Str.ofString "member"), .str (PySem.Str.ofString "numbers")], .lst [.str (PySem.Str.ofString "member"), .str (PySem.Str.ofString "numbers"), .str (PySem.Str.ofString "numbers"), .str (PySem.Str.ofString "")], .lst [.str (PySem.Str.ofString "member"), .str (PySem.Str.ofString "numbers"), .str (PySem.Str.ofString "numbers"), .str (PySem.Str.ofString ""), .str (PySem.Str.ofString ""), .str (PySem.Str.ofString "many 100")]]) := st_step law2_8 (st_step law3_8 (st_step law4_8 (st_step law5_8 (st_step law6_8 (st_step law7_8 (st_step law8_8 (st_step law9_8 (st_step law10_8 (st_step law11 (st_step law12 (st_step law13 (st_step law14 (st_step law15 (st_step law16 (st_last law17_8)))))))))))))))
theorem rest_ok {x : Nat} (h : x < 9) : ∃ s', evSs (callN tb 40) 0 restB (envL ns (some (.p (.int (1 + (x : Int))))) none none none none none none none) (cupSt a b) = .ok (.ret (.p (.bl true))) s' := by
  have z : x = 0 ∨ x = 1 ∨ x = 2 ∨ x = 3 ∨ x = 4 ∨ x = 5 ∨ x = 6 ∨ x = 7 ∨ x = 8 := by omega
  rcases z with rfl | rfl | rfl | rfl | rfl | rfl | rfl | rfl | rfl
  · exact ⟨_, rest_0⟩
  · exact ⟨_, rest_1⟩
  · exact ⟨_, rest_2⟩
  · exact ⟨_, rest_3⟩
  · exact ⟨_, rest_4⟩
  · exact ⟨_, rest_5⟩
  · exact ⟨_, rest_6⟩
  · exact ⟨_, rest_7⟩
  · exact ⟨_, rest_8⟩
end
theorem law_ok {ns : List Int} (hn : ns.length ≤ 63) : ∃ st, callN tb 41 47 [.p (.lst (ns.map P.int))] [] = .ok (.p (.bl true)) st := by
  obtain ⟨a, b, e1⟩ := cup_ok (k := 39) hn
  obtain ⟨x, a', b', hx, e2⟩ := roll_ok (k := 39) (m := 9) (a := a) (b := b) (by decide) (by decide)
  obtain ⟨s', e3⟩ := rest_ok (ns := ns) (a := a') (b := b') hx
  refine ⟨[], ?_⟩
  rw [callN_at (f := t_law) rfl rfl]
  have z : evSs (callN tb 40) ([] : St).length t_law.body (enter t_law [.p (.lst (ns.map P.int))]) [] = .ok (.ret (.p (.bl true))) s' :=
    st_asg (ev_call (ev_cons (ev_var rfl) ev_nil) e1) (by show 1 < 10; decide) (st_asg (ev_bin ev_lit (ev_call (ev_cons (ev_var rfl) (ev_cons ev_lit ev_nil)) e2) rfl) (by show 2 < 10; decide) e3)
  rw [z]; rfl
end Ev.Pl

set_option Elab.async false
set_option linter.all false
set_option maxRecDepth 100000
set_option maxHeartbeats 0
namespace Ev
open PySem PySem.Spec PyProof.Rows
abbrev TheRow : PySem.W.OpenRow := PySem.W.OpenLaw.row PySem.Challenge.rw_setbyothers_k94_whole_errors_of_joined_b
def tabs : Tab := {
  dn := [(PySem.Str.ofString "is_whole"), (PySem.Str.ofString "is_tuple_of"), (PySem.Str.ofString "is_rising"), (PySem.Str.ofString "fits_meeting"), (PySem.Str.ofString "fits_book"), (PySem.Str.ofString "need_book"), (PySem.Str.ofString "fits_lot"), (PySem.Str.ofString "need_member"), (PySem.Str.ofString "divisor_of"), (PySem.Str.ofString "lowest"), (PySem.Str.ofString "fits_fraction"), (PySem.Str.ofString "table_in"), (PySem.Str.ofString "fits_numbers"), (PySem.Str.ofString "need_numbers"), (PySem.Str.ofString "need_row"), (PySem.Str.ofString "fits_order"), (PySem.Str.ofString "need_order"), (PySem.Str.ofString "renamed"), (PySem.Str.ofString "fits_lumps"), (PySem.Str.ofString "need_lumps"), (PySem.Str.ofString "part_for"), (PySem.Str.ofString "is_lumped"), (PySem.Str.ofString "_law_cup"), (PySem.Str.ofString "_law_roll"), (PySem.Str.ofString "lumped"), (PySem.Str.ofString "partitions_of"), (PySem.Str.ofString "orders_of"), (PySem.Str.ofString "is_same_under"), (PySem.Str.ofString "renamed_book"), (PySem.Str.ofString "renamed_numbers"), (PySem.Str.ofString "order_back"), (PySem.Str.ofString "side_by_side"), (PySem.Str.ofString "joined_books"), (PySem.Str.ofString "can_lump"), (PySem.Str.ofString "lumped_book"), (PySem.Str.ofString "lumped_numbers"), (PySem.Str.ofString "spread_numbers"), (PySem.Str.ofString "are_lots"), (PySem.Str.ofString "lumps_of"), (PySem.Str.ofString "alike_members"), (PySem.Str.ofString "same_orders"), (PySem.Str.ofString "is_same_order"), (PySem.Str.ofString "exchanged_with"), (PySem.Str.ofString "order_between"), (PySem.Str.ofString "_law_book_words"), (PySem.Str.ofString "_law_two_words"), (PySem.Str.ofString "_law_number_words"), (PySem.Str.ofString "law")]
  xn := [(PySem.Str.ofString "InvalidMeeting"), (PySem.Str.ofString "InvalidMember"), (PySem.Str.ofString "InvalidNumbers")]
  gcs := [((PySem.Str.ofString "MEMBERS"), .int 6), ((PySem.Str.ofString "WEIGHT"), .int 99), ((PySem.Str.ofString "MEETINGS"), .int 6), ((PySem.Str.ofString "BOUND"), .int 1000000), ((PySem.Str.ofString "LUMPS"), .int 100)]
  tb := tb
  ns := [[(PySem.Str.ofString "value"), (PySem.Str.ofString "low"), (PySem.Str.ofString "high")],
    [(PySem.Str.ofString "value"), (PySem.Str.ofString "low"), (PySem.Str.ofString "high")],
    [(PySem.Str.ofString "values"), (PySem.Str.ofString "one"), (PySem.Str.ofString "other")],
    [(PySem.Str.ofString "value"), (PySem.Str.ofString "many"), (PySem.Str.ofString "row"), (PySem.Str.ofString "own")],
    [(PySem.Str.ofString "value"), (PySem.Str.ofString "own")],
    [(PySem.Str.ofString "book")],
    [(PySem.Str.ofString "many"), (PySem.Str.ofString "value"), (PySem.Str.ofString "own")],
    [(PySem.Str.ofString "many"), (PySem.Str.ofString "member")],
    [(PySem.Str.ofString "one"), (PySem.Str.ofString "other")],
    [(PySem.Str.ofString "over"), (PySem.Str.ofString "under"), (PySem.Str.ofString "by")],
    [(PySem.Str.ofString "value")],
    [(PySem.Str.ofString "meeting"), (PySem.Str.ofString "row"), (PySem.Str.ofString "own")],
    [(PySem.Str.ofString "many"), (PySem.Str.ofString "value"), (PySem.Str.ofString "own")],
    [(PySem.Str.ofString "many"), (PySem.Str.ofString "numbers")],
    [(PySem.Str.ofString "numbers"), (PySem.Str.ofString "own")],
    [(PySem.Str.ofString "many"), (PySem.Str.ofString "value"), (PySem.Str.ofString "own")],
    [(PySem.Str.ofString "many"), (PySem.Str.ofString "order")],
    [(PySem.Str.ofString "meeting"), (PySem.Str.ofString "order"), (PySem.Str.ofString "own"), (PySem.Str.ofString "at")],
    [(PySem.Str.ofString "many"), (PySem.Str.ofString "value"), (PySem.Str.ofString "own"), (PySem.Str.ofString "at")],
    [(PySem.Str.ofString "book"), (PySem.Str.ofString "lumps")],
    [(PySem.Str.ofString "row"), (PySem.Str.ofString "lump"), (PySem.Str.ofString "at")],
    [(PySem.Str.ofString "meeting"), (PySem.Str.ofString "lumps"), (PySem.Str.ofString "lump"), (PySem.Str.ofString "other"), (PySem.Str.ofString "parts"), (PySem.Str.ofString "own")],
    [(PySem.Str.ofString "script"), (PySem.Str.ofString "cell")],
    [(PySem.Str.ofString "cup"), (PySem.Str.ofString "many"), (PySem.Str.ofString "deep"), (PySem.Str.ofString "found")],
    [(PySem.Str.ofString "meeting"), (PySem.Str.ofString "lumps"), (PySem.Str.ofString "lump"), (PySem.Str.ofString "other"), (PySem.Str.ofString "at")],
    [(PySem.Str.ofString "many"), (PySem.Str.ofString "rows"), (PySem.Str.ofString "own"), (PySem.Str.ofString "later"), (PySem.Str.ofString "row"), (PySem.Str.ofString "at"), (PySem.Str.ofString "lump")],
    [(PySem.Str.ofString "many"), (PySem.Str.ofString "rows"), (PySem.Str.ofString "turn"), (PySem.Str.ofString "row"), (PySem.Str.ofString "own")],
    [(PySem.Str.ofString "book"), (PySem.Str.ofString "order"), (PySem.Str.ofString "meeting")],
    [(PySem.Str.ofString "book"), (PySem.Str.ofString "order"), (PySem.Str.ofString "meeting")],
    [(PySem.Str.ofString "numbers"), (PySem.Str.ofString "order"), (PySem.Str.ofString "own")],
    [(PySem.Str.ofString "order"), (PySem.Str.ofString "own")],
    [(PySem.Str.ofString "one"), (PySem.Str.ofString "other"), (PySem.Str.ofString "rows"), (PySem.Str.ofString "left"), (PySem.Str.ofString "right"), (PySem.Str.ofString "mine"), (PySem.Str.ofString "yours"), (PySem.Str.ofString "row")],
    [(PySem.Str.ofString "one"), (PySem.Str.ofString "other")],
    [(PySem.Str.ofString "book"), (PySem.Str.ofString "lumps"), (PySem.Str.ofString "meeting")],
    [(PySem.Str.ofString "book"), (PySem.Str.ofString "lumps"), (PySem.Str.ofString "found"), (PySem.Str.ofString "meeting")],
    [(PySem.Str.ofString "numbers"), (PySem.Str.ofString "lumps"), (PySem.Str.ofString "lump"), (PySem.Str.ofString "at")],
    [(PySem.Str.ofString "numbers"), (PySem.Str.ofString "lumps"), (PySem.Str.ofString "many"), (PySem.Str.ofString "own"), (PySem.Str.ofString "at"), (PySem.Str.ofString "lump")],
    [(PySem.Str.ofString "value"), (PySem.Str.ofString "own")],
    [(PySem.Str.ofString "book"), (PySem.Str.ofString "rows"), (PySem.Str.ofString "found"), (PySem.Str.ofString "lumps"), (PySem.Str.ofString "meeting")],
    [(PySem.Str.ofString "book"), (PySem.Str.ofString "tables"), (PySem.Str.ofString "rows"), (PySem.Str.ofString "pairs"), (PySem.Str.ofString "meeting"), (PySem.Str.ofString "one"), (PySem.Str.ofString "other"), (PySem.Str.ofString "pair"), (PySem.Str.ofString "table")],
    [(PySem.Str.ofString "book"), (PySem.Str.ofString "order")],
    [(PySem.Str.ofString "book"), (PySem.Str.ofString "value")],
    [(PySem.Str.ofString "book"), (PySem.Str.ofString "member"), (PySem.Str.ofString "good"), (PySem.Str.ofString "order")],
    [(PySem.Str.ofString "one"), (PySem.Str.ofString "other"), (PySem.Str.ofString "tables"), (PySem.Str.ofString "order"), (PySem.Str.ofString "meeting"), (PySem.Str.ofString "table")],
    [(PySem.Str.ofString "book"), (PySem.Str.ofString "order"), (PySem.Str.ofString "lumps"), (PySem.Str.ofString "member"), (PySem.Str.ofString "words"), (PySem.Str.ofString "call")],
    [(PySem.Str.ofString "one"), (PySem.Str.ofString "other"), (PySem.Str.ofString "call")],
    [(PySem.Str.ofString "numbers"), (PySem.Str.ofString "order"), (PySem.Str.ofString "lumps"), (PySem.Str.ofString "words"), (PySem.Str.ofString "call")],
    [(PySem.Str.ofString "script"), (PySem.Str.ofString "cup"), (PySem.Str.ofString "low"), (PySem.Str.ofString "odd"), (PySem.Str.ofString "tells"), (PySem.Str.ofString "words"), (PySem.Str.ofString "good"), (PySem.Str.ofString "numbers"), (PySem.Str.ofString "own"), (PySem.Str.ofString "row")]]
  lams := [(PySem.Str.ofString "_law_book_words"), (PySem.Str.ofString "_law_two_words"), (PySem.Str.ofString "_law_number_words"), (PySem.Str.ofString "law")]
  cts := [((PySem.Str.ofString "_law_word"), .str (PySem.Str.ofString ""), [(48, .txt (.str (PySem.Str.ofString "meeting"))), (49, .txt (.str (PySem.Str.ofString "member"))), (50, .txt (.str (PySem.Str.ofString "numbers"))), (51, .pre (PySem.Str.ofString "many "))])]
  xi := [(PySem.Str.ofString "TooMany")]
  file := TheRow.prog.main.file }
def loose : List PySem.Str := [(PySem.Str.ofString "SetError"), (PySem.Str.ofString "InvalidMeeting"), (PySem.Str.ofString "InvalidMember"), (PySem.Str.ofString "InvalidNumbers"), (PySem.Str.ofString "TooMany"), (PySem.Str.ofString "MEMBERS"), (PySem.Str.ofString "WEIGHT"), (PySem.Str.ofString "MEETINGS"), (PySem.Str.ofString "is_whole"), (PySem.Str.ofString "is_tuple_of"), (PySem.Str.ofString "is_rising"), (PySem.Str.ofString "fits_meeting"), (PySem.Str.ofString "fits_book"), (PySem.Str.ofString "need_book"), (PySem.Str.ofString "fits_lot"), (PySem.Str.ofString "need_member"), (PySem.Str.ofString "BOUND"), (PySem.Str.ofString "divisor_of"), (PySem.Str.ofString "lowest"), (PySem.Str.ofString "fits_fraction"), (PySem.Str.ofString "table_in"), (PySem.Str.ofString "fits_numbers"), (PySem.Str.ofString "need_numbers"), (PySem.Str.ofString "need_row"), (PySem.Str.ofString "LUMPS"), (PySem.Str.ofString "fits_order"), (PySem.Str.ofString "need_order"), (PySem.Str.ofString "renamed"), (PySem.Str.ofString "fits_lumps"), (PySem.Str.ofString "need_lumps"), (PySem.Str.ofString "part_for"), (PySem.Str.ofString "is_lumped"), (PySem.Str.ofString "lumped"), (PySem.Str.ofString "partitions_of"), (PySem.Str.ofString "orders_of"), (PySem.Str.ofString "is_same_under"), (PySem.Str.ofString "renamed_book"), (PySem.Str.ofString "renamed_numbers"), (PySem.Str.ofString "order_back"), (PySem.Str.ofString "side_by_side"), (PySem.Str.ofString "joined_books"), (PySem.Str.ofString "can_lump"), (PySem.Str.ofString "lumped_book"), (PySem.Str.ofString "lumped_numbers"), (PySem.Str.ofString "spread_numbers"), (PySem.Str.ofString "are_lots"), (PySem.Str.ofString "lumps_of"), (PySem.Str.ofString "alike_members"), (PySem.Str.ofString "same_orders"), (PySem.Str.ofString "is_same_order"), (PySem.Str.ofString "exchanged_with"), (PySem.Str.ofString "order_between"), (PySem.Str.ofString "_law_cup"), (PySem.Str.ofString "_law_roll"), (PySem.Str.ofString "_law_word")]
theorem run (w : World) : HandSHeadRun.RunEq TheRow (PySem.W.view TheRow.prog [61, 62, 63, 64]) (look tabs) (fun s => lookB tabs (HandSHeadRun.getT s)) 6000 loose w := by
  intro os
  kernel_rfl
end Ev

set_option Elab.async false
set_option linter.all false
open PySem PySem.W PySem.Calls PyProof.Rows
set_option maxRecDepth 100000 in
set_option maxHeartbeats 0 in
theorem PySem.Challenge.cw_setbyothers_k94_whole_errors_of_joined_b_holds : PySem.Challenge.rw_setbyothers_k94_whole_errors_of_joined_b.Holds := by
  w_on; o_law
  refine HandSHeadRun.head_any (r := Ev.TheRow) (q := view Ev.TheRow.prog [61, 62, 63, 64]) (H := Ev.look Ev.tabs) (ob := fun s => Ev.lookB Ev.tabs (HandSHeadRun.getT s)) (M := 6000) (loose := Ev.loose) (d := HandSHeadRun.topDef Ev.TheRow.prog 64) (kwd := []) Ev.look_eq
    (by kernel_rfl) (fun s => by kernel_rfl) Ev.run (by kernel_rfl) (by kernel_rfl) (by kernel_rfl) (by rfl) (by first | assumption | decide +kernel) (by decide +kernel) ⟨rfl, rfl, rfl, rfl, rfl, by decide +kernel⟩ ?hw ?hc
  case hw => w_witness2
  case hc =>
    exact Ev.walk_by (l := PySem.Challenge.rw_setbyothers_k94_whole_errors_of_joined_b) Ev.tabs 40 47 rfl (by kernel_rfl) (by kernel_rfl) (by kernel_rfl) ⟨Ev.t_law, rfl, rfl⟩ ⟨rfl, by decide, by decide⟩ (by kernel_rfl) fun ns hn => Ev.Pl.law_ok hn
