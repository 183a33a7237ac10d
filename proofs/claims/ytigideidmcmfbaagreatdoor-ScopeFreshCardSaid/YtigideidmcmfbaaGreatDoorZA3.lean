/- Part of the proof that the statement holds for every input that its row lets in: an own logic of abstract values over the given model, and laws of data and programs; no program is named in it. -/
import Derived.Test.YtigideidmcmfbaaGreatDoorZA2
import Derived.Lib.Bytealg
import Derived.Lib.ItoaNum
import Derived.KernelRfl
import Derived.Lib.ItoaLen
import Derived.Lib.AtoiAll
import Derived.Lib.ConvBytes
import Derived.Lib.LaidTab
import Derived.Sort.Grow
import Derived.Deep.Draws
set_option linter.unusedSimpArgs false
set_option linter.unusedVariables false
namespace Go.Aw
open Go
abbrev es : ByteArray := ⟨#[]⟩
def dsym (s : ByteArray) : D := .mk 2 0 s []
def dlist (l : List D) : D := .mk 3 0 es l
def dnone : D := .mk 0 0 es []

theorem enc_none : enc dnone = .agg [.int .i64 0, .int .i64 0, .str es, .slice []] := by simp [dnone, enc, encs]

/-- A byte as a number. -/
def isDigit (c : Int) : Bool := decide (48 ≤ c) && decide (c ≤ 57)
def isLower (c : Int) : Bool := decide (97 ≤ c) && decide (c ≤ 122)
def sCall : ByteArray := ⟨#[99, 97, 108, 108]⟩
def sLet : ByteArray := ⟨#[108, 101, 116]⟩
def sQuote : ByteArray := ⟨#[113, 117, 111, 116, 101]⟩
def sIf : ByteArray := ⟨#[105, 102]⟩

def D.head (d : D) : D := d.kids.headD dnone

def isCall (d : D) : Bool := d.kind == 3 && decide (d.head.text = sCall)

/-! ### looking for the first -/

def idxOf {α : Type} (p : α → Bool) (l : List α) : Int :=
 match l.findIdx? p with
 | some i => i
 | none => -1

/-- None of the first k. -/
def NotYet {α : Type} (p : α → Bool) (l : List α) (k : Nat) : Prop := ∀ (j : Nat) x, j < k → l[j]? = some x → p x = false

section
variable {α : Type} {p : α → Bool} {l : List α} {k : Nat} {x : α}
theorem NotYet.zero : NotYet p l 0 := fun j x h => by omega
theorem NotYet.succ (h : NotYet p l k) (hx : l[k]? = some x) (hp : p x = false) : NotYet p l (k + 1) := by
 intro j y hj hy
 by_cases e : j = k
 ·subst e; rw [hx] at hy; cases hy; exact hp
 ·exact h j y (by omega) hy
theorem NotYet.all (h : NotYet p l l.length) : ∀ x, x ∈ l → p x = false := by
 intro x hx
 obtain ⟨j, hj, rfl⟩ := List.getElem_of_mem hx
 exact h j _ hj (by simp)
theorem NotYet.any (h : NotYet p l l.length) : l.any p = false := by
 rw [List.any_eq_false]
 intro x hx; simp [h.all x hx]
theorem idxOf_found (h : NotYet p l k) (hx : l[k]? = some x) (hp : p x = true) : idxOf p l = k := by
 unfold idxOf
 have : l.findIdx? p = some k := by
  rw [List.findIdx?_eq_some_iff_getElem]
  obtain ⟨h1, h2⟩ := List.getElem?_eq_some_iff.1 hx
  refine ⟨h1, by rw [h2]; exact hp, fun j hj => ?_⟩
  have := h j l[j] hj (by simp)
  simp [this]
 rw [this]
theorem idxOf_none (h : NotYet p l l.length) : idxOf p l = -1 := by
 unfold idxOf
 have : l.findIdx? p = none := by
  rw [List.findIdx?_eq_none_iff]
  intro x hx; simp [h.all x hx]
 rw [this]
theorem idxOf_any (p : α → Bool) (l : List α) : decide (idxOf p l ≥ 0) = l.any p := by
 unfold idxOf
 cases h : l.findIdx? p with
 | none =>
  rw [List.findIdx?_eq_none_iff] at h
  have : l.any p = false := by rw [List.any_eq_false]; intro x hx; simp [h x hx]
  rw [this]; rfl
 | some i =>
  rw [List.findIdx?_eq_some_iff_getElem] at h
  obtain ⟨h1, h2, _⟩ := h
  have : l.any p = true := List.any_eq_true.2 ⟨_, List.getElem_mem h1, h2⟩
  rw [this]; simp
theorem any_found (hx : l[k]? = some x) (hp : p x = true) : l.any p = true := List.any_eq_true.2 ⟨x, List.mem_of_getElem? hx, hp⟩
end
/-! ### names -/
def bt (s : ByteArray) (i : Nat) : Int := byteAt s i
def atomS : ByteArray := ⟨#[43, 45, 42, 47, 60, 61, 62, 63, 33, 95, 46]⟩
/-- Of datum: with the library's IndexByte. -/
def isAtom (c : Int) : Bool := isLower c || (isDigit c || decide (0 ≤ Lib.indexByte [43, 45, 42, 47, 60, 61, 62, 63, 33, 95, 46] c.toNat.toUInt8))
/-- Of the specification. -/
def inAtoms (c : Int) : Bool := (List.range 11).any (fun k => c == byteAt atomS k)
def letter (c : Int) : Bool := inAtoms c || (isDigit c || isLower c)
def isSym (lt : Int → Bool) (s : ByteArray) : Bool :=
 !((s.size : Int) == 0 || decide ((40 : Int) < s.size) || isDigit (bt s 0) || (bt s 0 == 45 && decide ((1 : Int) < s.size) && isDigit (bt s 1))) && (List.range s.size).all (fun i => lt (bt s i))

/-! ### the laid tables -/
def bs (s : List UInt8) : ByteArray := ⟨s.toArray⟩
def resK : List PV := [.str ⟨#[113, 117, 111, 116, 101]⟩, .str ⟨#[105, 102]⟩, .str ⟨#[102, 110]⟩, .str ⟨#[108, 101, 116]⟩, .str ⟨#[114, 101, 99]⟩, .str ⟨#[115, 101, 113]⟩, .str ⟨#[117, 112]⟩, .str ⟨#[99, 97, 108, 108]⟩]
/-- Reserved: no name. -/
def isRes (t : ByteArray) : Bool := (kfind (.str t) resK).isSome
/-- A primitive's name and how many arguments it takes. -/
def primL : List (ByteArray × Int) := [(⟨#[43]⟩, 2), (⟨#[45]⟩, 2), (⟨#[42]⟩, 2), (⟨#[113, 117, 111, 116]⟩, 2), (⟨#[114, 101, 109]⟩, 2), (⟨#[60]⟩, 2), (⟨#[61]⟩, 2), (⟨#[99, 111, 110, 115]⟩, 2), (⟨#[102, 105, 114, 115, 116]⟩, 1), (⟨#[114, 101, 115, 116]⟩, 1), (⟨#[99, 111, 117, 110, 116]⟩, 1), (⟨#[108, 105, 115, 116, 63]⟩, 1), (⟨#[110, 117, 109, 63]⟩, 1), (⟨#[115, 121, 109, 63]⟩, 1), (⟨#[109, 97, 114, 107]⟩, 2), (⟨#[115, 116, 111, 112]⟩, 1)]
def arity (s : ByteArray) : Int × Bool :=
 match primL.find? fun p => decide (p.1 = s) with
 | some p => (p.2, true)
 | none => (0, false)

/-! ### formed data -/
mutual
def formed : D → Bool
 | .mk k n t l => if k == 1 then decide (t = es) && (l.length : Int) == 0 else if k == 2 then n == 0 && (l.length : Int) == 0 && isSym isAtom t else if k == 3 then n == 0 && decide (t = es) && formeds l else false
def formeds : List D → Bool
 | [] => true
 | d :: l => formed d && formeds l
end
theorem formeds_any : ∀ l : List D, formeds l = !l.any fun d => !formed d
 | [] => rfl
 | d :: l => by simp [formeds, formeds_any l]
theorem formed_eq (d : D) : formed d = if d.kind == 1 then decide (d.text = es) && (d.kids.length : Int) == 0 else if d.kind == 2 then d.num == 0 && (d.kids.length : Int) == 0 && isSym isAtom d.text else if d.kind == 3 then d.num == 0 && decide (d.text = es) && !d.kids.any (fun d => !formed d) else false := by
 cases d; simp only [formed, formeds_any, D.kind, D.num, D.text, D.kids]; rfl

/-- The elements of a list with a length, or at least that many; nil if it is none. -/
def kidsOf (d : D) (n : Int) (more : Bool) : Option (List D) := if (d.kind != 3 || decide ((d.kids.length : Int) < n) || (!more && decide (n < (d.kids.length : Int)))) = true then none else some d.kids
def isName (d : D) : Bool := d.kind == 2 && !isRes d.text
def isLabel (d : D) : Bool := if d.kind == 1 then decide (0 ≤ d.num) && decide (d.num ≤ 2147483647) else isName d

/-- The expressions in one, directly. -/
def parts (d : D) : List D :=
 if (d.kind != 3) = true then [] else if decide (d.head.text = sQuote) = true then [] else if decide (d.head.text = sLet) = true then d.kids.drop 2 else if decide (d.head.text = sCall) = true then d.kids.drop 2 else d.kids.drop 1

theorem bt_eq {s : ByteArray} {k : Nat} : byteAt s (k : Int) = bt s k := rfl
theorem bt0 {s : ByteArray} : byteAt s 0 = bt s 0 := rfl
theorem bt1 {s : ByteArray} : byteAt s 1 = bt s 1 := rfl
theorem all_of_notYet {f : Nat → Bool} {n : Nat} (h : NotYet (fun i => !f i) (List.range n) n) : (List.range n).all f = true := by
 rw [List.all_eq_true]
 intro i hi
 have := h i i (List.mem_range.1 hi) (by simp [List.mem_range.1 hi])
 simpa using this
theorem all_found {f : Nat → Bool} {n k : Nat} (hk : k < n) (h : f k = false) : (List.range n).all f = false := by
 rw [List.all_eq_false]
 exact ⟨k, List.mem_range.2 hk, by simp [h]⟩

/-! ### equality, and the definition with a label -/
mutual
def deq : D → D → Bool
 | .mk k n t l, .mk k' n' t' l' => k == k' && n == n' && decide (t = t') && deqs l l'
def deqs : List D → List D → Bool
 | [], [] => true
 | x :: l, y :: r => deq x y && deqs l r
 | _, _ => false
end
mutual
theorem deq_refl : ∀ a : D, deq a a = true
 | .mk k n t l => by simp [deq, deqs_refl l]
theorem deqs_refl : ∀ l : List D, deqs l l = true
 | [] => rfl
 | x :: l => by simp [deqs, deq_refl x, deqs_refl l]
end
mutual
theorem deq_of : ∀ {a b : D}, deq a b = true → a = b
 | .mk k n t l, .mk k' n' t' l', h => by
  simp only [deq, Bool.and_eq_true, beq_iff_eq, decide_eq_true_eq] at h
  obtain ⟨⟨⟨rfl, rfl⟩, rfl⟩, h⟩ := h
  rw [deqs_of h]
theorem deqs_of : ∀ {a b : List D}, deqs a b = true → a = b
 | [], [], _ => rfl
 | x :: a, y :: b, h => by
  simp only [deqs, Bool.and_eq_true] at h
  rw [deq_of h.1, deqs_of h.2]
 | [], _ :: _, h => by simp [deqs] at h
 | _ :: _, [], h => by simp [deqs] at h
end
theorem find_found {α : Type} {p : α → Bool} {l : List α} {k : Nat} {x : α} (h : NotYet p l k) (hx : l[k]? = some x) (hp : p x = true) : l.find? p = some x := by
 rw [List.find?_eq_some_iff_getElem]
 obtain ⟨h1, h2⟩ := List.getElem?_eq_some_iff.1 hx
 refine ⟨hp, k, h1, h2, fun j hj => ?_⟩
 have := h j l[j] hj (by simp)
 simp [this]
theorem find_none {α : Type} {p : α → Bool} {l : List α} (h : NotYet p l l.length) : l.find? p = none := by
 rw [List.find?_eq_none]
 intro x hx; simp [h.all x hx]
theorem idxOf_neg {α : Type} {p : α → Bool} {l : List α} (h : idxOf p l < 0) : l.find? p = none := by
 unfold idxOf at h
 split at h
 ·omega
 ·rename_i hn
  rw [List.findIdx?_eq_none_iff] at hn
  rw [List.find?_eq_none]
  intro x hx; simp [hn x hx]
/-- The definition with a label, and whether there is one. -/
def findD (l : List D) (f : D) : D × Bool :=
 match l.find? fun d => deq d.head f with
 | some d => (d, true)
 | none => (dnone, false)

def namesGo : List ByteArray → List D → Option (List ByteArray)
 | acc, [] => some acc
 | acc, x :: l => if (!isName x) = true then none else if (acc.any fun y => decide (x.text = y)) = true then none else namesGo (acc ++ [x.text]) l
/-- The texts of a list of different names. -/
def names (d : D) : Option (List ByteArray) := if (d.kind != 3) = true then none else namesGo [] d.kids
mutual
def eachF (st : Int → Nat → Int) : Int → Nat → D → Int
 | c, n, .mk _ _ _ l => eachFs st (st c n) (n + 1) l
def eachFs (st : Int → Nat → Int) : Int → Nat → List D → Int
 | c, _, [] => c
 | c, n, d :: l => eachFs st (eachF st c n d) n l
end
theorem eachF_eq {st : Int → Nat → Int} {c : Int} {n : Nat} {d : D} : eachF st c n d = eachFs st (st c n) (n + 1) d.kids := by cases d; rfl
theorem eachFs_snoc {st : Int → Nat → Int} : ∀ {c : Int} {n : Nat} {l : List D} {x : D}, eachFs st c n (l ++ [x]) = eachF st (eachFs st c n l) n x
 | c, n, [], x => rfl
 | c, n, y :: l, x => by simp only [List.cons_append, eachFs]; exact eachFs_snoc

/-- A counter in a shared box. -/
def setC (σ : Store) (o : Nat) (v : Int) : Store := { σ with objs := σ.objs.set o (.box [.pv (.int .i64 v)]) }
def EachR (o : Nat) (v : Int) (σ : Store) (r : AV) (σ' : Store) : Prop := r = .pv (.bool true) ∧ σ' = setC σ o v
section
variable {σ : Store} {o : Nat} {v c : Int}
theorem setC_cut : (setC σ o v).cut σ.objs.length σ.toks.length = setC σ o v := by simp [setC, Store.cut, List.take_of_length_le]
theorem setC_get (h : σ.objs[o]? = some (.box [.pv (.int .i64 c)])) : (setC σ o v).objs[o]? = some (.box [.pv (.int .i64 v)]) := by
 have := (List.getElem?_eq_some_iff.1 h).1
 simp [setC, this]
theorem setC_mem {ob : AObj} (h : ob ∈ (setC σ o v).objs) (a b d : Nat) : ob ∈ σ.objs ∨ ob.clo a b d = true := by
 rcases List.mem_or_eq_of_mem_set h with h | rfl
 ·exact .inl h
 ·exact .inr rfl
theorem PathAt.scr {x : AV} {n : Nat} (h : PathAt σ x n) : ∃ o cap, x = .scr o n cap := by
 rcases h with ⟨o, rfl, rfl⟩ | ⟨o, cap, rfl, _⟩
 ·exact ⟨o, 0, rfl⟩
 ·exact ⟨o, cap, rfl⟩
theorem PathAt.setC {x : AV} {n : Nat} (h : PathAt σ x n) (hc : σ.objs[o]? = some (.box [.pv (.int .i64 c)])) : PathAt (Aw.setC σ o v) x n := by
 rcases h with h | ⟨po, cap, rfl, h1, h2, h3⟩
 ·exact .inl h
 ·refine .inr ⟨po, cap, rfl, h1, h2, ?_⟩
  have hne : o ≠ po := by
   rintro rfl
   rw [h3] at hc
   simp only [Option.some.injEq, AObj.box.injEq] at hc
   cases cap with
   | zero => omega
   | succ k => simp [List.replicate_succ] at hc
  simp only [Aw.setC]
  rw [List.getElem?_set_ne hne]; exact h3
theorem path_get {objs' : List AObj} {ob : AObj} (h : objs' = σ.objs ∨ ∃ cap, objs' = σ.objs ++ [.box (List.replicate cap .junk)]) (hc : σ.objs[o]? = some ob) : objs'[o]? = some ob := by
 rcases h with rfl | ⟨cap, rfl⟩
 ·exact hc
 ·exact snoc_left hc
theorem setC_path {objs' : List AObj} {v' : Int} (ho : o < σ.objs.length) (h : objs' = (setC σ o v).objs ∨ ∃ cap, objs' = (setC σ o v).objs ++ [.box (List.replicate cap .junk)]) :
  (setC { setC σ o v with objs := objs' } o v').cut σ.objs.length σ.toks.length = setC σ o v' := by
 rcases h with rfl | ⟨cap, rfl⟩
 ·simp [setC, Store.cut, List.take_of_length_le]
 ·have hl : o < (σ.objs.set o (.box [.pv (.int .i64 v)])).length := by simpa using ho
  simp only [setC, Store.cut]
  rw [List.set_append_left _ _ hl]
  simp [List.take_append, List.take_of_length_le]
end
def stParts (c : Int) (_ : Nat) : Int := IntKind.i64.wrap (c + 1)
def stDeep (c : Int) (n : Nat) : Int := if IntKind.i64.wrap (n + 1) > c then IntKind.i64.wrap (n + 1) else c

mutual
def D.deep : D → Nat
 | .mk _ _ _ l => 1 + D.deeps l
def D.deeps : List D → Nat
 | [] => 0
 | d :: l => max d.deep (D.deeps l)
end
mutual
theorem D.deep_le_size : ∀ d : D, d.deep ≤ d.size
 | .mk _ _ _ l => by simp only [D.deep, D.size]; have := D.deeps_le_sizes l; omega
theorem D.deeps_le_sizes : ∀ l : List D, D.deeps l ≤ D.sizes l
 | [] => Nat.le_refl _
 | d :: l => by
  simp only [D.deeps, D.sizes]
  have h1 := D.deep_le_size d
  have h2 := D.deeps_le_sizes l
  omega
end
mutual
theorem eachF_parts : ∀ (d : D) (c n : Nat), c + d.size ≤ 2000000000 → eachF stParts c n d = ((c + d.size : Nat) : Int)
 | .mk _ _ _ l, c, n, h => by
  simp only [D.size] at h
  simp only [eachF, stParts, D.size]
  rw [wrap_nat (by omega), eachFs_parts l (c + 1) (n + 1) (by omega)]
  congr 1; omega
theorem eachFs_parts : ∀ (l : List D) (c n : Nat), c + D.sizes l ≤ 2000000000 → eachFs stParts c n l = ((c + D.sizes l : Nat) : Int)
 | [], c, n, h => by simp [eachFs, D.sizes]
 | d :: l, c, n, h => by
  simp only [D.sizes] at h
  simp only [eachFs, D.sizes]
  rw [eachF_parts d c n (by omega), eachFs_parts l (c + d.size) n (by omega)]
  congr 1; omega
end
mutual
theorem eachF_deep : ∀ (d : D) (m n : Nat), n + d.deep ≤ 2000000000 → eachF stDeep m n d = ((max m (n + d.deep) : Nat) : Int)
 | .mk _ _ _ l, m, n, h => by
  simp only [D.deep] at h
  simp only [eachF, stDeep, D.deep]
  rw [wrap_nat (by omega)]
  have e : (if ((n + 1 : Nat) : Int) > (m : Int) then ((n + 1 : Nat) : Int) else (m : Int)) = ((max m (n + 1) : Nat) : Int) := by
   split <;> omega
  rw [e, eachFs_deep l (max m (n + 1)) (n + 1) (by omega)]
  by_cases hl : l = []
  ·subst hl; simp only [if_true, D.deeps, Nat.add_zero]
  ·rw [if_neg hl]; omega
theorem eachFs_deep : ∀ (l : List D) (m n : Nat), n + D.deeps l ≤ 2000000000 → eachFs stDeep m n l = ((if l = [] then m else max m (n + D.deeps l) : Nat) : Int)
 | [], m, n, h => by simp [eachFs]
 | d :: l, m, n, h => by
  simp only [D.deeps] at h
  simp only [eachFs, D.deeps]
  rw [eachF_deep d m n (by omega), eachFs_deep l (max m (n + d.deep)) n (by omega)]
  congr 1
  simp only [reduceCtorEq, if_false]
  split
  ·subst_vars; simp only [D.deeps]; omega
  ·omega
end
theorem setC_new_cut {σ : Store} {v c : Int} : (setC { σ with objs := σ.objs ++ [.box [.pv (.int .i64 c)]] } σ.objs.length v).cut σ.objs.length σ.toks.length = σ := by
 simp [setC, Store.cut]
theorem setC_new_get {σ : Store} {v c : Int} : (setC { σ with objs := σ.objs ++ [.box [.pv (.int .i64 c)]] } σ.objs.length v).objs[σ.objs.length]? = some (.box [.pv (.int .i64 v)]) := setC_get (c := c) (by simp)
/-- What is wrong with a datum. -/
def dcheck (d : D) : Int := if (!formed d) = true then 4 else if decide ((100000 : Int) < d.size) = true then 3 else if decide ((1000 : Int) < d.deep) = true then 3 else 0
end Go.Aw

namespace Go.Aw
open Go
/-! ### maps by labels -/
def kq (a b : D) : Bool := a.num == b.num && decide (a.text = b.text)
def kget {α : Type} (ps : List (D × α)) (d : D) : Option α := (ps.find? fun p => kq d p.1).map (·.2)
def kset {α : Type} : List (D × α) → D → α → List (D × α)
 | [], d, v => [(d, v)]
 | p :: r, d, v => if kq d p.1 then (p.1, v) :: r else p :: kset r d v
section look
variable {α : Type} {ty : TyT} {s : St} {t kt et : TypeId} {ti te tk : TyI} {o : Nat} {ps : List (D × α)} {f : α → PV}
end look
/-! ### the checker -/
def kpar (ps : List (D × Int)) (d : D) : Int × Bool := match kget ps d with | some v => (v, true) | none => (0, false)

mutual
def cexpr (ps : List (D × Int)) : List ByteArray → D → Int
 | b, .mk k n t l =>
  if (k == 1) = true then 0 else
  if (k == 2 && !isName (.mk k n t l)) = true then 4 else
  if (k == 2 && !(b.any fun y => decide (t = y))) = true then 12 else
  if (k == 2) = true then 0 else
  if ((l.length : Int) == 0 || (l.headD dnone).kind != 2) = true then 4 else
  if decide ((l.headD dnone).text = sQuote) = true then (if ((l.length : Int) != 2) = true then 4 else 0) else
  if decide ((l.headD dnone).text = sIf) = true then (if ((l.length : Int) != 4) = true then 4 else call ps b 1 l) else
  if decide ((l.headD dnone).text = sLet) = true then (if ((l.length : Int) != 4 || !isName (l.getD 1 dnone)) = true then 4 else if (cnth ps b 2 l != 0) = true then cnth ps b 2 l else cnth ps (b ++ [(l.getD 1 dnone).text]) 3 l) else
  if decide ((l.headD dnone).text = sCall) = true then
   (if (decide ((l.length : Int) < 2) || !isLabel (l.getD 1 dnone)) = true then 4 else if (!(kpar ps (l.getD 1 dnone)).2) = true then 5 else if ((kpar ps (l.getD 1 dnone)).1 != (l.length : Int) - 2) = true then 11 else call ps b 2 l) else
  if (!(arity (l.headD dnone).text).2) = true then 4 else if ((arity (l.headD dnone).text).1 != (l.length : Int) - 1) = true then 11 else call ps b 1 l
def call (ps : List (D × Int)) : List ByteArray → Nat → List D → Int
 | _, _, [] => 0
 | b, 0, x :: l => if (cexpr ps b x != 0) = true then cexpr ps b x else call ps b 0 l
 | b, i + 1, _ :: l => call ps b i l
def cnth (ps : List (D × Int)) : List ByteArray → Nat → List D → Int
 | _, _, [] => 0
 | b, 0, x :: _ => cexpr ps b x
 | b, i + 1, _ :: l => cnth ps b i l
end
def cll (ps : List (D × Int)) (b : List ByteArray) (l : List D) : Int := call ps b 0 l
theorem call_drop (ps : List (D × Int)) (b : List ByteArray) : ∀ (i : Nat) (l : List D), call ps b i l = cll ps b (l.drop i)
 | 0, l => rfl
 | i + 1, [] => by simp [call, cll]
 | i + 1, x :: l => by rw [call, call_drop ps b i l]; rfl
theorem cnth_get (ps : List (D × Int)) (b : List ByteArray) : ∀ (i : Nat) (l : List D) (x : D), l[i]? = some x → cnth ps b i l = cexpr ps b x
 | i, [], x, h => by simp at h
 | 0, y :: l, x, h => by simp at h; subst h; rfl
 | i + 1, y :: l, x, h => by rw [cnth, cnth_get ps b i l x (by simpa using h)]
/-- What a call says. -/
def ccall (ps : List (D × Int)) (b : List ByteArray) (l : List D) : Int :=
 if (decide ((l.length : Int) < 2) || !isLabel (l.getD 1 dnone)) = true then 4 else if (!(kpar ps (l.getD 1 dnone)).2) = true then 5 else if ((kpar ps (l.getD 1 dnone)).1 != (l.length : Int) - 2) = true then 11 else cll ps b (l.drop 2)
theorem cexpr_eq (ps : List (D × Int)) (b : List ByteArray) (d : D) : cexpr ps b d =
  if (d.kind == 1) = true then 0 else
  if (d.kind == 2 && !isName d) = true then 4 else
  if (d.kind == 2 && !(b.any fun y => decide (d.text = y))) = true then 12 else
  if (d.kind == 2) = true then 0 else
  if ((d.kids.length : Int) == 0 || d.head.kind != 2) = true then 4 else
  if decide (d.head.text = sQuote) = true then (if ((d.kids.length : Int) != 2) = true then 4 else 0) else
  if decide (d.head.text = sIf) = true then (if ((d.kids.length : Int) != 4) = true then 4 else cll ps b (d.kids.drop 1)) else
  if decide (d.head.text = sLet) = true then (if ((d.kids.length : Int) != 4 || !isName (d.kids.getD 1 dnone)) = true then 4 else if (cnth ps b 2 d.kids != 0) = true then cnth ps b 2 d.kids else cnth ps (b ++ [(d.kids.getD 1 dnone).text]) 3 d.kids) else
  if decide (d.head.text = sCall) = true then ccall ps b d.kids else
  if (!(arity d.head.text).2) = true then 4 else if ((arity d.head.text).1 != (d.kids.length : Int) - 1) = true then 11 else cll ps b (d.kids.drop 1) := by
 cases d
 rw [cexpr, call_drop, call_drop]
 rfl
theorem cll_cons (ps : List (D × Int)) (b : List ByteArray) (x : D) (l : List D) : cll ps b (x :: l) = if (cexpr ps b x != 0) = true then cexpr ps b x else cll ps b l := rfl

theorem getD_of {l : List D} {i : Nat} {x : D} (h : l[i]? = some x) : l.getD i dnone = x := by simp [List.getD, h]

/-! ### heads -/
def d0 (l : List D) : D := l.getD 0 dnone
def d1 (l : List D) : D := l.getD 1 dnone
/-- A definition without its body: what is wrong with it, and what is known then. -/
def chead (ps : List (D × Int)) (d : D) : Int × List (D × Int) :=
 match kidsOf d 3 false with
 | none => (4, ps)
 | some l =>
  if (!isLabel (d0 l)) = true then (4, ps) else
  if (kpar ps (d0 l)).2 = true then (4, ps) else
  match names (d1 l) with
  | none => (4, ps)
  | some ns => if decide ((8 : Int) < ns.length) = true then (3, ps) else (0, kset ps (d0 l) ns.length)
end Go.Aw

namespace Go.Aw
open Go
theorem kidsOf_three {d : D} {l : List D} (h : kidsOf d 3 false = some l) : ∃ x0 x1 x2, l = [x0, x1, x2] ∧ d.kids = [x0, x1, x2] ∧ d.kind = 3 := by
 unfold kidsOf at h
 split at h
 ·cases h
 ·rename_i hc
  cases h
  simp at hc
  obtain ⟨⟨h1, h2⟩, h3⟩ := hc
  have hl : d.kids.length = 3 := by omega
  match hk : d.kids, hl with
  | [x0, x1, x2], _ => exact ⟨x0, x1, x2, rfl, rfl, h1⟩

def headsGo : List (D × Int) → List D → Int × List (D × Int)
 | ps, [] => (0, ps)
 | ps, d :: l => if ((chead ps d).1 != 0) = true then chead ps d else headsGo (chead ps d).2 l
/-- The definitions without their bodies: what is wrong with them, and what is known then. -/
def heads (p : D) : Int × List (D × Int) :=
 if (dcheck p != 0) = true then (dcheck p, []) else if (p.kind != 3 || (p.kids.length : Int) == 0) = true then (4, []) else if decide ((4000 : Int) < p.kids.length) = true then (3, []) else headsGo [] p.kids

def d2 (l : List D) : D := l.getD 2 dnone
def nlist (o : Option (List ByteArray)) : List ByteArray := o.getD []
def bodies (ps : List (D × Int)) : List D → Int
 | [] => 0
 | d :: l => if (cexpr ps (nlist (names (d1 d.kids))) (d2 d.kids) != 0) = true then cexpr ps (nlist (names (d1 d.kids))) (d2 d.kids) else bodies ps l
/-- What is wrong with a program. -/
def fcheck (p : D) : Int := if ((heads p).1 != 0) = true then (heads p).1 else bodies (heads p).2 p.kids

def hps (l : List D) (k : Nat) : List (D × Int) := (l.take k).foldl (fun ps d => (chead ps d).2) []
theorem chead_none {ps : List (D × Int)} {d : D} (hl : kidsOf d 3 false = none) : chead ps d = (4, ps) := by unfold chead; rw [hl]
theorem chead_some {ps : List (D × Int)} {d x0 x1 x2 : D} (hl : kidsOf d 3 false = some [x0, x1, x2]) : chead ps d = if (!isLabel x0) = true then ((4 : Int), ps) else if (kpar ps x0).2 = true then (4, ps) else
  match names x1 with
  | none => (4, ps)
  | some ns => if decide ((8 : Int) < ns.length) = true then (3, ps) else (0, kset ps x0 ns.length) := by unfold chead; rw [hl]; rfl
theorem chead_ok {ps : List (D × Int)} {d : D} (h : (chead ps d).1 = 0) : ∃ x0 x1 x2 ns, d.kids = [x0, x1, x2] ∧ d.kind = 3 ∧ isLabel x0 = true ∧ (kpar ps x0).2 = false ∧ names x1 = some ns ∧ ns.length ≤ 8 ∧ (chead ps d).2 = kset ps x0 ns.length := by
 cases hl : kidsOf d 3 false with
 | none => rw [chead_none hl] at h; simp at h
 | some l =>
  obtain ⟨x0, x1, x2, rfl, hk, hk3⟩ := kidsOf_three hl
  rw [chead_some hl] at h ⊢
  by_cases h1 : (!isLabel x0) = true
  ·rw [if_pos h1] at h; simp at h
  ·rw [if_neg h1] at h ⊢
   by_cases h2 : (kpar ps x0).2 = true
   ·rw [if_pos h2] at h; simp at h
   ·rw [if_neg h2] at h ⊢
    cases hns : names x1 with
    | none => rw [hns] at h; simp at h
    | some ns =>
     rw [hns] at h
     simp only at h ⊢
     by_cases h3 : decide ((8 : Int) < ns.length) = true
     ·rw [if_pos h3] at h; simp at h
     ·exact ⟨x0, x1, x2, ns, hk, hk3, by simpa using h1, by simpa using h2, hns, by have := h3; simp at this; omega, by rw [if_neg h3]⟩
theorem headsGo_ok : ∀ {l : List D} {ps : List (D × Int)}, (headsGo ps l).1 = 0 → ∀ d, d ∈ l → ∃ x0 x1 x2 ns, d.kids = [x0, x1, x2] ∧ d.kind = 3 ∧ isLabel x0 = true ∧ names x1 = some ns ∧ ns.length ≤ 8
 | [], _, _, d, hd => by simp at hd
 | y :: l, ps, h, d, hd => by
  rw [headsGo] at h
  by_cases hc : ((chead ps y).1 != 0) = true
  ·rw [if_pos hc] at h; rw [h] at hc; simp at hc
  ·rw [if_neg hc] at h
   have h0 : (chead ps y).1 = 0 := by simpa using hc
   rcases List.mem_cons.1 hd with rfl | hd
   ·obtain ⟨x0, x1, x2, ns, k1, k2, k3, _, k4, k5, _⟩ := chead_ok h0
    exact ⟨x0, x1, x2, ns, k1, k2, k3, k4, k5⟩
   ·exact headsGo_ok h d hd
theorem heads_ok {p : D} (h : (heads p).1 = 0) : dcheck p = 0 ∧ p.kind = 3 ∧ p.kids ≠ [] ∧ p.kids.length ≤ 4000 ∧ heads p = headsGo [] p.kids := by
 unfold heads at h ⊢
 split at h
 ·rename_i hc; simp only at h; rw [h] at hc; simp at hc
 ·rename_i h1
  split at h
  ·simp at h
  ·rename_i h2
   split at h
   ·simp at h
   ·rename_i h3
    simp at h1 h2 h3
    refine ⟨h1, h2.1, by intro e; rw [e] at h2; simp at h2, by omega, ?_⟩
    rw [if_neg (by simp [h1]), if_neg (by simp [h2]), if_neg (by simp; omega)]
theorem fcheck_heads {p : D} (h : fcheck p = 0) : (heads p).1 = 0 ∧ bodies (heads p).2 p.kids = 0 := by
 unfold fcheck at h
 split at h
 ·rename_i hc; rw [h] at hc; simp at hc
 ·rename_i hc; exact ⟨by simpa using hc, h⟩
/-- A definition of a right program. -/
theorem def_ok {p d : D} (h : (heads p).1 = 0) (hd : d ∈ p.kids) : ∃ x0 x1 x2 ns, d.kids = [x0, x1, x2] ∧ d.kind = 3 ∧ isLabel x0 = true ∧ names x1 = some ns ∧ ns.length ≤ 8 := by
 have := (heads_ok h).2.2.2.2
 rw [this] at h
 exact headsGo_ok h d hd

/-! ### what is called -/
def seenB (m : List (D × Bool)) (d : D) : Bool := (kget m d).getD false
abbrev CS := List D × List (D × Bool)
def callStep (d : D) (st : CS) : CS := if (isCall d && !seenB st.2 (d1 d.kids)) = true then (st.1 ++ [d1 d.kids], kset st.2 (d1 d.kids) true) else st
def pdrop (d : D) : Nat := if (d.kind != 3) = true then d.kids.length else if decide (d.head.text = sQuote) = true then d.kids.length else if decide (d.head.text = sLet) = true then 2 else if decide (d.head.text = sCall) = true then 2 else 1
theorem parts_drop (d : D) : parts d = d.kids.drop (pdrop d) := by
 unfold parts pdrop
 split
 ·simp
 ·split
  ·simp
  ·split
   ·rfl
   ·split <;> rfl
mutual
def callsD : D → CS → CS
 | .mk k n t l, st => callsL (pdrop (.mk k n t l)) l (callStep (.mk k n t l) st)
def callsL : Nat → List D → CS → CS
 | _, [], st => st
 | 0, x :: l, st => callsL 0 l (callsD x st)
 | i + 1, _ :: l, st => callsL i l st
end
theorem callsL_drop : ∀ (i : Nat) (l : List D) (st : CS), callsL i l st = callsL 0 (l.drop i) st
 | 0, l, st => rfl
 | i + 1, [], st => by simp [callsL]
 | i + 1, x :: l, st => by rw [callsL, callsL_drop i l]; rfl
theorem callsL_foldl : ∀ (l : List D) (st : CS), callsL 0 l st = l.foldl (fun st x => callsD x st) st
 | [], st => rfl
 | x :: l, st => by rw [callsL, callsL_foldl l]; rfl
theorem callsD_eq (d : D) (st : CS) : callsD d st = (parts d).foldl (fun st x => callsD x st) (callStep d st) := by
 rw [parts_drop, ← callsL_foldl]
 cases d
 rw [callsD, callsL_drop]
 rfl
/-- The labels that an expression calls. -/
def callsOf (d : D) : List D := (callsD d ([], [])).1

/-! ### the definitions by their labels, and what is reached -/
def defsL (l : List D) : List (D × D) := l.foldl (fun m d => kset m d.head d) []
def defOf (m : List (D × D)) (f : D) : D := (kget m f).getD dnone
def reachStep (m : List (D × D)) (st : CS) (f : D) : CS := if (!seenB st.2 f) = true then (st.1 ++ [defOf m f], kset st.2 f true) else st
def reachRound (m : List (D × D)) (st : CS) (d : D) : CS := (callsOf (d2 d.kids)).foldl (reachStep m) st
def rstK (m : List (D × D)) (st : CS) : Nat → CS
 | 0 => st
 | i + 1 => match (rstK m st i).1[i]? with
  | none => rstK m st i
  | some d => reachRound m (rstK m st i) d
def rst (p : D) (k : Nat) : CS := rstK (defsL p.kids) ([p.head], [(p.head.head, true)]) k
def reach (p : D) : List D := (rst p p.kids.length).1

/-! ### canonical forms -/
mutual
def rexpr (lab nm : D → D) (bare : Bool) : D → D
 | .mk k n t l => if (k == 1) = true then .mk k n t l else if (k == 2) = true then nm (.mk k n t l) else
  if decide ((l.headD dnone).text = sQuote) = true then .mk k n t l else
  if decide ((l.headD dnone).text = sLet) = true then dlist ([l.headD dnone, nm (d1 l)] ++ rkids lab nm bare (pdrop (.mk k n t l)) l) else
  if decide ((l.headD dnone).text = sCall) = true then dlist ((if bare = true then [lab (d1 l)] else [l.headD dnone, lab (d1 l)]) ++ rkids lab nm bare (pdrop (.mk k n t l)) l) else
  dlist ([l.headD dnone] ++ rkids lab nm bare (pdrop (.mk k n t l)) l)
def rkids (lab nm : D → D) (bare : Bool) : Nat → List D → List D
 | _, [] => []
 | 0, x :: l => rexpr lab nm bare x :: rkids lab nm bare 0 l
 | i + 1, _ :: l => rkids lab nm bare i l
end
def rdef (lab nm : D → D) (bare : Bool) (d : D) : D := dlist [lab d.head, dlist ((d1 d.kids).kids.map nm), rexpr lab nm bare (d2 d.kids)]
mutual
def fsize : D → Nat
 | .mk k n t l => 1 + fsizes (pdrop (.mk k n t l)) l
def fsizes : Nat → List D → Nat
 | _, [] => 0
 | 0, x :: l => fsize x + fsizes 0 l
 | i + 1, _ :: l => fsizes i l
end
def joinStep (p : D) (st : List D × Bool) (d : D) : List D × Bool :=
 if (!(findD p.kids d.head).2) = true then (st.1 ++ [d], st.2) else if (((d1 (findD p.kids d.head).1.kids).kids.length : Int) != (d1 d.kids).kids.length) = true then (st.1, true) else st
def joinL (p q : D) : List D × Bool := q.kids.foldl (joinStep p) (p.kids, false)
def joinD (p q : D) : D := .mk p.kind p.num p.text (joinL p q).1
end Go.Aw

namespace Go.Aw
open Go
/-! ### expressions that may be gone through -/
mutual
def okE : D → Bool
 | .mk k n t l => k == 1 || k == 2 || (k == 3 && !l.isEmpty && (decide (2 ≤ l.length) || !(decide ((l.headD dnone).text = sLet) || decide ((l.headD dnone).text = sCall))) && okEs (pdrop (.mk k n t l)) l)
def okEs : Nat → List D → Bool
 | _, [] => true
 | 0, x :: l => okE x && okEs 0 l
 | i + 1, _ :: l => okEs i l
end
theorem okEs_drop : ∀ (i : Nat) (l : List D), okEs i l = (l.drop i).all okE
 | 0, [] => rfl
 | i + 1, [] => rfl
 | 0, x :: l => by rw [okEs, okEs_drop 0 l]; rfl
 | i + 1, x :: l => by rw [okEs, okEs_drop i l]; rfl
theorem parts_nil {d : D} (hk : d.kind ≠ 3) : parts d = [] := by unfold parts; rw [if_pos (by simpa using hk)]
theorem isCall_iff {d : D} : isCall d = true ↔ d.kind = 3 ∧ d.head.text = sCall := by simp [isCall]
theorem parts_mem {d x : D} (h : x ∈ parts d) : x ∈ d.kids := by rw [parts_drop] at h; exact List.mem_of_mem_drop h

theorem sizes_append : ∀ (l r : List D), D.sizes (l ++ r) = D.sizes l + D.sizes r
 | [], r => by simp [D.sizes]
 | x :: l, r => by simp only [List.cons_append, D.sizes, sizes_append l r]; omega
@[go_sem high] theorem seq_enc (x : D) : seqPV 4 0 [(0, AV.pv (enc x))] = some [enc x] := by simp [seqPV, toPV, atomToPV, nrm_enc, enc_cells]

@[go_sem] theorem snoc1_get {α : Type} {l : List α} {a : α} : (l ++ [a])[l.length]? = some a := by simp
@[go_sem] theorem snoc2_get0 {α : Type} {l : List α} {a b : α} : (l ++ [a, b])[l.length]? = some a := by simp
@[go_sem] theorem snoc2_get {α : Type} {l : List α} {a b : α} : (l ++ [a, b])[l.length + 1]? = some b := by simp
@[go_sem] theorem snoc3_get {α : Type} {l : List α} {a b c : α} : (l ++ [a, b, c])[l.length + 2]? = some c := by simp

/-! ### a map and a list that grow -/
section
variable {σ : Store} {om kt : Nat} {e : TypeId} {st st' : CS}
end
theorem head_cons {d x : D} {r : List D} (h : d.kids = x :: r) : d.head = x := by unfold D.head; rw [h]; rfl
end Go.Aw

namespace Go.Aw
open Go
/-! ### keys -/
theorem kq_iff {a b : D} : kq a b = true ↔ a.num = b.num ∧ a.text = b.text := by simp [kq]
theorem kq_refl (a : D) : kq a a = true := kq_iff.2 ⟨rfl, rfl⟩
theorem kq_symm {a b : D} (h : kq a b = true) : kq b a = true := kq_iff.2 ⟨(kq_iff.1 h).1.symm, (kq_iff.1 h).2.symm⟩
theorem kq_trans {a b c : D} (h : kq a b = true) (k : kq b c = true) : kq a c = true := kq_iff.2 ⟨(kq_iff.1 h).1.trans (kq_iff.1 k).1, (kq_iff.1 h).2.trans (kq_iff.1 k).2⟩
theorem kq_comm (a b : D) : kq a b = kq b a := by
 cases h : kq a b
 ·cases h' : kq b a
  ·rfl
  ·rw [kq_symm h'] at h; cases h
 ·exact (kq_symm h).symm
theorem kq_congr {a b : D} (h : kq a b = true) (c : D) : kq a c = kq b c := by
 cases h' : kq b c
 ·cases h2 : kq a c
  ·rfl
  ·rw [kq_trans (kq_symm h) h2] at h'; cases h'
 ·exact kq_trans h h'
section
variable {α : Type}
theorem kget_kset (m : List (D × α)) (d e : D) (v : α) : kget (kset m d v) e = if kq e d then some v else kget m e := by
 induction m with
 | nil => simp only [kset, kget, List.find?_cons, List.find?_nil]; cases kq e d <;> rfl
 | cons p r ih =>
  simp only [kset]
  by_cases h : kq d p.1 = true
  ·rw [if_pos h]
   simp only [kget, List.find?_cons]
   rw [show kq e p.1 = kq e d by rw [kq_comm e p.1, kq_comm e d]; exact (kq_congr h e).symm]
   cases kq e d <;> rfl
  ·rw [if_neg h]
   simp only [kget, List.find?_cons] at ih ⊢
   by_cases h2 : kq e p.1 = true
   ·have h3 : kq e d = false := by
     cases h3 : kq e d
     ·rfl
     ·exact absurd (kq_trans (kq_symm h3) h2) h
    simp only [h2, h3]; rfl
   ·simp only [h2]; exact ih
end
theorem seenB_kset (m : List (D × Bool)) (d e : D) : seenB (kset m d true) e = (kq e d || seenB m e) := by
 unfold seenB; rw [kget_kset]; cases kq e d <;> rfl
theorem kpar_kset (m : List (D × Int)) (d e : D) (v : Int) : kpar (kset m d v) e = if kq e d then (v, true) else kpar m e := by
 unfold kpar; rw [kget_kset]; cases kq e d <;> rfl
/-- Definitions with labels that are all different. -/
def Apart (l : List D) : Prop := l.Pairwise fun a b => kq a.head b.head = false

theorem headsGo_apart : ∀ {l : List D} {ps : List (D × Int)}, (headsGo ps l).1 = 0 → Apart l ∧ (∀ d, d ∈ l → (kpar ps d.head).2 = false) ∧
  ∀ f, kpar (headsGo ps l).2 f = (match l.find? fun d => kq f d.head with | some d => ((nlist (names (d1 d.kids))).length, true) | none => kpar ps f)
 | [], ps, _ => ⟨.nil, fun d hd => by simp at hd, fun f => rfl⟩
 | y :: l, ps, h => by
  rw [headsGo] at h
  by_cases hc : ((chead ps y).1 != 0) = true
  ·rw [if_pos hc] at h; rw [h] at hc; simp at hc
  ·rw [if_neg hc] at h
   have h0 : (chead ps y).1 = 0 := by simpa using hc
   obtain ⟨x0, x1, x2, ns, k1, k2, k3, k4, k5, k6, k7⟩ := chead_ok h0
   have hy : y.head = x0 := head_cons k1
   have hy1 : d1 y.kids = x1 := by rw [k1]; rfl
   obtain ⟨i1, i2, i3⟩ := headsGo_apart h
   rw [k7] at i2 i3
   have i4 : ∀ d, d ∈ l → kq d.head x0 = false ∧ (kpar ps d.head).2 = false := by
    intro d hd
    have := i2 d hd
    rw [kpar_kset] at this
    cases hk : kq d.head x0 with
    | true => rw [hk] at this; simp at this
    | false => rw [hk] at this; exact ⟨rfl, by simpa using this⟩
   refine ⟨List.pairwise_cons.2 ⟨fun d hd => by rw [hy, kq_comm]; exact (i4 d hd).1, i1⟩, fun d hd => ?_, fun f => ?_⟩
   ·rcases List.mem_cons.1 hd with rfl | hd
    ·rw [hy]; exact k4
    ·exact (i4 d hd).2
   ·rw [headsGo, if_neg hc, k7, i3 f, List.find?_cons, hy, kpar_kset]
    cases hf : kq f x0 with
    | false => rfl
    | true =>
     have : l.find? (fun d => kq f d.head) = none := by
      rw [List.find?_eq_none]
      intro d hd he
      have := (i4 d hd).1
      rw [kq_trans (kq_symm he) hf] at this
      cases this
     rw [this]
     show ((ns.length : Int), true) = (((nlist (names (d1 y.kids))).length : Int), true)
     rw [hy1, k5]; rfl

theorem defsL_get {l : List D} (h : Apart l) (f : D) : kget (defsL l) f = l.find? fun d => kq f d.head := by
 have key : ∀ (l : List D) (m : List (D × D)), Apart l → (∀ d, d ∈ l → kget m d.head = none) → kget (l.foldl (fun m d => kset m d.head d) m) f = (match l.find? fun d => kq f d.head with | some d => some d | none => kget m f) := by
  intro l
  induction l with
  | nil => intro m _ _; rfl
  | cons y l ih =>
   intro m ha hm
   have ha := List.pairwise_cons.1 ha
   rw [List.foldl_cons, ih _ ha.2 (fun d hd => by
    rw [kget_kset, show kq d.head y.head = false by rw [kq_comm]; exact ha.1 d hd]
    exact hm d (by simp [hd])), List.find?_cons, kget_kset]
   cases hf : kq f y.head with
   | false => rfl
   | true =>
    have : l.find? (fun d => kq f d.head) = none := by
     rw [List.find?_eq_none]
     intro d hd he
     have := ha.1 d hd
     rw [kq_trans (kq_symm hf) he] at this
     cases this
    rw [this]; rfl
 rw [defsL, key l [] h (fun _ _ => rfl)]
 cases l.find? fun d => kq f d.head <;> rfl

theorem bodies_ok {ps : List (D × Int)} : ∀ {l : List D}, bodies ps l = 0 → ∀ d, d ∈ l → cexpr ps (nlist (names (d1 d.kids))) (d2 d.kids) = 0
 | [], _, d, hd => by simp at hd
 | y :: l, h, d, hd => by
  rw [bodies] at h
  by_cases hc : (cexpr ps (nlist (names (d1 y.kids))) (d2 y.kids) != 0) = true
  ·rw [if_pos hc] at h; rw [h] at hc; simp at hc
  ·rw [if_neg hc] at h
   rcases List.mem_cons.1 hd with rfl | hd
   ·simpa using hc
   ·exact bodies_ok h d hd

theorem cll_zero {ps : List (D × Int)} {b : List ByteArray} : ∀ {l : List D}, cll ps b l = 0 ↔ ∀ x, x ∈ l → cexpr ps b x = 0
 | [] => by simp [cll, call]
 | x :: l => by
  rw [cll_cons]
  by_cases hc : (cexpr ps b x != 0) = true
  ·rw [if_pos hc]
   simp at hc
   constructor
   ·intro h; exact absurd h hc
   ·intro h; exact absurd (h x (by simp)) hc
  ·rw [if_neg hc, cll_zero]
   simp at hc
   simp [hc]

/-- An expression that has been checked, of right data. -/
theorem cexpr_list {ps : List (D × Int)} {b : List ByteArray} {d : D} (h : cexpr ps b d = 0) (hk : d.kind = 3) :
  d.kids ≠ [] ∧ d.head.kind = 2 ∧ ((d.head.text = sQuote ∧ d.kids.length = 2) ∨ (d.head.text = sIf ∧ d.kids.length = 4 ∧ cll ps b (d.kids.drop 1) = 0) ∨
   (d.head.text = sLet ∧ d.kids.length = 4 ∧ isName (d1 d.kids) = true ∧ cexpr ps b (d2 d.kids) = 0 ∧ cexpr ps (b ++ [(d1 d.kids).text]) (d.kids.getD 3 dnone) = 0) ∨
   (d.head.text = sCall ∧ ccall ps b d.kids = 0) ∨
   (d.head.text ≠ sQuote ∧ d.head.text ≠ sIf ∧ d.head.text ≠ sLet ∧ d.head.text ≠ sCall ∧ (arity d.head.text).2 = true ∧ (arity d.head.text).1 = (d.kids.length : Int) - 1 ∧ cll ps b (d.kids.drop 1) = 0)) := by
 rw [cexpr_eq] at h
 have e1 : (d.kind == 1) = false := by rw [hk]; rfl
 have e2 : (d.kind == 2) = false := by rw [hk]; rfl
 simp only [e1, e2, Bool.false_and, Bool.false_eq_true, if_false] at h
 by_cases h1 : ((d.kids.length : Int) == 0 || d.head.kind != 2) = true
 ·rw [if_pos h1] at h; cases h
 rw [if_neg h1] at h
 simp only [Bool.or_eq_true, beq_iff_eq, bne_iff_ne, not_or, Decidable.not_not] at h1
 refine ⟨by intro e; rw [e] at h1; simp at h1, h1.2, ?_⟩
 by_cases h2 : d.head.text = sQuote
 ·rw [if_pos (by simpa using h2)] at h
  split at h
  ·cases h
  ·rename_i h3; exact .inl ⟨h2, by simp at h3; omega⟩
 rw [if_neg (by simpa using h2)] at h
 by_cases h3 : d.head.text = sIf
 ·rw [if_pos (by simpa using h3)] at h
  split at h
  ·cases h
  ·rename_i h4; exact .inr (.inl ⟨h3, by simp at h4; omega, h⟩)
 rw [if_neg (by simpa using h3)] at h
 by_cases h4 : d.head.text = sLet
 ·rw [if_pos (by simpa using h4)] at h
  split at h
  ·cases h
  ·rename_i h5
   simp only [Bool.or_eq_true, bne_iff_ne, Bool.not_eq_true', not_or, Decidable.not_not, Bool.not_eq_false] at h5
   have h5l : d.kids.length = 4 := by omega
   have g2 : cnth ps b 2 d.kids = cexpr ps b (d2 d.kids) := cnth_get ps b 2 d.kids _ (by simp [d2, List.getD, h5l])
   have g3 : cnth ps (b ++ [(d.kids.getD 1 dnone).text]) 3 d.kids = cexpr ps (b ++ [(d.kids.getD 1 dnone).text]) (d.kids.getD 3 dnone) := cnth_get ps _ 3 d.kids _ (by simp [List.getD, h5l])
   rw [g2, g3] at h
   split at h
   ·rename_i h6; rw [h] at h6; simp at h6
   ·rename_i h6
    exact .inr (.inr (.inl ⟨h4, h5l, h5.2, by simpa using h6, h⟩))
 rw [if_neg (by simpa using h4)] at h
 by_cases h5 : d.head.text = sCall
 ·rw [if_pos (by simpa using h5)] at h
  exact .inr (.inr (.inr (.inl ⟨h5, h⟩)))
 rw [if_neg (by simpa using h5)] at h
 split at h
 ·cases h
 ·rename_i h6
  split at h
  ·cases h
  ·rename_i h7
   exact .inr (.inr (.inr (.inr ⟨h2, h3, h4, h5, by simpa using h6, by simpa using h7, h⟩)))

theorem ccall_zero {ps : List (D × Int)} {b : List ByteArray} {l : List D} (h : ccall ps b l = 0) : 2 ≤ l.length ∧ isLabel (d1 l) = true ∧ (kpar ps (d1 l)).2 = true ∧ (kpar ps (d1 l)).1 = (l.length : Int) - 2 ∧ cll ps b (l.drop 2) = 0 := by
 unfold ccall at h
 by_cases h1 : (decide ((l.length : Int) < 2) || !isLabel (l.getD 1 dnone)) = true
 ·rw [if_pos h1] at h; cases h
 rw [if_neg h1] at h
 split at h
 ·cases h
 ·rename_i h2
  split at h
  ·cases h
  ·rename_i h3
   simp only [Bool.or_eq_true, decide_eq_true_eq, Bool.not_eq_true', not_or, Bool.not_eq_false] at h1
   exact ⟨by omega, h1.2, by simp only [Bool.not_eq_true', Bool.not_eq_false] at h2; exact h2, by simp only [bne_iff_ne, Decidable.not_not] at h3; exact h3, h⟩

theorem sQ_ne_L : sQuote ≠ sLet := by decide
theorem sQ_ne_C : sQuote ≠ sCall := by decide
theorem sI_ne_C : sIf ≠ sCall := by decide
theorem sL_ne_C : sLet ≠ sCall := by decide
theorem sC_ne_Q : sCall ≠ sQuote := by decide
theorem sC_ne_L : sCall ≠ sLet := by decide

/-- All parts of a checked expression are checked, with some names. -/
theorem cexpr_parts {ps : List (D × Int)} {b : List ByteArray} {d : D} (h : cexpr ps b d = 0) (hk : d.kind = 3) : ∀ x, x ∈ parts d → ∃ b', cexpr ps b' x = 0 := by
 obtain ⟨hne, _, hc⟩ := cexpr_list h hk
 have e3 : (d.kind != 3) = false := by rw [hk]; rfl
 intro x hx
 unfold parts at hx
 rw [if_neg (by simp [e3])] at hx
 rcases hc with ⟨h1, _⟩ | ⟨h1, h2, h3⟩ | ⟨h1, h2, h3, h4, h5⟩ | ⟨h1, h2⟩ | ⟨h1, h2, h3, h4, h5, h6, h7⟩
 ·rw [if_pos (by simpa using h1)] at hx; simp at hx
 ·rw [if_neg (by rw [h1]; decide), if_neg (by rw [h1]; decide), if_neg (by rw [h1]; decide)] at hx
  exact ⟨b, cll_zero.1 h3 x hx⟩
 ·rw [if_neg (by rw [h1]; decide), if_pos (by simpa using h1)] at hx
  have hd : d.kids.drop 2 = [d2 d.kids, d.kids.getD 3 dnone] := by
   match hkk : d.kids, h2 with
   | [a, b, c, e], _ => rfl
  rw [hd] at hx
  simp only [List.mem_cons, List.not_mem_nil, or_false] at hx
  rcases hx with rfl | rfl
  ·exact ⟨b, h4⟩
  ·exact ⟨_, h5⟩
 ·rw [if_neg (by rw [h1]; decide), if_neg (by rw [h1]; decide), if_pos (by simpa using h1)] at hx
  exact ⟨b, cll_zero.1 (ccall_zero h2).2.2.2.2 x hx⟩
 ·rw [if_neg (by simpa using h1), if_neg (by simpa using h3), if_neg (by simpa using h4)] at hx
  exact ⟨b, cll_zero.1 h7 x hx⟩

theorem formed_kids {d x : D} (h : formed d = true) (hx : x ∈ d.kids) : formed x = true := by
 rw [formed_eq] at h
 split at h
 ·simp only [Bool.and_eq_true, beq_iff_eq] at h
  have : d.kids = [] := by cases hk : d.kids with
   | nil => rfl
   | cons a r => rw [hk] at h; simp at h; omega
  rw [this] at hx; simp at hx
 ·split at h
  ·simp only [Bool.and_eq_true, beq_iff_eq] at h
   have : d.kids = [] := by cases hk : d.kids with
    | nil => rfl
    | cons a r => rw [hk] at h; simp at h; omega
   rw [this] at hx; simp at hx
  ·split at h
   ·simp only [Bool.and_eq_true, Bool.not_eq_true', List.any_eq_false] at h
    simpa using h.2 x hx
   ·cases h
theorem formed_kind {d : D} (h : formed d = true) : d.kind = 1 ∨ d.kind = 2 ∨ d.kind = 3 := by
 rw [formed_eq] at h
 split at h
 ·rename_i h1; exact .inl (by simpa using h1)
 ·split at h
  ·rename_i h1; exact .inr (.inl (by simpa using h1))
  ·split at h
   ·rename_i h1; exact .inr (.inr (by simpa using h1))
   ·cases h

/-- What has been checked may be gone through, and calls what is known. -/
theorem okE_of {ps : List (D × Int)} : ∀ (d : D) (b : List ByteArray), cexpr ps b d = 0 → formed d = true → okE d = true := by
 intro d
 induction d using D.ind with
 | _ k n t l ih =>
  intro b h hf
  rcases formed_kind hf with hk | hk | hk
  ·simp only [D.kind] at hk; subst hk; rfl
  ·simp only [D.kind] at hk; subst hk; rfl
  ·have hp := cexpr_parts h hk
   obtain ⟨hne, _, hc⟩ := cexpr_list h hk
   have h2l : (D.mk k n t l).head.text = sLet ∨ (D.mk k n t l).head.text = sCall → 2 ≤ l.length := by
    intro ht
    rcases hc with ⟨h1, _⟩ | ⟨h1, h2, h3⟩ | ⟨h1, h2, h3, h4, h5⟩ | ⟨h1, h2⟩ | ⟨h1, h2, h3, h4, h5, h6, h7⟩
    ·rw [h1] at ht; rcases ht with ht | ht
     ·exact absurd ht sQ_ne_L
     ·exact absurd ht sQ_ne_C
    ·simp only [D.kids] at h2; omega
    ·simp only [D.kids] at h2; omega
    ·exact (ccall_zero h2).1
    ·rcases ht with ht | ht
     ·exact absurd ht h3
     ·exact absurd ht h4
   simp only [D.kind] at hk
   subst hk
   rw [okE, okEs_drop]
   simp only [Bool.or_eq_true, Bool.and_eq_true, Bool.not_eq_true', List.all_eq_true, decide_eq_true_eq]
   refine .inr ⟨⟨⟨rfl, ?_⟩, ?_⟩, fun x hx => ?_⟩
   ·cases l with
    | nil => exact (hne rfl).elim
    | cons => rfl
   ·by_cases h2 : 2 ≤ l.length
    ·exact .inl h2
    ·refine .inr ?_
     simp only [Bool.or_eq_false_iff, decide_eq_false_iff_not]
     exact ⟨fun e => h2 (h2l (.inl e)), fun e => h2 (h2l (.inr e))⟩
   ·have hx' : x ∈ parts (D.mk 3 n t l) := by rw [parts_drop]; exact hx
    obtain ⟨b', hb'⟩ := hp x hx'
    exact ih x (parts_mem hx') b' hb' (formed_kids hf (parts_mem hx'))

/-- Every label that is called is known. -/
theorem calls_known {ps : List (D × Int)} : ∀ (d : D) (b : List ByteArray), cexpr ps b d = 0 → formed d = true → ∀ st : CS, (∀ f, f ∈ st.1 → (kpar ps f).2 = true) → ∀ f, f ∈ (callsD d st).1 → (kpar ps f).2 = true := by
 intro d
 induction d using D.ind with
 | _ k n t l ih =>
  intro b h hf st hst f hm
  rw [callsD_eq] at hm
  have h0 : ∀ f, f ∈ (callStep (D.mk k n t l) st).1 → (kpar ps f).2 = true := by
   intro f hf
   unfold callStep at hf
   split at hf
   ·rename_i hc
    simp only [List.mem_append, List.mem_singleton] at hf
    rcases hf with hf | rfl
    ·exact hst f hf
    ·simp only [Bool.and_eq_true] at hc
     have hi := isCall_iff.1 hc.1
     obtain ⟨hne, _, hcc⟩ := cexpr_list h hi.1
     rcases hcc with ⟨h1, _⟩ | ⟨h1, h2, h3⟩ | ⟨h1, h2, h3, h4, h5⟩ | ⟨h1, h2⟩ | ⟨h1, h2, h3, h4, h5, h6, h7⟩
     ·exact absurd (h1.symm.trans hi.2) sQ_ne_C
     ·exact absurd (h1.symm.trans hi.2) sI_ne_C
     ·exact absurd (h1.symm.trans hi.2) sL_ne_C
     ·exact (ccall_zero h2).2.2.1
     ·exact absurd hi.2 h4
   ·exact hst f hf
  have key : ∀ (r : List D), (∀ x, x ∈ r → x ∈ parts (D.mk k n t l)) → ∀ st : CS, (∀ f, f ∈ st.1 → (kpar ps f).2 = true) → ∀ f, f ∈ (r.foldl (fun st x => callsD x st) st).1 → (kpar ps f).2 = true := by
   intro r
   induction r with
   | nil => intro _ st hs f hf; exact hs f hf
   | cons x r ihr =>
    intro hr st hs f hf
    rw [List.foldl_cons] at hf
    have hx := hr x (by simp)
    by_cases hk : (D.mk k n t l).kind = 3
    ·obtain ⟨b', hb'⟩ := cexpr_parts h hk x hx
     exact ihr (fun y hy => hr y (by simp [hy])) _ (fun f hf => ih x (parts_mem hx) b' hb' (formed_kids ‹_› (parts_mem hx)) st hs f hf) f hf
    ·rw [parts_nil hk] at hx; simp at hx
  exact key _ (fun _ h => h) _ h0 f hm

/-! ### a right program -/
structure Right (p : D) : Prop where
 chk : fcheck p = 0
 sz : p.size ≤ 900000000

theorem dcheck_formed {p : D} (h : dcheck p = 0) : formed p = true := by
 unfold dcheck at h
 split at h
 ·cases h
 ·rename_i h1; simpa using h1

section
variable {p d f : D} (R : Right p)
include R
theorem Right.heads : (heads p).1 = 0 := (fcheck_heads R.chk).1
theorem Right.formed : formed p = true := dcheck_formed (heads_ok R.heads).1
theorem Right.def (hd : d ∈ p.kids) : ∃ x0 x1 x2 ns, d.kids = [x0, x1, x2] ∧ d.kind = 3 ∧ isLabel x0 = true ∧ names x1 = some ns ∧ ns.length ≤ 8 := def_ok R.heads hd
theorem Right.apart : Apart p.kids := by
 have h := R.heads
 rw [(heads_ok R.heads).2.2.2.2] at h
 exact (headsGo_apart h).1
theorem Right.par (f : D) : kpar (Aw.heads p).2 f = (match p.kids.find? fun d => kq f d.head with | some d => ((nlist (names (d1 d.kids))).length, true) | none => (0, false)) := by
 have h := R.heads
 rw [(heads_ok R.heads).2.2.2.2] at h ⊢
 exact (headsGo_apart h).2.2 f
theorem Right.body (hd : d ∈ p.kids) : cexpr (Aw.heads p).2 (nlist (names (d1 d.kids))) (d2 d.kids) = 0 := bodies_ok (fcheck_heads R.chk).2 d hd
theorem Right.bodyF (hd : d ∈ p.kids) : Aw.formed (d2 d.kids) = true := by
 obtain ⟨x0, x1, x2, ns, hk, _⟩ := R.def hd
 have : d2 d.kids = x2 := by rw [hk]; rfl
 rw [this]
 exact formed_kids (formed_kids R.formed hd) (by rw [hk]; simp)
theorem Right.ok (hd : d ∈ p.kids) : okE (d2 d.kids) = true := okE_of _ _ (R.body hd) (R.bodyF hd)
theorem Right.known (hd : d ∈ p.kids) (hf : f ∈ callsOf (d2 d.kids)) : ∃ e, e ∈ p.kids ∧ kq f e.head = true ∧ kget (defsL p.kids) f = some e := by
 have h := calls_known _ _ (R.body hd) (R.bodyF hd) ([], []) (fun f hf => by simp at hf) f hf
 rw [R.par f] at h
 rw [defsL_get R.apart]
 cases he : p.kids.find? fun d => kq f d.head with
 | none => rw [he] at h; cases h
 | some e => exact ⟨e, List.mem_of_find?_eq_some he, by have := List.find?_some he; simpa using this, rfl⟩
theorem Right.ne : p.kids ≠ [] := (heads_ok R.heads).2.2.1
theorem Right.head_mem : p.head ∈ p.kids := by
 obtain ⟨x, r, h⟩ := kids_cons R.ne
 rw [head_cons h, h]; simp
end
/-! ### what is reached -/
structure RI (p : D) (st : CS) : Prop where
 mem : ∀ d, d ∈ st.1 → d ∈ p.kids
 apart : Apart st.1
 seen : ∀ f, seenB st.2 f = st.1.any fun d => kq f d.head

theorem nodup_len {α : Type} : ∀ {l r : List α}, l.Nodup → (∀ x, x ∈ l → x ∈ r) → l.length ≤ r.length
 | [], r, _, _ => Nat.zero_le _
 | x :: l, r, hn, hs => by
  obtain ⟨a, b, rfl⟩ := List.append_of_mem (hs x (by simp))
  have hn := List.nodup_cons.1 hn
  have := nodup_len (l := l) (r := a ++ b) hn.2 (fun y hy => by
   have h := hs y (by simp [hy])
   simp only [List.mem_append, List.mem_cons] at h ⊢
   rcases h with h | rfl | h
   ·exact .inl h
   ·exact (hn.1 hy).elim
   ·exact .inr h)
  simp only [List.length_append, List.length_cons] at this ⊢
  omega

theorem RI.len {p : D} {st : CS} (h : RI p st) : st.1.length ≤ p.kids.length := by
 refine nodup_len ?_ h.mem
 refine List.Pairwise.imp ?_ h.apart
 intro a b hab e
 subst e; rw [kq_refl] at hab; cases hab

theorem RI.step {p f e : D} {st : CS} (h : RI p st) (he : e ∈ p.kids) (hq : kq f e.head = true) (hg : kget (defsL p.kids) f = some e) : RI p (reachStep (defsL p.kids) st f) := by
 unfold reachStep
 split
 ·rename_i hs
  have hs : seenB st.2 f = false := by simpa using hs
  have hdef : defOf (defsL p.kids) f = e := by unfold defOf; rw [hg]; rfl
  rw [hdef]
  rw [h.seen, List.any_eq_false] at hs
  refine ⟨fun d hd => ?_, ?_, fun g => ?_⟩
  ·simp only [List.mem_append, List.mem_singleton] at hd
   rcases hd with hd | rfl
   ·exact h.mem d hd
   ·exact he
  ·refine List.pairwise_append.2 ⟨h.apart, List.pairwise_singleton _ _, fun a ha b hb => ?_⟩
   simp only [List.mem_singleton] at hb
   subst hb
   have := hs a ha
   rw [kq_comm, ← kq_congr hq]
   simpa using this
  ·rw [seenB_kset, h.seen, List.any_append, Bool.or_comm]
   simp only [List.any_cons, List.any_nil, Bool.or_false]
   rw [show kq g f = kq g e.head by rw [kq_comm g f, kq_comm g e.head]; exact kq_congr hq g]
 ·exact h

theorem RI.fold {p : D} : ∀ {fs : List D} {st : CS}, RI p st → (∀ f, f ∈ fs → ∃ e, e ∈ p.kids ∧ kq f e.head = true ∧ kget (defsL p.kids) f = some e) → RI p (fs.foldl (reachStep (defsL p.kids)) st)
 | [], st, h, _ => h
 | f :: fs, st, h, hf => by
  rw [List.foldl_cons]
  obtain ⟨e, h1, h2, h3⟩ := hf f (by simp)
  exact RI.fold (h.step h1 h2 h3) (fun g hg => hf g (by simp [hg]))

theorem rst_inv {p : D} (R : Right p) : ∀ k, RI p (rst p k)
 | 0 => by
  refine ⟨fun d hd => ?_, List.pairwise_singleton _ _, fun f => ?_⟩
  ·simp only [rst, rstK, List.mem_singleton] at hd
   subst hd; exact R.head_mem
  ·simp only [rst, rstK, List.any_cons, List.any_nil, Bool.or_false, seenB, kget, List.find?_cons, List.find?_nil]
   cases kq f p.head.head <;> rfl
 | k + 1 => by
  have ih := rst_inv R k
  unfold rst at ih ⊢
  rw [rstK]
  split
  ·exact ih
  ·rename_i d hd
   exact ih.fold (fun f hf => R.known (ih.mem d (List.mem_of_getElem? hd)) hf)
theorem rst_stable {p : D} {k : Nat} (h : (rst p k).1.length ≤ k) : ∀ j, rst p (k + j) = rst p k
 | 0 => rfl
 | j + 1 => by
  have ih := rst_stable h j
  have : (rst p (k + j)).1[k + j]? = none := by rw [ih]; exact List.getElem?_eq_none (by omega)
  rw [← Nat.add_assoc, ← ih]
  unfold rst at this ⊢
  rw [rstK, this]
theorem reach_done {p : D} {k : Nat} (h : (rst p k).1.length ≤ k) (hk : k ≤ p.kids.length) : reach p = (rst p k).1 := by
 have := rst_stable h (p.kids.length - k)
 rw [show k + (p.kids.length - k) = p.kids.length by omega] at this
 unfold reach; rw [this]
theorem rst_next {p x : D} {k : Nat} (h : (rst p k).1[k]? = some x) : rst p (k + 1) = (callsOf (d2 x.kids)).foldl (reachStep (defsL p.kids)) (rst p k) := by
 unfold rst at h ⊢
 rw [rstK, h]; rfl

theorem reachStep_new {m : List (D × D)} {st : CS} {f e : D} (hs : seenB st.2 f = false) (hg : kget m f = some e) : reachStep m st f = (st.1 ++ [e], kset st.2 f true) := by
 unfold reachStep defOf; rw [hs, hg]; rfl
theorem reachStep_old {m : List (D × D)} {st : CS} {f : D} (hs : seenB st.2 f = true) : reachStep m st f = st := by
 unfold reachStep; rw [hs]; simp
section
variable {σ : Store} {m : List (D × D)} {e : TypeId} {st : CS}
end
end Go.Aw

namespace Go.Aw
open Go
@[go_sem high] theorem seq_enc2 (x y : D) : seqPV 4 0 [(0, AV.pv (enc x)), (1, AV.pv (enc y))] = some [enc x, enc y] := by simp [seqPV, toPV, atomToPV, nrm_enc, enc_cells]
@[go_sem high] theorem seq_enc3 (x y z : D) : seqPV 4 0 [(0, AV.pv (enc x)), (1, AV.pv (enc y)), (2, AV.pv (enc z))] = some [enc x, enc y, enc z] := by simp [seqPV, toPV, atomToPV, nrm_enc, enc_cells]
section
variable {pre l : List D} {h : D → D} {k : Nat} {x : D}
end
section
variable {lab nm : D → D} {bare : Bool} {d : D} (h1 : (d.kind == 1) = false) (h2 : (d.kind == 2) = false)
include h1 h2
end
/-! ### where the labels stand -/
section
variable {σ : Store} {fl : FuncId} {ps ps' : List (D × Int)}
end
section
variable {σ : Store} {fc fl fn : FuncId} {ps : List (D × Int)} {bare : Bool}
end
end Go.Aw

namespace Go.Aw
open Go
def sumTo (f : D → Nat) (l : List D) (k : Nat) : Nat := ((l.take k).map f).sum
theorem sumTo_zero {f : D → Nat} {l : List D} : sumTo f l 0 = 0 := by simp [sumTo]
theorem sumTo_next {f : D → Nat} {l : List D} {k : Nat} {x : D} (h : l[k]? = some x) : sumTo f l (k + 1) = sumTo f l k + f x := by unfold sumTo; rw [take_next h]; simp
theorem sumTo_all {f : D → Nat} {l : List D} : sumTo f l l.length = (l.map f).sum := by unfold sumTo; rw [List.take_length]
theorem sum_le {f : D → Nat} : ∀ {l : List D}, (∀ x, x ∈ l → f x ≤ x.size) → (l.map f).sum ≤ D.sizes l
 | [], _ => by simp [D.sizes]
 | x :: l, h => by
  have h1 := h x (by simp)
  have h2 := sum_le (l := l) (fun y hy => h y (by simp [hy]))
  simp only [List.map_cons, List.sum_cons, D.sizes]; omega
theorem sumTo_le {f : D → Nat} {l : List D} {k : Nat} (h : ∀ x, x ∈ l → f x ≤ x.size) : sumTo f l k ≤ D.sizes l := by
 have h1 := sum_le (l := l.take k) (fun x hx => h x (List.mem_of_mem_take hx))
 have h2 := sizes_append (l.take k) (l.drop k)
 rw [List.take_append_drop] at h2
 unfold sumTo; omega
/-- The number of expressions of a definition. -/
def bsize (d : D) : Nat := fsize (d2 d.kids)
def fSize (p : D) : Int × Int := if (fcheck p != 0) = true then (0, fcheck p) else (((p.kids.map bsize).sum : Nat), 0)
end Go.Aw

namespace Go.Aw
open Go
section
variable {σ : Store} {e : TypeId} {p : D} {l : List D}
end
end Go.Aw

namespace Go.Aw
open Go
/-! ### a program and itself -/
theorem isSym_es (lt : Int → Bool) : isSym lt es = false := rfl
theorem formed_num {d : D} (h : formed d = true) (hk : d.kind = 1) : d.text = es ∧ d.kids = [] := by
 rw [formed_eq, if_pos (by rw [hk]; rfl)] at h
 simp only [Bool.and_eq_true, beq_iff_eq, decide_eq_true_eq] at h
 exact ⟨h.1, List.eq_nil_of_length_eq_zero (by omega)⟩
theorem formed_sym {d : D} (h : formed d = true) (hk : d.kind = 2) : d.num = 0 ∧ d.kids = [] ∧ isSym isAtom d.text = true := by
 rw [formed_eq, if_neg (by rw [hk]; decide), if_pos (by rw [hk]; rfl)] at h
 simp only [Bool.and_eq_true, beq_iff_eq] at h
 exact ⟨h.1.1, List.eq_nil_of_length_eq_zero (by omega), h.2⟩
theorem isLabel_kind {d : D} (h : isLabel d = true) : d.kind = 1 ∨ d.kind = 2 := by
 unfold isLabel isName at h
 split at h
 ·rename_i h1; exact .inl (by simpa using h1)
 ·simp only [Bool.and_eq_true, beq_iff_eq] at h; exact .inr h.1
theorem D.ext' {a b : D} (h1 : a.kind = b.kind) (h2 : a.num = b.num) (h3 : a.text = b.text) (h4 : a.kids = b.kids) : a = b := by
 cases a; cases b; simp only [D.kind, D.num, D.text, D.kids] at *; subst h1 h2 h3 h4; rfl
/-- Labels with one key are one label. -/
theorem label_eq {a b : D} (ha : isLabel a = true) (hb : isLabel b = true) (fa : formed a = true) (fb : formed b = true) (h : kq a b = true) : a = b := by
 obtain ⟨hn, ht⟩ := kq_iff.1 h
 rcases isLabel_kind ha with ka | ka <;> rcases isLabel_kind hb with kb | kb
 ·exact D.ext' (ka.trans kb.symm) hn ht ((formed_num fa ka).2.trans (formed_num fb kb).2.symm)
 ·have h1 := (formed_num fa ka).1
  have h2 := (formed_sym fb kb).2.2
  rw [← ht, h1, isSym_es] at h2; cases h2
 ·have h1 := (formed_num fb kb).1
  have h2 := (formed_sym fa ka).2.2
  rw [ht, h1, isSym_es] at h2; cases h2
 ·exact D.ext' (ka.trans kb.symm) hn ht ((formed_sym fa ka).2.1.trans (formed_sym fb kb).2.1.symm)

section
variable {p d : D} (R : Right p)
include R
theorem Right.label (hd : d ∈ p.kids) : isLabel d.head = true ∧ Aw.formed d.head = true := by
 obtain ⟨x0, x1, x2, ns, hk, _, hl, _⟩ := R.def hd
 rw [head_cons hk]
 exact ⟨hl, formed_kids (formed_kids R.formed hd) (by rw [hk]; simp)⟩
/-- A right program's definition by its label. -/
theorem Right.found {f : D} (hf : isLabel f = true) (ff : Aw.formed f = true) : (findD p.kids f).2 = (p.kids.find? fun d => kq f d.head).isSome ∧ ∀ e, (p.kids.find? fun d => kq f d.head) = some e → (findD p.kids f).1 = e ∧ e.head = f := by
 have h : p.kids.find? (fun d => deq d.head f) = p.kids.find? fun d => kq f d.head := by
  have key : ∀ l : List D, (∀ d, d ∈ l → d ∈ p.kids) → l.find? (fun d => deq d.head f) = l.find? fun d => kq f d.head := by
   intro l
   induction l with
   | nil => intro _; rfl
   | cons y l ih =>
    intro hl
    have hy := R.label (hl y (by simp))
    have e : deq y.head f = kq f y.head := by
     cases hk : kq f y.head with
     | true => rw [label_eq hf hy.1 ff hy.2 hk, deq_refl]
     | false =>
      cases hq : deq y.head f with
      | false => rfl
      | true => rw [deq_of hq, kq_refl] at hk; cases hk
    rw [List.find?_cons, List.find?_cons, e, ih (fun d hd => hl d (by simp [hd]))]
  exact key _ (fun _ h => h)
 unfold findD
 rw [h]
 cases he : p.kids.find? fun d => kq f d.head with
 | none => exact ⟨rfl, fun e h => by cases h⟩
 | some e =>
  refine ⟨rfl, fun e' h => ?_⟩
  cases h
  have h1 : kq f e.head = true := by have := List.find?_some he; simpa using this
  have hy := R.label (List.mem_of_find?_eq_some he)
  exact ⟨rfl, (label_eq hf hy.1 ff hy.2 h1).symm⟩
end
/-! ### heads of a list that is right -/
section
variable {p q : D} (R : Right p) (S : Right q) (hlen : (joinL p q).1.length ≤ 4000) (hchk : dcheck (joinD p q) = 0) (hap : (joinL p q).2 = false)
include R S
include hlen hchk
include hap
end
end Go.Aw

namespace Go.Aw
open Go
end Go.Aw

namespace Go.Aw
open Go
/-! ### the words, written out (no rewriting by unfolding: the decisions' instances follow) -/
theorem letter_tab : (List.range 256).all (fun c => letter (c : Int) == isAtom (c : Int)) = true := by kernel_rfl
theorem letter_atom {c : Nat} (h : c < 256) : letter (c : Int) = isAtom (c : Int) := by
 have := List.all_eq_true.1 letter_tab c (List.mem_range.2 h)
 simpa using this
theorem bt_nat (s : ByteArray) (i : Nat) : ∃ c : Nat, c < 256 ∧ bt s i = (c : Int) := by
 refine ⟨((s.data[((i : Int)).toNat]?).getD 0).toNat, UInt8.toNat_lt _, rfl⟩
theorem isSym_letter (s : ByteArray) : isSym letter s = isSym isAtom s := by
 have h : (fun i => letter (bt s i)) = fun i => isAtom (bt s i) := by
  funext i
  obtain ⟨c, hc, e⟩ := bt_nat s i
  rw [e, letter_atom hc]
 unfold isSym
 rw [h]

/-! ### names -/
def words7 : List ByteArray := [⟨#[113, 117, 111, 116, 101]⟩, ⟨#[105, 102]⟩, ⟨#[102, 110]⟩, ⟨#[108, 101, 116]⟩, ⟨#[114, 101, 99]⟩, ⟨#[115, 101, 113]⟩, ⟨#[117, 112]⟩]
def word (d : D) : ByteArray := if (d.kind != 3 || (d.kids.length : Int) == 0 || d.head.kind != 2) = true then es else d.head.text
def kidsR (d : D) : List D := if decide (word d = es) = true then [] else if decide (word d = sQuote) = true then [] else if decide (word d = sLet) = true then d.kids.drop 2 else if decide (word d = sCall) = true then d.kids.drop 2 else d.kids.drop 1
theorem word_list {d : D} (hk : d.kind = 3) (hn : d.kids ≠ []) (hh : d.head.kind = 2) : word d = d.head.text := by
 have : d.kids.length ≠ 0 := fun e => hn (List.eq_nil_of_length_eq_zero e)
 unfold word
 rw [if_neg]
 rw [hk, hh]
 simp; omega
theorem word_none {d : D} (h : d.kind ≠ 3 ∨ d.kids = [] ∨ d.head.kind ≠ 2) : word d = es := by
 unfold word
 rw [if_pos]
 rcases h with h | h | h
 ·simp [h]
 ·simp [h]
 ·simp [h]

theorem sEs_ne {s : ByteArray} (h : isSym isAtom s = true) : decide (s = es) = false := by
 rw [decide_eq_false_iff_not]
 rintro rfl
 rw [isSym_es] at h; cases h
/-- A number's digits. -/
def itoaB (n : Int) : ByteArray := ⟨(Lib.itoa n).toArray⟩

/-! ### definitions as structs -/
structure Df where
 lab : D
 ps : List ByteArray
 bod : D
def toDf (d : D) : Df := ⟨d0 d.kids, nlist (names (d1 d.kids)), d2 d.kids⟩
def findI (l : List Df) (f : D) : Int := idxOf (fun d => deq d.lab f) l
/-- What is known of labels is what the definitions say. -/
def LP (l : List Df) (ps : List (D × Int)) : Prop := ∀ f, isLabel f = true → formed f = true → kpar ps f = (match l.find? fun d => deq d.lab f with | some d => ((d.ps.length : Int), true) | none => (0, false))
theorem LP.neg {l : List Df} {ps : List (D × Int)} (h : LP l ps) {f : D} (hf : isLabel f = true) (ff : formed f = true) (hn : findI l f < 0) : (kpar ps f).2 = false := by
 rw [h f hf ff, idxOf_neg hn]
end Go.Aw

namespace Go.Aw
open Go
theorem sizes_sum : ∀ l : List D, D.sizes l = (l.map D.size).sum
 | [] => rfl
 | d :: l => by simp [D.sizes, sizes_sum l]
theorem size_sum (d : D) : d.size = 1 + sumTo D.size d.kids d.kids.length := by rw [sumTo_all, D.size_kids, sizes_sum]
theorem deeps_snoc : ∀ (l : List D) (x : D), D.deeps (l ++ [x]) = max (D.deeps l) x.deep
 | [], x => by simp [D.deeps]
 | d :: l, x => by simp only [List.cons_append, D.deeps, deeps_snoc l x]; omega
theorem deep_kids (d : D) : d.deep = 1 + D.deeps d.kids := by cases d; rfl
theorem deeps_next {l : List D} {k : Nat} {x : D} (h : l[k]? = some x) : (if D.deeps (l.take k) < x.deep then ((x.deep : Nat) : Int) else ((D.deeps (l.take k) : Nat) : Int)) = ((D.deeps (l.take (k + 1)) : Nat) : Int) := by
 rw [take_next h, deeps_snoc]
 split <;> omega
section
variable {α : Type} {l : List α} {h : α → D} {k : Nat} {x : α}
end
def GoodE (d : D) : Prop := formed d = true ∧ ∃ (ps : List (D × Int)) (b : List ByteArray), cexpr ps b d = 0
section
variable {d x : D} (h : GoodE d)
include h
theorem GoodE.ok : okE d = true := by obtain ⟨h1, ps, b, h2⟩ := h; exact okE_of d b h2 h1
theorem GoodE.part (hx : x ∈ parts d) : GoodE x := by
 obtain ⟨h1, ps, b, h2⟩ := h
 by_cases hk : d.kind = 3
 ·obtain ⟨b', hb⟩ := cexpr_parts h2 hk x hx
  exact ⟨formed_kids h1 (parts_mem hx), ps, b', hb⟩
 ·rw [parts_nil hk] at hx; simp at hx
theorem GoodE.head (hk : d.kind = 3) : d.head.kind = 2 ∧ d.kids ≠ [] := by
 obtain ⟨h1, ps, b, h2⟩ := h
 have := cexpr_list h2 hk
 exact ⟨this.2.1, this.1⟩
theorem GoodE.word (hk : d.kind = 3) : word d = d.head.text ∧ decide (Aw.word d = es) = false := by
 obtain ⟨hh, hn⟩ := h.head hk
 have hw := word_list hk hn hh
 refine ⟨hw, ?_⟩
 obtain ⟨x0, r, hx⟩ := kids_cons hn
 have hf0 : formed d.head = true := by rw [head_cons hx]; exact formed_kids h.1 (by rw [hx]; simp)
 rw [hw]; exact sEs_ne (formed_sym hf0 hh).2.2
theorem GoodE.kids : kidsR d = parts d := by
 by_cases hk : d.kind = 3
 ·obtain ⟨hw, he⟩ := h.word hk
  unfold kidsR parts
  have e3 : (d.kind != 3) = false := by rw [hk]; rfl
  simp only [he, e3, Bool.false_eq_true, if_false]
  rw [hw]
 ·rw [parts_nil hk]
  unfold kidsR
  rw [if_pos (by rw [word_none (.inl hk)]; rfl)]
theorem GoodE.isCall : decide (Aw.word d = sCall) = Aw.isCall d := by
 unfold Aw.isCall
 by_cases hk : d.kind = 3
 ·rw [(h.word hk).1, hk]; simp
 ·rw [word_none (.inl hk)]
  have : (d.kind == 3) = false := by rw [beq_eq_false_iff_ne]; exact hk
  rw [this]; rfl
/-- What is called is a label. -/
theorem GoodE.label (hc : Aw.isCall d = true) : 2 ≤ d.kids.length ∧ isLabel (d1 d.kids) = true ∧ formed (d1 d.kids) = true := by
 obtain ⟨hk, ht⟩ := isCall_iff.1 hc
 obtain ⟨h1, ps, b, h2⟩ := h
 obtain ⟨_, _, hc⟩ := cexpr_list h2 hk
 rcases hc with ⟨e, _⟩ | ⟨e, _⟩ | ⟨e, _⟩ | ⟨_, hc⟩ | ⟨_, _, _, e, _⟩
 ·rw [ht] at e; exact absurd e sC_ne_Q
 ·rw [ht] at e; exact absurd e.symm sI_ne_C
 ·rw [ht] at e; exact absurd e sC_ne_L
 ·obtain ⟨h3, h4, _⟩ := ccall_zero hc
  refine ⟨h3, h4, formed_kids h1 ?_⟩
  obtain ⟨x1, hx1, hm⟩ := get_lt (l := d.kids) (k := 1) (by omega)
  rw [show d1 d.kids = x1 from getD_of hx1]; exact hm
 ·exact absurd ht e
end
theorem Right.good {p d : D} (R : Right p) (hd : d ∈ p.kids) : GoodE (d2 d.kids) := ⟨R.bodyF hd, _, _, R.body hd⟩

/-! ### the expressions in one, in order -/
mutual
def exprsL : D → List D
 | .mk k n t l => .mk k n t l :: exprsLs (pdrop (.mk k n t l)) l
def exprsLs : Nat → List D → List D
 | _, [] => []
 | 0, x :: l => exprsL x ++ exprsLs 0 l
 | i + 1, _ :: l => exprsLs i l
end
theorem exprsLs_drop : ∀ (i : Nat) (l : List D), exprsLs i l = (l.drop i).flatMap exprsL
 | 0, [] => rfl
 | i + 1, [] => rfl
 | 0, x :: l => by rw [exprsLs, exprsLs_drop 0 l]; rfl
 | i + 1, x :: l => by rw [exprsLs, exprsLs_drop i l]; rfl
theorem exprsL_eq (d : D) : exprsL d = d :: (parts d).flatMap exprsL := by
 rw [parts_drop]
 cases d
 rw [exprsL, exprsLs_drop]
 rfl
end Go.Aw
namespace Go.Aw
open Go
section
variable {σ : Store} {k n m : Nat} {e : TypeId} {sz : Nat}
end
end Go.Aw
namespace Go.Aw
open Go
end Go.Aw

namespace Go.Aw
open Go
/-! ### digits -/
def dval (l : List UInt8) : Nat := l.foldl (fun a c => a * 10 + (c.toNat - 48)) 0
theorem digit_nat {n : Nat} (h : n < 10) : (UInt8.ofNat (48 + n)).toNat = 48 + n := by
 rw [UInt8.toNat_ofNat']; omega
theorem dval_dec : ∀ u : Nat, dval (Lib.decDigits u) = u := by
 intro u
 induction u using Nat.strongRecOn with
 | _ u ih =>
  rw [Lib.decDigits]
  split
  ·rename_i h
   simp only [dval, List.foldl_cons, List.foldl_nil, digit_nat h]; omega
  ·rename_i h
   have := ih (u / 10) (by omega)
   simp only [dval] at this ⊢
   rw [List.foldl_append, this]
   simp only [List.foldl_cons, List.foldl_nil, digit_nat (Nat.mod_lt u (by omega : 10 > 0))]
   omega
theorem itoa_nat {n : Int} (h : 0 ≤ n) : Lib.itoa n = Lib.decDigits n.toNat := by unfold Lib.itoa; rw [if_neg (by omega)]
theorem itoaB_inj {n m : Int} (hn : 0 ≤ n) (hm : 0 ≤ m) (h : itoaB n = itoaB m) : n = m := by
 unfold itoaB at h
 have h1 : Lib.itoa n = Lib.itoa m := by
  have := congrArg (fun b : ByteArray => b.data.toList) h
  simpa using this
 rw [itoa_nat hn, itoa_nat hm] at h1
 have h2 := congrArg dval h1
 rw [dval_dec, dval_dec] at h2
 omega
section
variable {ty : TyT} {s : St} {t kt et : TypeId} {ti te tk : TyI} {o : Nat} {ps : List (D × Int)}
end
section
variable {σ : Store} {ps ps' : List (D × Int)} {e : TypeId} {n m : Nat}
end
/-! ### the definitions -/
def rdefs (p : D) : List Df := if (fcheck p != 0) = true then [] else p.kids.map toDf
end Go.Aw
namespace Go.Aw
open Go
end Go.Aw

namespace Go.Aw
open Go
def sFn : ByteArray := ⟨#[102, 110]⟩
def sApp : ByteArray := ⟨#[97, 112, 112]⟩
def sSay : ByteArray := ⟨#[115, 97, 121]⟩
def sLift : ByteArray := ⟨#[108, 105, 102, 116]⟩
def sRun : ByteArray := ⟨#[114, 117, 110]⟩
/-- How many names a word binds, and how long its list is. -/
def shapeL : List (ByteArray × (Nat × Nat)) := [(sQuote, 0, 2), (sFn, 2, 4), (sLet, 1, 4), (sIf, 0, 4), (sApp, 0, 3), (sSay, 0, 2), (sLift, 0, 2), (sRun, 0, 3)]
def shp (s : ByteArray) : Option (Nat × Nat) := (shapeL.find? fun p => decide (p.1 = s)).map (·.2)
def shN (s : ByteArray) : Nat := ((shp s).map (·.1)).getD 0

/-- A name. -/
def mName (d : D) : Bool := d.kind == 2 && !(words7.any fun w => decide (w = d.text))
/-- The terms in a term. -/
def idrop (d : D) : Nat := if (d.kind != 3) = true then d.kids.length else if decide (d.head.text = sQuote) = true then d.kids.length else 1 + shN d.head.text
def inner (d : D) : List D := d.kids.drop (idrop d)
theorem inner_eq (d : D) : inner d = if (d.kind != 3) = true then [] else if decide (d.head.text = sQuote) = true then [] else d.kids.drop (1 + shN d.head.text) := by
 unfold inner idrop
 split
 ·simp
 ·split
  ·simp
  ·rfl
theorem inner_mem {d x : D} (h : x ∈ inner d) : x ∈ d.kids := List.mem_of_mem_drop h
mutual
/-- What is wrong with a term. -/
def mchk : D → Int
 | .mk k n t l =>
  if (k == 1 || mName (.mk k n t l)) = true then 0 else
  if (k != 3 || (l.length : Int) == 0 || (l.headD dnone).kind != 2) = true then 4 else
  match shp (l.headD dnone).text with
  | some (nm, sz) => if ((l.length : Int) != sz || ((l.drop 1).take nm).any fun x => !mName x) = true then 4 else mchks (idrop (.mk k n t l)) l
  | none => if (!(arity (l.headD dnone).text).2) = true then 4 else if ((arity (l.headD dnone).text).1 != (l.length : Int) - 1) = true then 11 else mchks (idrop (.mk k n t l)) l
def mchks : Nat → List D → Int
 | _, [] => 0
 | 0, x :: l => if (mchk x != 0) = true then mchk x else mchks 0 l
 | i + 1, _ :: l => mchks i l
end
def mchkL (l : List D) : Int := mchks 0 l
theorem mchks_drop : ∀ (i : Nat) (l : List D), mchks i l = mchkL (l.drop i)
 | 0, l => rfl
 | i + 1, [] => by simp [mchks, mchkL]
 | i + 1, x :: l => by rw [mchks, mchks_drop i l]; rfl
theorem mchkL_cons (x : D) (l : List D) : mchkL (x :: l) = if (mchk x != 0) = true then mchk x else mchkL l := rfl
theorem mchkL_zero {l : List D} : mchkL l = 0 ↔ ∀ x, x ∈ l → mchk x = 0 := by
 induction l with
 | nil => simp [mchkL, mchks]
 | cons x l ih =>
  rw [mchkL_cons]
  by_cases h : (mchk x != 0) = true
  ·rw [if_pos h]
   simp at h
   exact ⟨fun e => absurd e h, fun e => absurd (e x (by simp)) h⟩
  ·rw [if_neg h, ih]
   simp at h
   simp [h]
theorem mchk_eq (d : D) : mchk d = if (d.kind == 1 || mName d) = true then 0 else
  if (d.kind != 3 || (d.kids.length : Int) == 0 || d.head.kind != 2) = true then 4 else
  match shp d.head.text with
  | some (nm, sz) => if ((d.kids.length : Int) != sz || ((d.kids.drop 1).take nm).any fun x => !mName x) = true then 4 else mchkL (inner d)
  | none => if (!(arity d.head.text).2) = true then 4 else if ((arity d.head.text).1 != (d.kids.length : Int) - 1) = true then 11 else mchkL (inner d) := by
 unfold inner
 rw [← mchks_drop]
 cases d
 rw [mchk]
 rfl
end Go.Aw
namespace Go.Aw
open Go
/-! ### both say the same -/
theorem shp_cases (s : ByteArray) : (s = sQuote ∧ shp s = some (0, 2)) ∨ (s = sFn ∧ shp s = some (2, 4)) ∨ (s = sLet ∧ shp s = some (1, 4)) ∨ (s = sIf ∧ shp s = some (0, 4)) ∨ (s = sApp ∧ shp s = some (0, 3)) ∨ (s = sSay ∧ shp s = some (0, 2)) ∨ (s = sLift ∧ shp s = some (0, 2)) ∨ (s = sRun ∧ shp s = some (0, 3)) ∨
  (shp s = none ∧ s ≠ sQuote ∧ s ≠ sFn ∧ s ≠ sLet ∧ s ≠ sIf ∧ s ≠ sApp ∧ s ≠ sSay ∧ s ≠ sLift ∧ s ≠ sRun) := by
 by_cases h1 : s = sQuote
 ·subst h1; exact .inl ⟨rfl, rfl⟩
 by_cases h2 : s = sFn
 ·subst h2; exact .inr (.inl ⟨rfl, rfl⟩)
 by_cases h3 : s = sLet
 ·subst h3; exact .inr (.inr (.inl ⟨rfl, rfl⟩))
 by_cases h4 : s = sIf
 ·subst h4; exact .inr (.inr (.inr (.inl ⟨rfl, rfl⟩)))
 by_cases h5 : s = sApp
 ·subst h5; exact .inr (.inr (.inr (.inr (.inl ⟨rfl, rfl⟩))))
 by_cases h6 : s = sSay
 ·subst h6; exact .inr (.inr (.inr (.inr (.inr (.inl ⟨rfl, rfl⟩)))))
 by_cases h7 : s = sLift
 ·subst h7; exact .inr (.inr (.inr (.inr (.inr (.inr (.inl ⟨rfl, rfl⟩))))))
 by_cases h8 : s = sRun
 ·subst h8; exact .inr (.inr (.inr (.inr (.inr (.inr (.inr (.inl ⟨rfl, rfl⟩)))))))
 ·refine .inr (.inr (.inr (.inr (.inr (.inr (.inr (.inr ⟨?_, h1, h2, h3, h4, h5, h6, h7, h8⟩)))))))
  unfold shp shapeL
  simp only [List.find?_cons, List.find?_nil, decide_eq_false (Ne.symm h1), decide_eq_false (Ne.symm h2), decide_eq_false (Ne.symm h3), decide_eq_false (Ne.symm h4), decide_eq_false (Ne.symm h5), decide_eq_false (Ne.symm h6), decide_eq_false (Ne.symm h7), decide_eq_false (Ne.symm h8)]
  rfl
end Go.Aw
namespace Go.Aw
open Go
theorem shN_of {s : ByteArray} {a b : Nat} (h : shp s = some (a, b)) : shN s = a := by unfold shN; rw [h]; rfl
theorem shN_none {s : ByteArray} (h : shp s = none) : shN s = 0 := by unfold shN; rw [h]; rfl
theorem inner_none {d : D} (h : d.kind ≠ 3) : inner d = [] := by
 unfold inner idrop
 rw [if_pos (by simpa using h), List.drop_length]
theorem take1 {l : List D} (h : l.length = 4) : (l.drop 1).take 1 = [d1 l] := by
 match l, h with
 | [a, b, c, e], _ => rfl
theorem take2 {l : List D} (h : l.length = 4) : (l.drop 1).take 2 = [d1 l, d2 l] := by
 match l, h with
 | [a, b, c, e], _ => rfl
structure GoodM (d : D) : Prop where
 formed : formed d = true
 ok : mchk d = 0
/-- What a list that is a term begins with. -/
inductive MShape (d : D) : Prop where
 | quote (h : d.head.text = sQuote) (x : D) (hk : d.kids = [d.head, x]) (hi : inner d = [])
 | fn (h : d.head.text = sFn) (f x b : D) (hk : d.kids = [d.head, f, x, b]) (hi : inner d = [b]) (hf : mName f = true) (hx : mName x = true)
 | lett (h : d.head.text = sLet) (x a b : D) (hk : d.kids = [d.head, x, a, b]) (hi : inner d = [a, b]) (hx : mName x = true)
 | op (h : d.head.text = sIf ∨ d.head.text = sApp ∨ d.head.text = sSay ∨ d.head.text = sLift ∨ d.head.text = sRun ∨ shp d.head.text = none ∧ (arity d.head.text).2 = true) (hk : d.kids = d.head :: inner d) (hq : d.head.text ≠ sQuote) (hf : d.head.text ≠ sFn) (hl : d.head.text ≠ sLet)
   (hn : ((inner d).length : Int) = if d.head.text = sIf then 3 else if d.head.text = sApp ∨ d.head.text = sRun then 2 else if d.head.text = sSay ∨ d.head.text = sLift then 1 else (arity d.head.text).1)
section
variable {d x : D} (h : GoodM d)
include h
theorem GoodM.kind : d.kind = 1 ∨ (d.kind = 2 ∧ mName d = true) ∨ d.kind = 3 := by
 rcases formed_kind h.formed with hk | hk | hk
 ·exact .inl hk
 ·refine .inr (.inl ⟨hk, ?_⟩)
  have := h.ok
  rw [mchk_eq] at this
  cases hm : mName d with
  | true => rfl
  | false =>
   rw [hm, if_neg (by rw [hk]; decide), if_pos (by rw [hk]; rfl)] at this; cases this
 ·exact .inr (.inr hk)
theorem GoodM.list (hk : d.kind = 3) : d.kids ≠ [] ∧ d.head.kind = 2 ∧ Aw.formed d.head = true ∧ mchkL (inner d) = 0 ∧ MShape d := by
 have h0 := h.ok
 have k1 : (d.kind == 1) = false := by rw [hk]; rfl
 have k2 : (d.kind == 2) = false := by rw [hk]; rfl
 have km : mName d = false := by unfold mName; rw [k2]; rfl
 rw [mchk_eq, k1, km, if_neg (by decide)] at h0
 by_cases hb : (d.kind != 3 || (d.kids.length : Int) == 0 || d.head.kind != 2) = true
 ·rw [if_pos hb] at h0; cases h0
 rw [if_neg hb] at h0
 simp only [Bool.or_eq_true, beq_iff_eq, bne_iff_ne, not_or, Decidable.not_not] at hb
 have hn : d.kids ≠ [] := fun e => hb.1.2 (by rw [e]; rfl)
 obtain ⟨x0, r, hx⟩ := kids_cons hn
 have hh := head_cons hx
 have hf0 : Aw.formed d.head = true := by rw [hh]; exact formed_kids h.formed (by rw [hx]; simp)
 have hi : inner d = if decide (d.head.text = sQuote) = true then [] else d.kids.drop (1 + shN d.head.text) := by
  rw [inner_eq, if_neg (show ¬ (d.kind != 3) = true by rw [hk]; decide)]
 have hop : ∀ sz : Nat, shp d.head.text = some (0, sz) → d.head.text ≠ sQuote → inner d = r ∧ (((d.kids.length : Int) != sz) = true → False) ∧ mchkL (inner d) = 0 := by
  intro sz s hq
  rw [s] at h0
  simp only at h0
  split at h0
  ·cases h0
  ·rename_i hc
   simp only [Bool.or_eq_true, not_or] at hc
   exact ⟨by rw [hi, if_neg (by simpa using hq), shN_of s, hx]; rfl, fun e => hc.1 e, h0⟩
 have hop2 : ∀ sz : Nat, shp d.head.text = some (0, sz) → d.head.text ≠ sQuote → d.kids = d.head :: inner d ∧ ((inner d).length : Int) = sz - 1 ∧ mchkL (inner d) = 0 := by
  intro sz s hq
  obtain ⟨e1, e2, e3⟩ := hop sz s hq
  have e4 : (d.kids.length : Int) = sz := by
   refine Decidable.byContradiction fun e => e2 ?_
   simpa using e
  rw [hx] at e4
  refine ⟨by rw [hh, e1, hx], ?_, e3⟩
  rw [e1]
  simp only [List.length_cons] at e4
  omega
 refine ⟨hn, hb.2, hf0, ?_⟩
 rcases shp_cases d.head.text with ⟨e, s⟩ | ⟨e, s⟩ | ⟨e, s⟩ | ⟨e, s⟩ | ⟨e, s⟩ | ⟨e, s⟩ | ⟨e, s⟩ | ⟨e, s⟩ | ⟨s, n1, n2, n3, n4, n5, n6, n7, n8⟩
 ·rw [s] at h0
  simp only [List.take_zero, List.any_nil, Bool.or_false] at h0
  have hi0 : inner d = [] := by rw [hi, if_pos (by simpa using e)]
  refine ⟨by rw [hi0]; rfl, ?_⟩
  split at h0
  ·cases h0
  ·rename_i hc
   have hl : d.kids.length = 2 := by simp at hc; omega
   rw [hx] at hl
   match r, hl, hx with
   | [y], _, hx => exact .quote e y (by rw [hh]; exact hx) hi0
 ·rw [s] at h0
  simp only at h0
  split at h0
  ·cases h0
  ·rename_i hc
   simp only [Bool.or_eq_true, not_or, bne_iff_ne, Decidable.not_not] at hc
   have hl : d.kids.length = 4 := by omega
   rw [take2 hl] at hc
   simp only [List.any_cons, List.any_nil, Bool.or_false, Bool.or_eq_true, Bool.not_eq_true', not_or, Bool.not_eq_false] at hc
   refine ⟨h0, ?_⟩
   rw [hx] at hl
   match r, hl, hx with
   | [f, x, b], _, hx =>
    have e1 : d1 d.kids = f := by rw [hx]; rfl
    have e2 : d2 d.kids = x := by rw [hx]; rfl
    rw [e1, e2] at hc
    exact .fn e f x b (by rw [hh]; exact hx) (by rw [hi, if_neg (by rw [e]; decide), shN_of s, hx]; rfl) hc.2.1 hc.2.2
 ·rw [s] at h0
  simp only at h0
  split at h0
  ·cases h0
  ·rename_i hc
   simp only [Bool.or_eq_true, not_or, bne_iff_ne, Decidable.not_not] at hc
   have hl : d.kids.length = 4 := by omega
   rw [take1 hl] at hc
   simp only [List.any_cons, List.any_nil, Bool.or_false, Bool.not_eq_true', Bool.not_eq_false] at hc
   refine ⟨h0, ?_⟩
   rw [hx] at hl
   match r, hl, hx with
   | [x, a, b], _, hx =>
    have e1 : d1 d.kids = x := by rw [hx]; rfl
    rw [e1] at hc
    exact .lett e x a b (by rw [hh]; exact hx) (by rw [hi, if_neg (by rw [e]; decide), shN_of s, hx]; rfl) hc.2
 ·obtain ⟨e1, e2, e3⟩ := hop2 4 s (by rw [e]; decide)
  exact ⟨e3, .op (.inl e) e1 (by rw [e]; decide) (by rw [e]; decide) (by rw [e]; decide) (by rw [e2, if_pos e]; rfl)⟩
 ·obtain ⟨e1, e2, e3⟩ := hop2 3 s (by rw [e]; decide)
  exact ⟨e3, .op (.inr (.inl e)) e1 (by rw [e]; decide) (by rw [e]; decide) (by rw [e]; decide) (by rw [e2, if_neg (by rw [e]; decide), if_pos (.inl e)]; rfl)⟩
 ·obtain ⟨e1, e2, e3⟩ := hop2 2 s (by rw [e]; decide)
  exact ⟨e3, .op (.inr (.inr (.inl e))) e1 (by rw [e]; decide) (by rw [e]; decide) (by rw [e]; decide) (by rw [e2, if_neg (by rw [e]; decide), if_neg (by rw [e]; decide), if_pos (.inl e)]; rfl)⟩
 ·obtain ⟨e1, e2, e3⟩ := hop2 2 s (by rw [e]; decide)
  exact ⟨e3, .op (.inr (.inr (.inr (.inl e)))) e1 (by rw [e]; decide) (by rw [e]; decide) (by rw [e]; decide) (by rw [e2, if_neg (by rw [e]; decide), if_neg (by rw [e]; decide), if_pos (.inr e)]; rfl)⟩
 ·obtain ⟨e1, e2, e3⟩ := hop2 3 s (by rw [e]; decide)
  exact ⟨e3, .op (.inr (.inr (.inr (.inr (.inl e))))) e1 (by rw [e]; decide) (by rw [e]; decide) (by rw [e]; decide) (by rw [e2, if_neg (by rw [e]; decide), if_pos (.inr e)]; rfl)⟩
 ·rw [s] at h0
  simp only at h0
  split at h0
  ·cases h0
  ·rename_i ha
   split at h0
   ·cases h0
   ·rename_i hb2
    have e1 : inner d = r := by rw [hi, if_neg (by simpa using n1), shN_none s, hx]; rfl
    simp only [Bool.not_eq_true', Bool.not_eq_false] at ha
    simp only [bne_iff_ne, Decidable.not_not] at hb2
    refine ⟨h0, .op (.inr (.inr (.inr (.inr (.inr ⟨s, ha⟩))))) (by rw [hh, e1, hx]) n1 n2 n3 ?_⟩
    rw [if_neg n4, if_neg (by simp [n5, n8]), if_neg (by simp [n6, n7]), hb2, e1, hx]
    simp
theorem GoodM.part (hx : x ∈ inner d) : GoodM x := by
 refine ⟨formed_kids h.formed (inner_mem hx), ?_⟩
 by_cases hk : d.kind = 3
 ·exact mchkL_zero.1 (h.list hk).2.2.2.1 x hx
 ·rw [inner_none hk] at hx; simp at hx
end
end Go.Aw

namespace Go.Aw
open Go
theorem kfind_strs {α : Type} (x : ByteArray) : ∀ l : List (ByteArray × α), kfind (.str x) (l.map fun p => .str p.1) = l.findIdx? fun p => decide (p.1 = x)
 | [] => rfl
 | p :: l => by
  have hk : (PV.str x).keq (.str p.1) = decide (p.1 = x) := by simp [PV.keq, pvAtomEq, eq_comm]
  simp only [List.map_cons, kfind, List.findIdx?_cons, hk, kfind_strs x l]
end Go.Aw

namespace Go.Aw
open Go
/-- Begins with a word. -/
def isW (d : D) (w : ByteArray) : Bool := d.kind == 3 && decide (d.head.text = w)
end Go.Aw

namespace Go.Aw
open Go
end Go.Aw

namespace Go.Aw
open Go
section
variable {p d : D} (R : Right p)
include R
theorem Right.no : (fcheck p != 0) = false := by rw [R.chk]; rfl
theorem Right.rdefs : rdefs p = p.kids.map toDf := by unfold Aw.rdefs; rw [if_neg (by rw [R.no]; decide)]
theorem Right.len : (Aw.rdefs p).length ≤ 4000 := by rw [R.rdefs, List.length_map]; exact (heads_ok R.heads).2.2.2.1
theorem Right.size : (fSize p).1 = ((((Aw.rdefs p).map fun d => fsize d.bod).sum : Nat) : Int) := by
 unfold fSize
 rw [if_neg (by rw [R.no]; decide), R.rdefs, List.map_map]
 rfl
end
end Go.Aw

namespace Go.Aw
open Go
theorem deq_kq {a b : D} (ha : isLabel a = true) (hb : isLabel b = true) (fa : formed a = true) (fb : formed b = true) : deq a b = kq b a := by
 cases hq : kq b a with
 | true => rw [label_eq hb ha fb fa hq, deq_refl]
 | false =>
  cases hd : deq a b with
  | false => rfl
  | true => rw [deq_of hd, kq_refl] at hq; cases hq

/-! ### calls -/
def cstep (out : List D) (e : D) : List D := if (isCall e && !(out.any fun y => deq y (d1 e.kids))) = true then out ++ [d1 e.kids] else out
structure CI (st : CS) : Prop where
 lab : ∀ y, y ∈ st.1 → isLabel y = true ∧ formed y = true
 seen : ∀ f, isLabel f = true → formed f = true → seenB st.2 f = st.1.any fun y => deq y f
theorem callStep_ci {d : D} (hg : GoodE d) {st : CS} (h : CI st) : (callStep d st).1 = cstep st.1 d ∧ CI (callStep d st) := by
 unfold callStep cstep
 cases hc : isCall d with
 | false => simp only [Bool.false_and, Bool.false_eq_true, if_false]; exact ⟨trivial, h⟩
 | true =>
  obtain ⟨_, hl, hf⟩ := hg.label hc
  rw [h.seen _ hl hf]
  cases hs : st.1.any fun y => deq y (d1 d.kids) with
  | true => simp only [Bool.not_true, Bool.and_false, Bool.false_eq_true, if_false]; exact ⟨trivial, h⟩
  | false =>
   simp only [Bool.not_false, Bool.and_self, if_true]
   refine ⟨trivial, ⟨fun y hy => ?_, fun f h1 h2 => ?_⟩⟩
   ·simp only [List.mem_append, List.mem_singleton] at hy
    rcases hy with hy | rfl
    ·exact h.lab y hy
    ·exact ⟨hl, hf⟩
   ·rw [seenB_kset, h.seen f h1 h2, List.any_append]
    simp only [List.any_cons, List.any_nil, Bool.or_false]
    rw [deq_kq hl h1 hf h2, Bool.or_comm]
theorem calls_fold : ∀ {d : D} {st : CS}, GoodE d → CI st → (callsD d st).1 = (exprsL d).foldl cstep st.1 ∧ CI (callsD d st) := by
 intro d
 induction d using D.ind with
 | _ k n t l ih =>
  intro st hg hc
  have hf : ∀ (r : List D) (st : CS), (∀ x, x ∈ r → x ∈ parts (.mk k n t l)) → CI st → (r.foldl (fun st x => callsD x st) st).1 = (r.flatMap exprsL).foldl cstep st.1 ∧ CI (r.foldl (fun st x => callsD x st) st) := by
   intro r
   induction r with
   | nil => intro st _ h; exact ⟨rfl, h⟩
   | cons x r ihr =>
    intro st hm h
    have h1 := ih x (parts_mem (hm x (by simp))) (st := st) (hg.part (hm x (by simp))) h
    have h2 := ihr (callsD x st) (fun y hy => hm y (by simp [hy])) h1.2
    rw [List.foldl_cons, List.flatMap_cons, List.foldl_append, ← h1.1]
    exact h2
  have h1 := callStep_ci hg hc
  have h2 := hf (parts (.mk k n t l)) (callStep (.mk k n t l) st) (fun _ h => h) h1.2
  rw [callsD_eq, exprsL_eq, List.foldl_cons, ← h1.1]
  exact h2
theorem ci_nil : CI ([], []) := ⟨fun y hy => by simp at hy, fun f _ _ => rfl⟩
theorem callsOf_lab {d : D} (hg : GoodE d) : ∀ y, y ∈ callsOf d → isLabel y = true ∧ formed y = true := (calls_fold hg ci_nil).2.lab
section
variable {p x : D} (R : Right p)
include R
end
end Go.Aw
namespace Go.Aw
open Go
section
variable {p y0 : D} (R : Right p)
include R
end
end Go.Aw

namespace Go.Aw
open Go
section
variable {p f : D}
variable (R : Right p)
include R
end
end Go.Aw

namespace Go.Aw
open Go
/-! ### the index of a label -/
end Go.Aw

namespace Go.Aw
open Go
/-! ### definitions as data are themselves -/
section
variable {p d : D} (R : Right p)
include R
end
section
variable {p q x : D} {k : Nat} (R : Right p) (S : Right q)
end
end Go.Aw
namespace Go.Aw
open Go
end Go.Aw

namespace Go.Aw
open Go
/-! ### what is reached is closed under calls -/
theorem reachStep_prefix {m : List (D × D)} {st : CS} {f : D} : st.1 <+: (reachStep m st f).1 := by
 unfold reachStep; split
 ·exact List.prefix_append _ _
 ·exact List.prefix_refl _
theorem fold_prefix {m : List (D × D)} : ∀ (fs : List D) (st : CS), st.1 <+: (fs.foldl (reachStep m) st).1
 | [], st => List.prefix_refl _
 | f :: fs, st => by rw [List.foldl_cons]; exact reachStep_prefix.trans (fold_prefix fs _)
theorem rst_prefix1 (p : D) (k : Nat) : (rst p k).1 <+: (rst p (k + 1)).1 := by
 cases h : (rst p k).1[k]? with
 | none =>
  have : rst p (k + 1) = rst p k := by
   unfold rst at h ⊢
   rw [rstK, h]
  rw [this]; exact List.prefix_refl _
 | some x => rw [rst_next h]; exact fold_prefix _ _
theorem rst_prefix (p : D) (k : Nat) : ∀ j, (rst p k).1 <+: (rst p (k + j)).1
 | 0 => List.prefix_refl _
 | j + 1 => (rst_prefix p k j).trans (rst_prefix1 p (k + j))
theorem reachStep_seen {m : List (D × D)} {st : CS} {f g : D} (h : seenB st.2 g = true) : seenB (reachStep m st f).2 g = true := by
 unfold reachStep; split
 ·show seenB (kset st.2 f true) g = true
  rw [seenB_kset, h, Bool.or_true]
 ·exact h
theorem fold_seen {m : List (D × D)} : ∀ (fs : List D) (st : CS) (g : D), seenB st.2 g = true → seenB (fs.foldl (reachStep m) st).2 g = true
 | [], st, g, h => h
 | f :: fs, st, g, h => by rw [List.foldl_cons]; exact fold_seen fs _ g (reachStep_seen h)
theorem fold_sees {m : List (D × D)} : ∀ (fs : List D) (st : CS) (g : D), g ∈ fs → seenB (fs.foldl (reachStep m) st).2 g = true
 | [], st, g, h => by simp at h
 | f :: fs, st, g, h => by
  rw [List.foldl_cons]
  rcases List.mem_cons.1 h with rfl | h
  ·refine fold_seen fs _ g ?_
   unfold reachStep
   split
   ·show seenB (kset st.2 g true) g = true
    rw [seenB_kset, kq_refl, Bool.true_or]
   ·rename_i hs; simpa using hs
  ·exact fold_sees fs _ g h
section
variable {p x f : D} (R : Right p)
include R
theorem Right.closed (hx : x ∈ reach p) (hf : f ∈ callsOf (d2 x.kids)) : ∃ e, e ∈ reach p ∧ kq f e.head = true := by
 obtain ⟨k, hk, hxk⟩ := List.getElem_of_mem hx
 have hlen : (reach p).length ≤ p.kids.length := (rst_inv R _).len
 have hx' : (reach p)[k]? = some x := by rw [List.getElem?_eq_getElem hk, hxk]
 have hkn : k + (p.kids.length - k) = p.kids.length := by omega
 have hlt : k < (rst p k).1.length := by
  refine Decidable.byContradiction fun h => ?_
  have := reach_done (p := p) (k := k) (by omega) (by omega)
  rw [this] at hk; omega
 have hpre := rst_prefix p k (p.kids.length - k)
 rw [hkn] at hpre
 have hxr : (rst p k).1[k]? = some x := by
  obtain ⟨t, ht⟩ := hpre
  have : (reach p)[k]? = ((rst p k).1 ++ t)[k]? := by unfold reach; rw [ht]
  rw [this, List.getElem?_append_left hlt] at hx'
  exact hx'
 have hs := fold_sees (m := defsL p.kids) (callsOf (d2 x.kids)) (rst p k) f hf
 rw [← rst_next hxr, (rst_inv R (k + 1)).seen] at hs
 obtain ⟨e, he, hq⟩ := List.any_eq_true.1 hs
 have hkl : k + 1 ≤ p.kids.length := by omega
 have hpre2 := rst_prefix p (k + 1) (p.kids.length - (k + 1))
 rw [show k + 1 + (p.kids.length - (k + 1)) = p.kids.length by omega] at hpre2
 exact ⟨e, hpre2.subset he, hq⟩
end
/-! ### where labels stand -/
section
variable {p x : D} (R : Right p)
include R
end
end Go.Aw
namespace Go.Aw
open Go
section
variable {p : D} (R : Right p)
include R
end
end Go.Aw

namespace Go.Aw
open Go
section
variable {L : D → D} {d : D}
end
/-! ### what is called -/
section
variable {L : D → D} {S : D → Prop} (hS : ∀ f g, S f → S g → kq (L f) (L g) = kq f g)
include hS
end
end Go.Aw

namespace Go.Aw
open Go
/-- A definition with other labels. -/
abbrev rnF (L : D → D) (d : D) : D := rdef L id false d
theorem find_kq {l : List D} {e f : D} (h : Apart l) (he : e ∈ l) (hq : kq f e.head = true) : l.find? (fun d => kq f d.head) = some e := by
 induction l with
 | nil => simp at he
 | cons y l ih =>
  have hl := List.pairwise_cons.1 h
  rw [List.find?_cons]
  rcases List.mem_cons.1 he with rfl | hm
  ·rw [hq]
  ·have : kq f y.head = false := by
    cases hy : kq f y.head with
    | false => rfl
    | true => have := hl.1 e hm; rw [kq_trans (kq_symm hy) hq] at this; cases this
   rw [this]; exact ih hl.2 hm

/-- Definitions of a program, the first one among them, that call none but themselves; renamed, they are among those of another one. -/
structure Renames (p q : D) (L : D → D) (K : List D) : Prop where
 sub : ∀ e, e ∈ K → e ∈ p.kids
 main : p.head ∈ K
 closed : ∀ x f, x ∈ K → f ∈ callsOf (d2 x.kids) → ∃ e, e ∈ K ∧ kq f e.head = true
 inj : ∀ a b, a ∈ K → b ∈ K → kq (L a.head) (L b.head) = kq a.head b.head
 into : ∀ e, e ∈ K → rnF L e ∈ q.kids
 first : q.head = rnF L p.head

section
variable {p q : D} {L : D → D} {K : List D} (R : Right p) (S : Right q) (H : Renames p q L K)
include R H
/-- What is called is a label of one of them. -/
theorem Renames.label {x f : D} (hx : x ∈ K) (hf : f ∈ callsOf (d2 x.kids)) : ∃ e, e ∈ K ∧ f = e.head := by
 obtain ⟨e, he, hq⟩ := H.closed x f hx hf
 obtain ⟨h1, h2⟩ := callsOf_lab (R.good (H.sub x hx)) f hf
 obtain ⟨h3, h4⟩ := R.label (H.sub e he)
 exact ⟨e, he, label_eq h1 h3 h2 h4 hq⟩
include S
theorem Renames.fold {x : D} (hx : x ∈ K) : ∀ (fs : List D) (st st' : CS), (∀ f, f ∈ fs → f ∈ callsOf (d2 x.kids)) → RI p st → RI q st' → st'.1 = st.1.map (rnF L) → (∀ d, d ∈ st.1 → d ∈ K) →
  RI p (fs.foldl (reachStep (defsL p.kids)) st) ∧ RI q ((fs.map L).foldl (reachStep (defsL q.kids)) st') ∧ ((fs.map L).foldl (reachStep (defsL q.kids)) st').1 = (fs.foldl (reachStep (defsL p.kids)) st).1.map (rnF L) ∧ ∀ d, d ∈ (fs.foldl (reachStep (defsL p.kids)) st).1 → d ∈ K
 | [], st, st', _, i1, i2, i3, i4 => ⟨i1, i2, i3, i4⟩
 | f :: fs, st, st', hf, i1, i2, i3, i4 => by
  rw [List.map_cons, List.foldl_cons, List.foldl_cons]
  obtain ⟨e, he, rfl⟩ := H.label R hx (hf f (by simp))
  have hep := H.sub e he
  have g1 : kget (defsL p.kids) e.head = some e := by rw [defsL_get R.apart]; exact find_kq R.apart hep (kq_refl _)
  have g2 : kget (defsL q.kids) (L e.head) = some (rnF L e) := by rw [defsL_get S.apart]; exact find_kq S.apart (H.into e he) (kq_refl _)
  have hs : seenB st'.2 (L e.head) = seenB st.2 e.head := by
   rw [i2.seen, i1.seen, i3, List.any_map]
   have key : ∀ l : List D, (∀ d, d ∈ l → d ∈ K) → l.any ((fun d => kq (L e.head) d.head) ∘ rnF L) = l.any fun d => kq e.head d.head := by
    intro l
    induction l with
    | nil => intro _; rfl
    | cons y l ih =>
     intro h
     rw [List.any_cons, List.any_cons, ih fun d hd => h d (by simp [hd])]
     congr 1
     exact H.inj e y he (h y (by simp))
   exact key _ i4
  have j1 : RI p (reachStep (defsL p.kids) st e.head) := i1.step hep (kq_refl _) g1
  have j2 : RI q (reachStep (defsL q.kids) st' (L e.head)) := i2.step (H.into e he) (kq_refl _) g2
  refine Renames.fold hx fs _ _ (fun g hg => hf g (by simp [hg])) j1 j2 ?_ ?_
  ·cases hb : seenB st.2 e.head with
   | true => rw [reachStep_old hb, reachStep_old (by rw [hs]; exact hb)]; exact i3
   | false => rw [reachStep_new hb g1, reachStep_new (by rw [hs]; exact hb) g2]; simp [i3]
  ·cases hb : seenB st.2 e.head with
   | true => rw [reachStep_old hb]; exact i4
   | false =>
    rw [reachStep_new hb g1]
    intro d hd
    simp only [List.mem_append, List.mem_singleton] at hd
    rcases hd with hd | rfl
    ·exact i4 d hd
    ·exact he
end
end Go.Aw

namespace Go.Aw
open Go
/-! ### what makes an expression right -/
section
variable {L : D → D} {ps ps' : List (D × Int)}
end
/-! ### right data -/
section
variable {L : D → D}
end
/-! ### what makes a program right -/
end Go.Aw

namespace Go.Aw
open Go
section
variable {p : D} (R : Right p)
include R
end
end Go.Aw

namespace Go.Aw
open Go
def sRec : ByteArray := ⟨#[114, 101, 99]⟩
theorem itoaB_size {n : Int} (h0 : -9223372036854775808 ≤ n) (h1 : n ≤ 9223372036854775807) : (itoaB n).size ≤ 21 := by
 have := Lib.itoa_length_le n h0 h1
 show ((Lib.itoa n).toArray).size ≤ 21
 simpa using this

@[go_sem] theorem modify_app2 {l : List Tok} {t u : Tok} {f : Tok → Tok} : (l ++ [t, u]).modify (l.length + 1) f = l ++ [t, f u] := by
 induction l with
 | nil => rfl
 | cons a l ih => simp [ih]
@[go_sem] theorem take_app2 {α : Type} {l : List α} {a b : α} : (l ++ [a, b]).take (l.length + 2) = l ++ [a, b] := List.take_of_length_le (by simp)

/-! ### sizes -/
section
variable {p : D} (R : Right p)
include R
end
end Go.Aw
namespace Go.Aw
open Go
end Go.Aw

namespace Go.Aw
open Go
mutual
/-- A term, told by what the terms in it give. -/
def mcata {β : Type} (f : D → List β → β) : D → β
 | .mk k n t l => f (.mk k n t l) (mcatas f (idrop (.mk k n t l)) l)
def mcatas {β : Type} (f : D → List β → β) : Nat → List D → List β
 | _, [] => []
 | 0, x :: l => mcata f x :: mcatas f 0 l
 | i + 1, _ :: l => mcatas f i l
end
theorem mcatas_drop {β : Type} (f : D → List β → β) : ∀ (i : Nat) (l : List D), mcatas f i l = (l.drop i).map (mcata f)
 | 0, [] => rfl
 | 0, x :: l => by rw [mcatas, mcatas_drop f 0 l]; rfl
 | i + 1, [] => rfl
 | i + 1, x :: l => by rw [mcatas, mcatas_drop f i l]; rfl
theorem mcata_eq {β : Type} (f : D → List β → β) (d : D) : mcata f d = f d ((inner d).map (mcata f)) := by
 unfold inner
 rw [← mcatas_drop]
 cases d
 rw [mcata]
 rfl

def memB (l : List ByteArray) (s : ByteArray) : Bool := l.any fun x => decide (s = x)
/-- All terms in a term, in order. -/
def mall (d : D) : List D := mcata (fun d rs => d :: rs.flatten) d
theorem mall_eq (d : D) : mall d = d :: (inner d).flatMap mall := by
 unfold mall
 rw [mcata_eq]
 rfl
section
variable {d : D} (h : GoodM d)
include h
theorem GoodM.ne : d.kind = 3 → d.kids ≠ [] := fun hk => (h.list hk).1
theorem GoodM.n : d.kind = 3 → d.head.text ≠ sQuote → 1 + shN d.head.text ≤ d.kids.length := by
 intro hk hq
 rcases (h.list hk).2.2.2.2 with ⟨e, _⟩ | ⟨e, f, x, b, k, _⟩ | ⟨e, x, a, b, k, _⟩ | ⟨_, k, _, hf, hl, _⟩
 ·exact absurd e hq
 ·rw [k, e, show shN sFn = 2 from rfl]; simp
 ·rw [k, e, show shN sLet = 1 from rfl]; simp
 ·have : shN d.head.text = 0 := by
   rcases shp_cases d.head.text with ⟨e, s⟩ | ⟨e, s⟩ | ⟨e, s⟩ | ⟨e, s⟩ | ⟨e, s⟩ | ⟨e, s⟩ | ⟨e, s⟩ | ⟨e, s⟩ | ⟨s, _⟩
   all_goals first | (exact shN_of s) | (exact shN_none s) | (exact absurd e hf) | (exact absurd e hl)
  rw [this, k]; simp
omit h in
theorem isW_iff {w : ByteArray} : isW d w = true ↔ d.kind = 3 ∧ d.head.text = w := by simp [isW]
theorem GoodM.fn (hw : isW d sFn = true) : ∃ f x b, d.kids[1]? = some f ∧ d.kids[2]? = some x ∧ d.kids = [d.head, f, x, b] ∧ d1 d.kids = f ∧ d2 d.kids = x ∧ inner d = [b] ∧ mName f = true ∧ mName x = true ∧ d.kind = 3 ∧ d.head.text = sFn := by
 obtain ⟨hk, ht⟩ := isW_iff.1 hw
 rcases (h.list hk).2.2.2.2 with ⟨e, _⟩ | ⟨e, f, x, b, k, i, hf, hx⟩ | ⟨e, x, a, b, k, _⟩ | ⟨_, k, _, hf, hl, _⟩
 ·rw [e] at ht; exact absurd ht (by decide)
 ·exact ⟨f, x, b, by rw [k]; rfl, by rw [k]; rfl, k, by rw [k]; rfl, by rw [k]; rfl, i, hf, hx, hk, ht⟩
 ·rw [e] at ht; exact absurd ht (by decide)
 ·exact absurd ht hf
theorem GoodM.lett (hw : isW d sLet = true) : ∃ x a b, d.kids[1]? = some x ∧ d.kids = [d.head, x, a, b] ∧ d1 d.kids = x ∧ inner d = [a, b] ∧ mName x = true ∧ d.kind = 3 ∧ d.head.text = sLet := by
 obtain ⟨hk, ht⟩ := isW_iff.1 hw
 rcases (h.list hk).2.2.2.2 with ⟨e, _⟩ | ⟨e, f, x, b, k, _⟩ | ⟨e, x, a, b, k, i, hx⟩ | ⟨_, k, _, hf, hl, _⟩
 ·rw [e] at ht; exact absurd ht (by decide)
 ·rw [e] at ht; exact absurd ht (by decide)
 ·exact ⟨x, a, b, by rw [k]; rfl, k, by rw [k]; rfl, i, hx, hk, ht⟩
 ·exact absurd ht hl
end
end Go.Aw

namespace Go.Aw
open Go Go.RowKit
end Go.Aw

namespace Go.Aw
open Go
/-- A list told by its places. -/
def mapI {α β : Type} (f : Nat → α → β) (l : List α) : List β := l.zipIdx.map fun p => f p.2 p.1
theorem mapI_get {α β : Type} (f : Nat → α → β) (l : List α) (i : Nat) : (mapI f l)[i]? = l[i]?.map (f i) := by
 unfold mapI
 rw [List.getElem?_map, List.getElem?_zipIdx]
 cases l[i]? <;> simp
theorem mapI_length {α β : Type} (f : Nat → α → β) (l : List α) : (mapI f l).length = l.length := by simp [mapI]
theorem mapI_mem {α β : Type} {f : Nat → α → β} {l : List α} {y : β} (h : y ∈ mapI f l) : ∃ i x, l[i]? = some x ∧ y = f i x := by
 obtain ⟨i, hi, rfl⟩ := List.getElem_of_mem h
 have h2 : (mapI f l)[i]? = some (mapI f l)[i] := List.getElem?_eq_getElem hi
 rw [mapI_get] at h2
 obtain ⟨x, h3, h4⟩ := Option.map_eq_some_iff.1 h2
 exact ⟨i, x, h3, h4.symm⟩

/-- None of the last k names. -/
def NoneLast (l : List ByteArray) (s : ByteArray) (k : Nat) : Prop := ∀ j : Nat, j < k → l[l.length - 1 - j]? ≠ some s
section
variable {d : D} (h : GoodM d)
include h
end
/-- What going through a term needs of it. -/
def okT (d : D) : Prop := d.kind = 3 → d.kids ≠ [] ∧ (d.head.text ≠ sQuote → 1 + shN d.head.text ≤ d.kids.length)
def OkM (d : D) : Prop := ∀ x, x ∈ mall d → okT x
theorem OkM.part {d x : D} (h : OkM d) (hx : x ∈ inner d) : OkM x := fun y hy => h y (by rw [mall_eq]; exact List.mem_cons_of_mem _ (List.mem_flatMap.2 ⟨x, hx, hy⟩))
theorem OkM.self {d : D} (h : OkM d) : okT d := h d (by rw [mall_eq]; simp)
theorem GoodM.len {d : D} (h : GoodM d) : (isW d sLift = true → d.kids.length = 2) ∧ (isW d sRun = true → d.kids.length = 3) := by
 constructor
 ·intro hw
  obtain ⟨hk, ht⟩ := isW_iff.1 hw
  rcases (h.list hk).2.2.2.2 with ⟨e, _⟩ | ⟨e, _⟩ | ⟨e, _⟩ | ⟨_, k, _, _, _, hn⟩
  ·rw [e] at ht; exact absurd ht (by decide)
  ·rw [e] at ht; exact absurd ht (by decide)
  ·rw [e] at ht; exact absurd ht (by decide)
  ·rw [ht, if_neg (by decide), if_neg (by decide), if_pos (.inr rfl)] at hn
   rw [k]; simp; omega
 ·intro hw
  obtain ⟨hk, ht⟩ := isW_iff.1 hw
  rcases (h.list hk).2.2.2.2 with ⟨e, _⟩ | ⟨e, _⟩ | ⟨e, _⟩ | ⟨_, k, _, _, _, hn⟩
  ·rw [e] at ht; exact absurd ht (by decide)
  ·rw [e] at ht; exact absurd ht (by decide)
  ·rw [e] at ht; exact absurd ht (by decide)
  ·rw [ht, if_neg (by decide), if_pos (.inr rfl)] at hn
   rw [k]; simp; omega
end Go.Aw

namespace Go.Aw
open Go
def tK (S : List ByteArray) : List PV := S.map .str
def tV (S : List ByteArray) : List PV := S.map fun _ => .bool true
def addS (S : List ByteArray) (x : ByteArray) : List ByteArray := if memB S x = true then S else S ++ [x]
def setS (σ : Store) (o : Nat) (S : List ByteArray) : Store := { σ with objs := σ.objs.set o (.map (tK S) (tV S)) }
theorem kfind_tK (x : ByteArray) : ∀ S : List ByteArray, kfind (.str x) (tK S) = S.findIdx? fun y => decide (x = y)
 | [] => rfl
 | y :: S => by
  have hk : (PV.str x).keq (.str y) = decide (x = y) := by simp [PV.keq, pvAtomEq]
  have ih := kfind_tK x S
  simp only [tK] at ih
  simp only [tK, List.map_cons, kfind, List.findIdx?_cons, hk, ih]
theorem tK_fits (S : List ByteArray) : (tK S).all (KS.fits (.one .str)) = true := by
 simp only [tK, List.all_map, List.all_eq_true]
 intro p _; rfl
section
variable {ty : TyT} {s : St} {t kt et : TypeId} {ti te tk : TyI} {o : Nat} {S : List ByteArray}
theorem look_set (h : ty t = some ti) (hk : ti.kind = .map kt et) (h1 : ty et = some te) (h2 : ty kt = some tk) (h3 : tk.ks = some (.one .str)) (h4 : te.kind = .bool) (h5 : te.zero = [.bool false]) (ho : s.σ.objs[o]? = some (.map (tK S) (tV S))) (x : ByteArray) :
  lookAV ty s t (.map o) (.pv (.str x)) false = some (.pv (.bool (memB S x))) := by
 have hko : keyOk ty kt (.str x) (tK S) = true := by
  simp only [keyOk, h2, h3, tK_fits, Bool.and_true]; rfl
 simp only [lookAV, h, hk, h1, mapOf, ho, toPV, atomToPV, Option.map_some, PV.nrm, hko, kfind_tK]
 unfold memB
 cases hj : S.findIdx? fun y => decide (x = y) with
 | none =>
  have : (S.any fun y => decide (x = y)) = false := by
   rw [List.findIdx?_eq_none_iff] at hj
   rw [List.any_eq_false]
   intro p hp; simp [hj p hp]
  simp only [this]
  simp [okAV, zeroAV, h4, h5, TyK.agg]
 | some j =>
  rw [List.findIdx?_eq_some_iff_getElem] at hj
  obtain ⟨h6, h7, _⟩ := hj
  have : (S.any fun y => decide (x = y)) = true := List.any_eq_true.2 ⟨_, List.getElem_mem h6, h7⟩
  simp only [this]
  simp [okAV, tV, h6]
theorem kput_set (x : ByteArray) : kput (.str x) (.bool true) (tK S) (tV S) = (tK (addS S x), tV (addS S x)) := by
 unfold kput
 rw [kfind_tK]
 cases hj : S.findIdx? fun y => decide (x = y) with
 | none =>
  have : memB S x = false := by
   rw [List.findIdx?_eq_none_iff] at hj
   unfold memB
   rw [List.any_eq_false]
   intro p hp; simp [hj p hp]
  unfold addS
  rw [this]
  simp [tK, tV]
 | some j =>
  rw [List.findIdx?_eq_some_iff_getElem] at hj
  obtain ⟨h6, h7, _⟩ := hj
  have : memB S x = true := List.any_eq_true.2 ⟨_, List.getElem_mem h6, h7⟩
  unfold addS
  rw [this]
  simp only [if_true]
  congr 1
  apply List.ext_getElem?
  intro i
  rw [List.getElem?_set]
  unfold tV
  split
  ·subst_vars
   split
   ·rename_i hlt; simp at hlt; simp [hlt]
   ·rename_i hlt; rw [List.getElem?_eq_none (by simpa using hlt)]
  ·rfl
theorem put_set (h : ty t = some ti) (hk : ti.kind = .map kt et) (h2 : ty kt = some tk) (h3 : tk.ks = some (.one .str)) (ho : s.σ.objs[o]? = some (.map (tK S) (tV S))) (x : ByteArray) :
  putAV ty s t (.map o) (.pv (.str x)) (.pv (.bool true)) = some (setS s.σ o (addS S x)) := by
 have hko : keyOk ty kt (.str x) (tK S) = true := by
  simp only [keyOk, h2, h3, tK_fits, Bool.and_true]; rfl
 simp only [putAV, h, hk, ho, toPV, atomToPV, Option.map_some, PV.nrm, hko, kput_set]
 rfl
end
section
variable {σ : Store} {o : Nat} {S R : List ByteArray}
theorem setS_self (h : σ.objs[o]? = some (.map (tK S) (tV S))) : setS σ o S = σ := by
 unfold setS
 have : σ.objs.set o (.map (tK S) (tV S)) = σ.objs := by
  apply List.ext_getElem?
  intro i
  rw [List.getElem?_set]
  split
  ·subst_vars
   split
   ·exact h.symm
   ·rename_i hlt; rw [List.getElem?_eq_none (by simpa using hlt)]
  ·rfl
 rw [this]
theorem setS_get (h : o < σ.objs.length) : (setS σ o S).objs[o]? = some (.map (tK S) (tV S)) := by simp [setS, h]
theorem setS_set : setS (setS σ o S) o R = setS σ o R := by simp [setS]
theorem setS_gl : (setS σ o S).gl = σ.gl := rfl
theorem setS_no : (setS σ o S).objs.length = σ.objs.length := by simp [setS]
theorem setS_nt : (setS σ o S).toks.length = σ.toks.length := rfl
theorem setS_cut : (setS σ o S).cut σ.objs.length σ.toks.length = setS σ o S := by simp [setS, Store.cut, List.take_of_length_le]
theorem setS_mem {ob : AObj} {no nt nl : Nat} (h : ob ∈ (setS σ o S).objs) : ob ∈ σ.objs ∨ ob.clo no nt nl = true := by
 rcases List.mem_or_eq_of_mem_set h with h | h
 ·exact .inl h
 ·subst h; exact .inr rfl
end
theorem memB_add {S : List ByteArray} {x y : ByteArray} : memB (addS S x) y = (memB S y || decide (y = x)) := by
 unfold addS
 split
 ·rename_i h
  by_cases e : y = x
  ·subst e; simp [h]
  ·simp [e]
 ·simp [memB, List.any_append]
theorem memB_fold {L : List ByteArray} : ∀ {S : List ByteArray} {y : ByteArray}, memB (L.foldl addS S) y = (memB S y || memB L y) := by
 induction L with
 | nil => intro S y; simp [memB]
 | cons x L ih =>
  intro S y
  rw [List.foldl_cons, ih, memB_add]
  simp only [memB, List.any_cons, Bool.or_assoc]
theorem NoneLast.zero {l : List ByteArray} {s : ByteArray} : NoneLast l s 0 := fun j h => by omega
theorem NoneLast.succ {l : List ByteArray} {s y : ByteArray} {k : Nat} (h : NoneLast l s k) (hy : l[l.length - 1 - k]? = some y) (hne : decide (y = s) = false) : NoneLast l s (k + 1) := by
 intro j hj
 by_cases e : j = k
 ·subst e; rw [hy]; simpa using hne
 ·exact h j (by omega)
theorem acalls_gen {P : Program} {f : FuncId} {args : List AV} {σ : Store} {R : AV → Store → Prop} (h : ∀ τ, τ = σ → ACalls P f args τ R) : ACalls P f args σ R := h σ rfl
@[go_sem] theorem modify_app3 {l : List Tok} {t u v : Tok} {f : Tok → Tok} : (l ++ [t, u, v]).modify (l.length + 2) f = l ++ [t, u, f v] := by
 induction l with
 | nil => rfl
 | cons a l ih => simp [ih]
@[go_sem] theorem modify_app20 {l : List Tok} {t u : Tok} {f : Tok → Tok} : (l ++ [t, u]).modify l.length f = l ++ [f t, u] := by
 induction l with
 | nil => rfl
 | cons a l ih => simp [ih]
@[go_sem] theorem take_app3 {α : Type} {l : List α} {a b c : α} : (l ++ [a, b, c]).take (l.length + 3) = l ++ [a, b, c] := List.take_of_length_le (by simp)
theorem take_set_le {α : Type} {l : List α} {n i : Nat} {x : α} (h : n ≤ i) : (l.set i x).take n = l.take n := by
 apply List.ext_getElem?
 intro j
 rw [List.getElem?_take, List.getElem?_take]
 split
 ·rw [List.getElem?_set, if_neg (by omega)]
 ·rfl
theorem set_self {l : List AObj} {o : Nat} {x : AObj} (h : l[o]? = some x) : l.set o x = l := by
 apply List.ext_getElem?
 intro i
 rw [List.getElem?_set]
 split
 ·subst_vars
  split
  ·exact h.symm
  ·rename_i hlt; rw [List.getElem?_eq_none (by simpa using hlt)]
 ·rfl

theorem get_app4 {α : Type} {l : List α} {a b c d : α} : (l ++ [a, b, c, d])[l.length + 3]? = some d := by
 rw [List.getElem?_append_right (by omega), Nat.add_sub_cancel_left]; rfl

theorem set_ne {l : List AObj} {i j : Nat} {x : AObj} (h : i ≠ j) : (l.set i x)[j]? = l[j]? := by rw [List.getElem?_set, if_neg h]
theorem set_at {l : List AObj} {i : Nat} {x : AObj} : (l.set i x)[i]? = l[i]?.map fun _ => x := by
 rw [List.getElem?_set, if_pos rfl]
 split
 ·rename_i h; rw [List.getElem?_eq_getElem h]; rfl
 ·rename_i h; rw [List.getElem?_eq_none (by omega)]; rfl

theorem mem_app1 {l : List AObj} {a ob : AObj} {no nt nl : Nat} (ha : a.clo no nt nl = true) (h : ob ∈ l ++ [a]) : ob ∈ l ∨ ob.clo no nt nl = true := by
 rcases List.mem_append.1 h with h | h
 ·exact .inl h
 ·simp only [List.mem_singleton] at h
  subst h; exact .inr ha
end Go.Aw

namespace Go.Aw
open Go
def sSeq : ByteArray := ⟨#[115, 101, 113]⟩
def sUp : ByteArray := ⟨#[117, 112]⟩
def wordL : List (ByteArray × Int) := [(sQuote, 3), (sIf, 4), (sFn, 5), (sLet, 6), (sRec, 7), (sSeq, 8), (sUp, 9)]
/-- The form that a reserved symbol begins. -/
def wordN (s : ByteArray) : Int := ((wordL.find? fun p => decide (p.1 = s)).map (·.2)).getD 0
theorem wordN_cases (s : ByteArray) : (s = sQuote ∧ wordN s = 3) ∨ (s = sIf ∧ wordN s = 4) ∨ (s = sFn ∧ wordN s = 5) ∨ (s = sLet ∧ wordN s = 6) ∨ (s = sRec ∧ wordN s = 7) ∨ (s = sSeq ∧ wordN s = 8) ∨ (s = sUp ∧ wordN s = 9) ∨ ((wordL.find? fun p => decide (p.1 = s)) = none ∧ wordN s = 0) := by
 unfold wordN
 simp only [wordL, List.find?_cons, List.find?_nil]
 by_cases h1 : sQuote = s
 ·subst h1; simp
 by_cases h2 : sIf = s
 ·subst h2; simp [show ¬ sQuote = sIf by decide]
 by_cases h3 : sFn = s
 ·subst h3; simp [show ¬ sQuote = sFn by decide, show ¬ sIf = sFn by decide]
 by_cases h4 : sLet = s
 ·subst h4; simp [show ¬ sQuote = sLet by decide, show ¬ sIf = sLet by decide, show ¬ sFn = sLet by decide]
 by_cases h5 : sRec = s
 ·subst h5; simp [show ¬ sQuote = sRec by decide, show ¬ sIf = sRec by decide, show ¬ sFn = sRec by decide, show ¬ sLet = sRec by decide]
 by_cases h6 : sSeq = s
 ·subst h6; simp [show ¬ sQuote = sSeq by decide, show ¬ sIf = sSeq by decide, show ¬ sFn = sSeq by decide, show ¬ sLet = sSeq by decide, show ¬ sRec = sSeq by decide]
 by_cases h7 : sUp = s
 ·subst h7; simp [show ¬ sQuote = sUp by decide, show ¬ sIf = sUp by decide, show ¬ sFn = sUp by decide, show ¬ sLet = sUp by decide, show ¬ sRec = sUp by decide, show ¬ sSeq = sUp by decide]
 simp [h1, h2, h3, h4, h5, h6, h7]
theorem wordN_range (s : ByteArray) : 0 ≤ wordN s ∧ wordN s ≤ 9 ∧ (wordN s = 0 ∨ 3 ≤ wordN s) := by
 rcases wordN_cases s with ⟨_, h⟩ | ⟨_, h⟩ | ⟨_, h⟩ | ⟨_, h⟩ | ⟨_, h⟩ | ⟨_, h⟩ | ⟨_, h⟩ | ⟨_, h⟩ <;> rw [h] <;> omega
/-- The reserved symbols, in whatever order they lie. -/
structure WdO where
 l : List (ByteArray × Int)
 find : ∀ x : ByteArray, ((l.find? fun p => decide (p.1 = x)).map (·.2)).getD 0 = wordN x
def wdK (W : WdO) : List PV := W.l.map fun p => .str p.1
def wdV (W : WdO) : List PV := W.l.map fun p => .int .i64 p.2
theorem wd_keys (W : WdO) : (wdK W).all (KS.fits (.one .str)) = true := by
 unfold wdK
 rw [List.all_eq_true]
 intro p hp
 obtain ⟨q, _, rfl⟩ := List.mem_map.1 hp
 rfl
theorem look_wd {W : WdO} {ty : TyT} {s : St} {t : TypeId} {x : ByteArray} {ti te tk : TyI} {kt et : TypeId} (h : ty t = some ti) (hk : ti.kind = .map kt et) (h1 : ty et = some te) (h2 : ty kt = some tk) (h3 : tk.ks = some (.one .str)) (h4 : te.kind.agg = false) (h5 : te.zero = [.int .i64 0]) :
  lookAV ty s t (.pv (.map (wdK W) (wdV W))) (.pv (.str x)) false = some (.pv (.int .i64 (wordN x))) := by
 have hko : keyOk ty kt (.str x) (wdK W) = true := by
  have hf := wd_keys W
  simp only [keyOk, h2, h3, hf, Bool.and_true]; rfl
 have hfx := W.find x
 simp only [lookAV, h, hk, h1, mapOf, toPV, atomToPV, Option.map_some, PV.nrm, hko]
 have hkf : kfind (.str x) (wdK W) = W.l.findIdx? fun p => decide (p.1 = x) := kfind_strs x W.l
 rw [hkf]
 cases hj : W.l.findIdx? fun p => decide (p.1 = x) with
 | none =>
  have : W.l.find? (fun p => decide (p.1 = x)) = none := by
   rw [List.findIdx?_eq_none_iff] at hj
   rw [List.find?_eq_none]
   intro p hp; simpa using hj p hp
  rw [this] at hfx
  rw [← hfx]
  simp [okAV, zeroAV, h4, h5]
 | some j =>
  rw [List.findIdx?_eq_some_iff_getElem] at hj
  obtain ⟨hlt, h6, h7⟩ := hj
  have : W.l.find? (fun p => decide (p.1 = x)) = some W.l[j] := by
   rw [List.find?_eq_some_iff_getElem]
   exact ⟨h6, j, hlt, rfl, fun i hi => by simpa using h7 i hi⟩
  rw [this] at hfx
  rw [← hfx]
  have hv : (wdV W)[j]? = some (.int .i64 W.l[j].2) := by unfold wdV; rw [List.getElem?_map, List.getElem?_eq_getElem hlt]; rfl
  simp [hv, okAV]
/-- A name. -/
def nmS (d : D) : Bool := d.kind == 2 && wordN d.text == 0
def badAt (l : List D) (j : Nat) : Bool := match l[j]? with
 | some x => !nmS x || memB ((l.take j).map D.text) x.text
 | none => false
/-- Names that differ, at most so many. -/
def differB (l : List D) (m : Int) : Bool := if decide (m < (l.length : Int)) = true then false else !((List.range l.length).any (badAt l))
def isNms (d : D) (m : Int) : Bool := d.kind == 3 && differB d.kids m
def grpBad (k : D) : Bool := (k.kind != 3 || (k.kids.length : Int) != 3) || !isNms (d1 k.kids) 8
/-- The definitions of a rec. -/
def isGrp (d : D) : Bool := if ((d.kind != 3 || (d.kids.length : Int) == 0) || decide (40 < (d.kids.length : Int))) = true then false else if d.kids.any grpBad = true then false else differB (d.kids.map D.head) 40
def fmOk (f : Int) (k : List D) : Bool :=
 if (f == 3) = true then (k.length : Int) == 2 else if (f == 4) = true then (k.length : Int) == 4 else if (f == 5) = true then (k.length : Int) == 3 && isNms (d1 k) 8 else
 if (f == 9) = true then ((k.length : Int) == 3 && isNms (d1 k) 3) && ((d1 k).kids.length : Int) == 3 else if (f == 6) = true then (k.length : Int) == 4 && nmS (d1 k) else
 if (f == 8) = true then (k.length : Int) == 3 else if (f == 7) = true then (k.length : Int) == 3 && isGrp (d1 k) else false
def headN (d : D) : Int := if (d.head.kind == 2) = true then wordN d.head.text else 0
/-- The form of a datum; 0 if it has none. -/
def synKind (d : D) : Int :=
 if (d.kind == 1) = true then 1 else if (d.kind == 2) = true then (if decide (0 < wordN d.text) = true then 0 else 2) else if ((d.kids.length : Int) == 0) = true then 0 else
 if (headN d == 0) = true then (if decide ((d.kids.length : Int) ≤ 9) = true then 10 else 0) else if fmOk (headN d) d.kids = true then headN d else 0
/-! ### the expressions in one -/
structure Sub where
 p : List Int
 ns : List (ByteArray × Int)
def numb (l : List ByteArray) (n : Int) : List (ByteArray × Int) := mapI (fun i x => (x, n + (i : Int))) l
def parS (x : D) : List ByteArray := (d1 x.kids).kids.map D.text
def fromS (l : List D) (i : Nat) : Int := (l.length : Int) + (((l.take i).map fun x => ((d1 x.kids).kids.length : Int)).sum)
/-- The names that an expression binds itself. -/
def ownS (d : D) : List ByteArray :=
 if (synKind d == 5) = true then (d1 d.kids).kids.map D.text else if (synKind d == 9) = true then (d1 d.kids).kids.map D.text else if (synKind d == 6) = true then [(d1 d.kids).text] else
 if (synKind d == 7) = true then (d1 d.kids).kids.map fun x => x.head.text else []
/-- The expressions in one, with their paths, and what is bound there beside, the nearest first. -/
def subs (d : D) : List (Sub × D) :=
 if (synKind d == 4) = true then mapI (fun i x => (⟨[(i : Int) + 1], []⟩, x)) (d.kids.drop 1) else if (synKind d == 8) = true then mapI (fun i x => (⟨[(i : Int) + 1], []⟩, x)) (d.kids.drop 1) else
 if (synKind d == 5) = true then [(⟨[2], (numb (ownS d) 0).reverse⟩, d2 d.kids)] else if (synKind d == 9) = true then [(⟨[2], (numb (ownS d) 0).reverse⟩, d2 d.kids)] else
 if (synKind d == 6) = true then [(⟨[2], []⟩, d2 d.kids), (⟨[3], (numb (ownS d) 0).reverse⟩, d.kids.getD 3 dnone)] else
 if (synKind d == 7) = true then mapI (fun i x => (⟨[1, (i : Int), 2], (numb (parS x) (fromS (d1 d.kids).kids i)).reverse ++ (numb (ownS d) 0).reverse⟩, d2 x.kids)) (d1 d.kids).kids ++ [(⟨[2], (numb (ownS d) 0).reverse⟩, d2 d.kids)] else
 if (synKind d == 10) = true then mapI (fun i x => (⟨[(i : Int)], []⟩, x)) d.kids else []
theorem getD_mem {l : List D} {n : Nat} (h : n < l.length) : l.getD n dnone ∈ l := by
 rw [List.getD_eq_getElem?_getD, List.getElem?_eq_getElem h]; simp
theorem fm_len {f : Int} {k : List D} (h : fmOk f k = true) : (f = 3 ∧ k.length = 2) ∨ (f = 4 ∧ k.length = 4) ∨ (f = 5 ∧ k.length = 3 ∧ isNms (d1 k) 8 = true) ∨ (f = 9 ∧ k.length = 3 ∧ isNms (d1 k) 3 = true ∧ (d1 k).kids.length = 3) ∨ (f = 6 ∧ k.length = 4 ∧ nmS (d1 k) = true) ∨ (f = 8 ∧ k.length = 3) ∨ (f = 7 ∧ k.length = 3 ∧ isGrp (d1 k) = true) := by
 unfold fmOk at h
 split at h
 ·rename_i e; simp only [beq_iff_eq] at e h; exact .inl ⟨e, by omega⟩
 ·split at h
  ·rename_i e; simp only [beq_iff_eq] at e h; exact .inr (.inl ⟨e, by omega⟩)
  ·split at h
   ·rename_i e; simp only [beq_iff_eq, Bool.and_eq_true] at e h; exact .inr (.inr (.inl ⟨e, by omega, h.2⟩))
   ·split at h
    ·rename_i e; simp only [beq_iff_eq, Bool.and_eq_true] at e h; exact .inr (.inr (.inr (.inl ⟨e, by omega, h.1.2, by omega⟩)))
    ·split at h
     ·rename_i e; simp only [beq_iff_eq, Bool.and_eq_true] at e h; exact .inr (.inr (.inr (.inr (.inl ⟨e, by omega, h.2⟩))))
     ·split at h
      ·rename_i e; simp only [beq_iff_eq] at e h; exact .inr (.inr (.inr (.inr (.inr (.inl ⟨e, by omega⟩)))))
      ·split at h
       ·rename_i e; simp only [beq_iff_eq, Bool.and_eq_true] at e h; exact .inr (.inr (.inr (.inr (.inr (.inr ⟨e, by omega, h.2⟩)))))
       ·cases h
/-- What a form says of a datum. -/
inductive Shape (d : D) : Prop where
 | none (h : synKind d = 0)
 | num (h : synKind d = 1) (hk : d.kind = 1)
 | name (h : synKind d = 2) (hk : d.kind = 2) (hw : wordN d.text = 0)
 | quote (h : synKind d = 3) (hl : d.kids.length = 2)
 | iff (h : synKind d = 4) (hl : d.kids.length = 4)
 | fn (h : synKind d = 5) (hl : d.kids.length = 3) (hn : isNms (d1 d.kids) 8 = true)
 | lett (h : synKind d = 6) (hl : d.kids.length = 4) (hn : nmS (d1 d.kids) = true)
 | recc (h : synKind d = 7) (hl : d.kids.length = 3) (hn : isGrp (d1 d.kids) = true)
 | seqq (h : synKind d = 8) (hl : d.kids.length = 3)
 | up (h : synKind d = 9) (hl : d.kids.length = 3) (hn : isNms (d1 d.kids) 3 = true) (h3 : (d1 d.kids).kids.length = 3)
 | app (h : synKind d = 10) (hl : d.kids.length ≤ 9) (h0 : 0 < d.kids.length) (hw : headN d = 0)
theorem shape (d : D) : Shape d := by
 by_cases h1 : d.kind = 1
 ·exact .num (by unfold synKind; rw [h1]; rfl) h1
 have e1 : (d.kind == 1) = false := by simpa using h1
 by_cases h2 : d.kind = 2
 ·have e2 : (d.kind == 2) = true := by simpa using h2
  by_cases hw : 0 < wordN d.text
  ·exact .none (by unfold synKind; rw [e1, if_neg (by decide), if_pos e2, if_pos (by simpa using hw)])
  ·exact .name (by unfold synKind; rw [e1, if_neg (by decide), if_pos e2, if_neg (by simpa using hw)]) h2 (by have := wordN_range d.text; omega)
 have e2 : (d.kind == 2) = false := by simpa using h2
 by_cases h0 : d.kids.length = 0
 ·exact .none (by unfold synKind; rw [e1, if_neg (by decide), e2, if_neg (by decide), if_pos (by simp [h0])])
 have e0 : ((d.kids.length : Int) == 0) = false := by simpa using h0
 have hs : synKind d = if (headN d == 0) = true then (if decide ((d.kids.length : Int) ≤ 9) = true then 10 else 0) else if fmOk (headN d) d.kids = true then headN d else 0 := by
  unfold synKind; rw [e1, if_neg (by decide), e2, if_neg (by decide), e0, if_neg (by decide)]
 by_cases hh : headN d = 0
 ·rw [hh, if_pos (by decide)] at hs
  by_cases hl : (d.kids.length : Int) ≤ 9
  ·rw [if_pos (by simpa using hl)] at hs
   exact .app hs (by omega) (by omega) hh
  ·rw [if_neg (by simpa using hl)] at hs
   exact .none hs
 ·rw [if_neg (by simpa using hh)] at hs
  by_cases hf : fmOk (headN d) d.kids = true
  ·rw [if_pos hf] at hs
   rcases fm_len hf with ⟨e, h⟩ | ⟨e, h⟩ | ⟨e, h, h3⟩ | ⟨e, h, h3, h4⟩ | ⟨e, h, h3⟩ | ⟨e, h⟩ | ⟨e, h, h3⟩ <;> rw [e] at hs
   ·exact .quote hs h
   ·exact .iff hs h
   ·exact .fn hs h h3
   ·exact .up hs h h3 h4
   ·exact .lett hs h h3
   ·exact .seqq hs h
   ·exact .recc hs h h3
  ·rw [if_neg hf] at hs
   exact .none hs
theorem grp_len {d x : D} (h : isGrp d = true) (hx : x ∈ d.kids) : x.kids.length = 3 := by
 unfold isGrp at h
 split at h
 ·cases h
 ·split at h
  ·cases h
  ·rename_i h2
   have h3 : grpBad x = false := by
    cases hb : grpBad x with
    | false => rfl
    | true => exact absurd (List.any_eq_true.2 ⟨x, hx, hb⟩) h2
   unfold grpBad at h3
   simp only [Bool.or_eq_false_iff, bne_eq_false_iff_eq] at h3
   omega
theorem subs_lt {d : D} {q : Sub × D} (h : q ∈ subs d) : q.2.size < d.size := by
 have hk : ∀ {x : D}, x ∈ d.kids → x.size < d.size := fun hx => D.size_kid_lt hx
 have hm : ∀ (f : Nat → D → Sub × D) (l : List D), (∀ i x, (f i x).2 = x) → (∀ x, x ∈ l → x ∈ d.kids) → q ∈ mapI f l → q.2.size < d.size := by
  intro f l hf hl hq
  obtain ⟨i, x, hx, rfl⟩ := mapI_mem hq
  rw [hf]; exact hk (hl x (List.mem_of_getElem? hx))
 unfold subs at h
 cases shape d with
 | none e => rw [e] at h; simp at h
 | num e => rw [e] at h; simp at h
 | name e => rw [e] at h; simp at h
 | quote e => rw [e] at h; simp at h
 | iff e hl => rw [e] at h; exact hm (fun i x => ((⟨[(i : Int) + 1], []⟩ : Sub), x)) (d.kids.drop 1) (fun _ _ => rfl) (fun x hx => List.mem_of_mem_drop hx) h
 | seqq e hl => rw [e] at h; exact hm (fun i x => ((⟨[(i : Int) + 1], []⟩ : Sub), x)) (d.kids.drop 1) (fun _ _ => rfl) (fun x hx => List.mem_of_mem_drop hx) h
 | fn e hl => rw [e] at h; simp at h; subst h; exact hk (getD_mem (n := 2) (by omega))
 | up e hl => rw [e] at h; simp at h; subst h; exact hk (getD_mem (n := 2) (by omega))
 | lett e hl =>
  rw [e] at h; simp at h
  rcases h with rfl | rfl
  ·exact hk (getD_mem (n := 2) (by omega))
  ·exact hk (getD_mem (n := 3) (by omega))
 | recc e hl hn =>
  rw [e] at h; simp at h
  rcases h with h | rfl
  ·obtain ⟨i, x, hx, rfl⟩ := mapI_mem h
   have hxm := List.mem_of_getElem? hx
   have h1 := D.size_kid_lt (getD_mem (l := x.kids) (n := 2) (by rw [grp_len hn hxm]; omega))
   have h2 := D.size_kid_lt hxm
   have h3 : (d1 d.kids).size < d.size := hk (getD_mem (n := 1) (by omega))
   show (d2 x.kids).size < d.size
   exact Nat.lt_trans h1 (Nat.lt_trans h2 h3)
  ·exact hk (getD_mem (n := 2) (by omega))
 | app e hl => rw [e] at h; exact hm _ _ (fun _ _ => rfl) (fun x hx => hx) (by simpa using h)
/-! ### recursion over expressions -/
def scataN {β : Type} (f : D → List (Sub × β) → β) : Nat → D → β
 | 0, d => f d []
 | n + 1, d => f d ((subs d).map fun q => (q.1, scataN f n q.2))
def scata {β : Type} (f : D → List (Sub × β) → β) (d : D) : β := scataN f d.size d
theorem scataN_eq {β : Type} (f : D → List (Sub × β) → β) : ∀ (n m : Nat) (d : D), d.size ≤ n → d.size ≤ m → scataN f n d = scataN f m d
 | 0, _, d, h, _ => by have := D.size_pos d; omega
 | _, 0, d, _, h => by have := D.size_pos d; omega
 | n + 1, m + 1, d, h1, h2 => by
  unfold scataN
  congr 1
  refine List.map_congr_left fun q hq => ?_
  have := subs_lt hq
  rw [scataN_eq f n m q.2 (by omega) (by omega)]
theorem scata_eq {β : Type} (f : D → List (Sub × β) → β) (d : D) : scata f d = f d ((subs d).map fun q => (q.1, scata f q.2)) := by
 unfold scata
 have := D.size_pos d
 obtain ⟨n, hn⟩ : ∃ n, d.size = n + 1 := ⟨d.size - 1, by omega⟩
 rw [hn, scataN]
 congr 1
 refine List.map_congr_left fun q hq => ?_
 have := subs_lt hq
 rw [scataN_eq f n q.2.size q.2 (by omega) (Nat.le_refl _)]
theorem D.indS {P : D → Prop} (h : ∀ d, (∀ q, q ∈ subs d → P q.2) → P d) (d : D) : P d := by
 have : ∀ n (d : D), d.size ≤ n → P d := by
  intro n
  induction n with
  | zero => intro d hd; have := D.size_pos d; omega
  | succ n ih => intro d hd; exact h d fun q hq => ih q.2 (by have := subs_lt hq; omega)
 exact this d.size d (Nat.le_refl _)
/-- An expression. -/
def synOk (d : D) : Bool := scata (fun d rs => synKind d != 0 && rs.all (·.2)) d
theorem synOk_eq (d : D) : synOk d = (synKind d != 0 && (subs d).all fun q => synOk q.2) := by
 show scata _ d = _
 rw [scata_eq, List.all_map]; rfl
/-- The names that are free, added to others. -/
def sfree (d : D) : List ByteArray → List ByteArray → List ByteArray :=
 scata (fun d rs l S => if (synKind d == 2) = true then (if memB l d.text = true then S else addS S d.text) else rs.foldl (fun S q => q.2 (q.1.ns.map (·.1) ++ l) S) S) d
theorem sfree_eq (d : D) (l S : List ByteArray) : sfree d l S = if (synKind d == 2) = true then (if memB l d.text = true then S else addS S d.text) else (subs d).foldl (fun S q => sfree q.2 (q.1.ns.map (·.1) ++ l) S) S := by
 show scata (β := List ByteArray → List ByteArray → List ByteArray) _ d l S = _
 rw [scata_eq]
 simp only [List.foldl_map]; rfl
end Go.Aw

namespace Go.Aw
open Go
variable {P : Program} {G : List (Nat × PV)} {B : Nat} {S : Nat → Nat → Prop} {w w' : World}
theorem RP.tab_inv {k : IntKind} {zs : List Int} {n : Nat} (h : RP B S w (.tab k zs) (.pointer (some ⟨n, 0, none⟩))) : ∃ e c, w.heap[n]? = some (.cells (zs.map (Value.int k)).toArray e c) := by
 cases h with
 | tab hb hh => exact ⟨_, _, hh⟩

theorem tabIs_of {name : String} {k : IntKind} {zs : List Int} {n : Nat} (hn : P.globalNamed name = some n) (h : RP B S w (.tab k zs) (.pointer (some ⟨n, 0, none⟩))) : Lib.TabIs P w name k zs := by
 obtain ⟨e, c, hh⟩ := h.tab_inv
 simp only [Lib.TabIs, World.var?, hn, Option.bind_some, hh]

theorem grow_heap (w : World) (n : Nat) (os : Array Obj) (b : Nat) (hb : b < w.heap.size) : (Sort.grow (w.drewN n) os).heap[b]? = w.heap[b]? := by
 show (w.heap ++ os)[b]? = w.heap[b]?
 rw [Array.getElem?_append_left hb]

theorem pur_of_callsT {f : FuncId} {ps : List PV} {q : PV} {name : String} {k : IntKind} {zs : List Int} {n : Nat} (l : List KA) (hps : fitsAll l ps = true) (a : KA) (hq : a.fits q = true) (hn : P.globalNamed name = some n) (hG : (n, PV.tab k zs) ∈ G)
  (h : ∀ w, Lib.TabIs P w name k zs → Calls P f (ps.map atomV).toArray w fun e w' => e = .returned (atomV q) ∧ ∃ m os, w' = Sort.grow (w.drewN m) os) : Pur P G f (ps.map .pv) (.pv q) := by
 intro σ hgl g w cargs hinv hlen hargs
 have hc : cargs = ps.map atomV := by
  refine fitsAll_val (B := g.B) (S := g.S) (w := w) hps (by simpa using hlen) (fun i x v hx hv => ?_)
  exact (hargs i (.pv x) v (by simp [hx]) hv).pv_inv
 subst hc
 have ht := tabIs_of hn (hinv.glob n (.tab k zs) (by rw [hgl]; exact hG))
 refine (h w ht).mono ?_
 rintro e w' ⟨rfl, m, os, rfl⟩
 have hs : w.heap.size ≤ (Sort.grow (w.drewN m) os).heap.size := by
  show w.heap.size ≤ (w.heap ++ os).size
  simp
 obtain ⟨h1, h2⟩ := hinv.step hs (fun b hb => grow_heap w m os b hb)
 refine ⟨_, _, _, g, rfl, ⟨rfl, rfl⟩, h1, ⟨h2, rfl, fun _ h => h, fun b hb => grow_heap w m os b (hinv.kept b hb).1, hs, rfl, rfl, rfl, hinv.lio, hinv.clo⟩, .pv ?_⟩
 cases a <;> cases q <;> simp [KA.fits] at hq <;> constructor
end Go.Aw

namespace Go.Aw
open Go
theorem numb_fst (l : List ByteArray) (n : Int) : (numb l n).map (·.1) = l := by
 unfold numb
 apply List.ext_getElem?
 intro i
 rw [List.getElem?_map, mapI_get]
 cases l[i]? <;> rfl
def sub0 (i : Nat) (x : D) : Sub × D := (⟨[(i : Int)], []⟩, x)
def sub1 (i : Nat) (x : D) : Sub × D := (⟨[(i : Int) + 1], []⟩, x)
def subR (d : D) (i : Nat) (x : D) : Sub × D := (⟨[1, (i : Int), 2], (numb (parS x) (fromS (d1 d.kids).kids i)).reverse ++ (numb (ownS d) 0).reverse⟩, d2 x.kids)
def subL (d : D) (n : Int) (x : D) : Sub × D := (⟨[n], (numb (ownS d) 0).reverse⟩, x)
theorem subs_of_rest {d : D} (h : synKind d = 4 ∨ synKind d = 8) : subs d = mapI sub1 (d.kids.drop 1) := by
 unfold subs; rcases h with h | h <;> rw [h] <;> rfl
theorem subs_of_app {d : D} (h : synKind d = 10) : subs d = mapI sub0 d.kids := by unfold subs; rw [h]; rfl
theorem subs_of_fn {d : D} (h : synKind d = 5 ∨ synKind d = 9) : subs d = [subL d 2 (d2 d.kids)] := by
 unfold subs; rcases h with h | h <;> rw [h] <;> rfl
theorem subs_of_let {d : D} (h : synKind d = 6) : subs d = [(⟨[2], []⟩, d2 d.kids), subL d 3 (d.kids.getD 3 dnone)] := by unfold subs; rw [h]; rfl
theorem subs_of_rec {d : D} (h : synKind d = 7) : subs d = mapI (subR d) (d1 d.kids).kids ++ [subL d 2 (d2 d.kids)] := by unfold subs; rw [h]; rfl
theorem subs_of_none {d : D} (h : synKind d = 0 ∨ synKind d = 1 ∨ synKind d = 2 ∨ synKind d = 3) : subs d = [] := by
 unfold subs; rcases h with h | h | h | h <;> rw [h] <;> rfl
end Go.Aw

namespace Go.Aw
open Go
theorem setS_new {σ : Store} {ob : AObj} {S : List ByteArray} : setS { σ with objs := σ.objs ++ [ob] } σ.objs.length S = { σ with objs := σ.objs ++ [.map (tK S) (tV S)] } := by simp [setS]
end Go.Aw

namespace Go.Aw
open Go
theorem badAt_eq {l : List D} {k : Nat} {x : D} (h : l[k]? = some x) : badAt l k = (!nmS x || memB (((l.map D.text).take k).foldl addS []) x.text) := by
 unfold badAt
 rw [h, memB_fold, ← List.map_take]
 rfl
theorem tK_nil : tK [] = [] := rfl
theorem tV_nil : tV [] = [] := rfl
theorem head_get {d y : D} (h : d.kids[0]? = some y) : d.head = y := by unfold D.head; rw [List.headD_eq_head?_getD, List.head?_eq_getElem?, h]; rfl
theorem syn_len (d : D) : ((synKind d = 5 ∨ synKind d = 9 ∨ synKind d = 7) → d.kids.length = 3) ∧ (synKind d = 6 → d.kids.length = 4) ∧ (synKind d = 7 → ∀ x, x ∈ (d1 d.kids).kids → x.kids.length = 3) := by
 refine ⟨fun h => ?_, fun h => ?_, fun h x hx => ?_⟩
 ·cases shape d <;> first | assumption | (rename_i e _; rw [e] at h; simp at h; done) | (rename_i e; rw [e] at h; simp at h; done) | (rename_i e _ _; rw [e] at h; simp at h; done) | (rename_i e _ _ _; rw [e] at h; simp at h; done)
 ·cases shape d <;> first | assumption | (rename_i e _; rw [e] at h; simp at h; done) | (rename_i e; rw [e] at h; simp at h; done) | (rename_i e _ _; rw [e] at h; simp at h; done) | (rename_i e _ _ _; rw [e] at h; simp at h; done)
 ·cases shape d <;> first | (exact grp_len (by assumption) hx) | (rename_i e _; rw [e] at h; simp at h; done) | (rename_i e; rw [e] at h; simp at h; done) | (rename_i e _ _; rw [e] at h; simp at h; done) | (rename_i e _ _ _; rw [e] at h; simp at h; done)
theorem take_two {l : List D} {x : D} (h : l[1]? = some x) : (List.take 2 (l.map enc)).tail = [enc x] := by
 match l, h with
 | a :: b :: r, h =>
  simp only [List.getElem?_cons_succ, List.getElem?_cons_zero, Option.some.injEq] at h
  subst h; rfl
theorem sum_take_next {ls : List (List Int)} {k : Nat} {x : List Int} (h : ls[k]? = some x) : ((ls.map List.length).take (k + 1)).sum = ((ls.map List.length).take k).sum + x.length := by
 rw [take_next (l := ls.map List.length) (k := k) (x := x.length) (by rw [List.getElem?_map, h]; rfl), List.sum_append]; simp
theorem flat_take_next {ls : List (List Int)} {k : Nat} {x : List Int} (h : ls[k]? = some x) : (ls.take (k + 1)).flatten = (ls.take k).flatten ++ x := by
 rw [take_next h, List.flatten_append]; simp
theorem sum_take_le (ls : List (List Int)) (k : Nat) : ((ls.map List.length).take k).sum ≤ (ls.map List.length).sum := by
 conv => rhs; rw [← List.take_append_drop k (ls.map List.length), List.sum_append]
 omega
theorem flatten_len (ls : List (List Int)) (k : Nat) : (ls.take k).flatten.length = ((ls.map List.length).take k).sum := by rw [List.length_flatten, List.map_take]
theorem tail_len (d : D) : (synKind d = 4 ∨ synKind d = 8) → 1 ≤ d.kids.length := by
 intro h
 cases shape d <;> first | omega | (rename_i e _; rw [e] at h; simp at h; done) | (rename_i e; rw [e] at h; simp at h; done) | (rename_i e _ _; rw [e] at h; simp at h; done) | (rename_i e _ _ _; rw [e] at h; simp at h; done)
/-- Where the last parts lie. -/
def TailOk (d : D) (fr bs : Nat) : Prop := bs + (d.kids.drop fr).length = (subs d).length ∧ ∀ (k : Nat) (x : D), (d.kids.drop fr)[k]? = some x → ∃ q, (subs d)[bs + k]? = some q ∧ q.1.p = [(fr : Int) + (k : Int)] ∧ q.2 = x
theorem tail_rest {d : D} (h : synKind d = 4 ∨ synKind d = 8) : TailOk d 1 0 := by
 rw [TailOk, subs_of_rest h]
 refine ⟨by rw [mapI_length]; omega, fun k x hx => ⟨sub1 k x, by rw [Nat.zero_add, mapI_get, hx]; rfl, ?_, rfl⟩⟩
 show [(k : Int) + 1] = [((1 : Nat) : Int) + (k : Int)]
 rw [Int.add_comm]; rfl
theorem tail_app {d : D} (h : synKind d = 10) : TailOk d 0 0 := by
 rw [TailOk, subs_of_app h]
 refine ⟨by rw [mapI_length]; simp, fun k x hx => ⟨sub0 k x, by rw [Nat.zero_add, mapI_get]; rw [List.drop_zero] at hx; rw [hx]; rfl, ?_, rfl⟩⟩
 show [(k : Int)] = [((0 : Nat) : Int) + (k : Int)]
 rw [Int.natCast_zero, Int.zero_add]
theorem drop_two {l : List D} (h : l.length = 3) : l.drop 2 = [d2 l] := by
 match l, h with
 | [a, b, c], _ => rfl
theorem drop_two4 {l : List D} (h : l.length = 4) : l.drop 2 = [d2 l, l.getD 3 dnone] := by
 match l, h with
 | [a, b, c, e], _ => rfl
theorem tail_fn {d : D} (h : synKind d = 5 ∨ synKind d = 9) : TailOk d 2 0 := by
 have hl := (syn_len d).1 (h.elim .inl fun e => .inr (.inl e))
 rw [TailOk, subs_of_fn h, drop_two hl]
 refine ⟨rfl, fun k x hx => ?_⟩
 match k, hx with
 | 0, hx => simp at hx; subst hx; exact ⟨_, rfl, rfl, rfl⟩
theorem tail_let {d : D} (h : synKind d = 6) : TailOk d 2 0 := by
 have hl := (syn_len d).2.1 h
 rw [TailOk, subs_of_let h, drop_two4 hl]
 refine ⟨rfl, fun k x hx => ?_⟩
 match k, hx with
 | 0, hx => simp at hx; subst hx; exact ⟨_, rfl, rfl, rfl⟩
 | 1, hx => simp at hx; subst hx; exact ⟨_, rfl, rfl, rfl⟩
theorem tail_rec {d : D} (h : synKind d = 7) : TailOk d 2 (d1 d.kids).kids.length := by
 have hl := (syn_len d).1 (.inr (.inr h))
 rw [TailOk, subs_of_rec h, drop_two hl]
 refine ⟨by rw [List.length_append, mapI_length]; rfl, fun k x hx => ?_⟩
 match k, hx with
 | 0, hx =>
  simp at hx; subst hx
  exact ⟨_, by rw [List.getElem?_append_right (by rw [mapI_length]; omega), mapI_length]; simp; rfl, rfl, rfl⟩
theorem rec_part {d : D} (h : synKind d = 7) {i : Nat} {x : D} (hx : (d1 d.kids).kids[i]? = some x) : ∃ q, (subs d)[i]? = some q ∧ q.1.p = [1, (i : Int), 2] ∧ q.2 = d2 x.kids := by
 rw [subs_of_rec h]
 refine ⟨subR d i x, ?_, rfl, rfl⟩
 rw [List.getElem?_append_left (by rw [mapI_length]; exact (List.getElem?_eq_some_iff.1 hx).1), mapI_get, hx]; rfl
end Go.Aw

namespace Go.Aw
open Go
def precRow (t : List Nat) (es : List Nat) : Nat := es.foldl (fun a j => a ||| ((1 <<< j) ||| t.getD j 0)) 0
def precTab (ops : Array Oper) : Nat → List Nat
  | 0 => []
  | n + 1 => let t := precTab ops n; t ++ [precRow t (edges ops .any n)]
def drawOkT (ops : Array Oper) (m : Nat) : Bool :=
  goesOn ops .any && goesOn ops .text && goesOn ops .gc &&
  (let t := precTab ops ops.size
   (List.range ops.size).all fun i =>
    ((edges ops .any i).all fun j => decide (j < i)) &&
    (let p := t.getD i 0
     (List.range i).all fun k => p.testBit k || (decide (i < m) && (match ops[k]?, ops[i]? with | some ok, some oi => swapOk ops ok oi | _, _ => false))))

theorem precRow_bit {t : List Nat} {k : Nat} : ∀ {es : List Nat} {a : Nat}, (es.foldl (fun a j => a ||| ((1 <<< j) ||| t.getD j 0)) a).testBit k = true → a.testBit k = true ∨ ∃ j, j ∈ es ∧ (k = j ∨ (t.getD j 0).testBit k = true)
  | [], a, h => .inl h
  | j :: es, a, h => by
    rw [List.foldl_cons] at h
    rcases precRow_bit h with h | ⟨j', h1, h2⟩
    · simp only [Nat.testBit_or, Bool.or_eq_true] at h
      rcases h with h | h | h
      · exact .inl h
      · refine .inr ⟨j, by simp, .inl ?_⟩
        rw [Nat.one_shiftLeft, Nat.testBit_two_pow] at h
        simpa [eq_comm] using h
      · exact .inr ⟨j, by simp, .inr h⟩
    · exact .inr ⟨j', by simp [h1], h2⟩

theorem precTab_len (ops : Array Oper) : ∀ n, (precTab ops n).length = n
  | 0 => rfl
  | n + 1 => by simp [precTab, precTab_len ops n]
theorem precTab_get (ops : Array Oper) : ∀ n i, i < n → (precTab ops n).getD i 0 = precRow (precTab ops i) (edges ops .any i)
  | 0, i, h => by omega
  | n + 1, i, h => by
    simp only [precTab, List.getD_eq_getElem?_getD]
    by_cases hi : i < n
    · rw [List.getElem?_append_left (by rw [precTab_len]; exact hi)]
      have := precTab_get ops n i hi
      rw [List.getD_eq_getElem?_getD] at this
      exact this
    · have : i = n := by omega
      subst this
      rw [List.getElem?_append_right (by rw [precTab_len]; omega), precTab_len]
      simp

theorem precTab_sound (ops : Array Oper) (hd : ∀ i, i < ops.size → ∀ j, j ∈ edges ops .any i → j < i) : ∀ i, i < ops.size → ∀ k f, i + 1 ≤ f → ((precTab ops ops.size).getD i 0).testBit k = true → k ∈ precs ops f i := by
  intro i
  induction i using Nat.strongRecOn with
  | _ i ih =>
    intro hi k f hf h
    rw [precTab_get ops _ i hi] at h
    unfold precRow at h
    obtain ⟨f, rfl⟩ : ∃ g, f = g + 1 := ⟨f - 1, by omega⟩
    rw [precs, List.mem_append, List.mem_flatMap]
    rcases precRow_bit h with h | ⟨j, h1, h2⟩
    · simp at h
    · have hj := hd i hi j h1
      rcases h2 with rfl | h2
      · exact .inl h1
      · refine .inr ⟨j, h1, ih j hj (by omega) k f (by omega) ?_⟩
        rw [precTab_get ops _ j (by omega)]
        rw [precTab_get ops i j hj] at h2
        exact h2

theorem drawOk_of {ops : Array Oper} {m : Nat} (h : drawOkT ops m = true) : drawOk ops m = true := by
  simp only [drawOkT, drawOk, Bool.and_eq_true, List.all_eq_true, List.mem_range, Bool.or_eq_true, decide_eq_true_eq] at h ⊢
  refine ⟨h.1, fun i hi k hk => ?_⟩
  rcases (h.2 i hi).2 k hk with h1 | h1
  · left
    rw [List.contains_iff_mem]
    exact precTab_sound ops (fun i hi => (h.2 i hi).1) i hi k ops.size (by omega) h1
  · exact .inr h1
end Go.Aw

namespace Go.Aw
open Go
section
variable {P : Program} {ty : TyT} {g0 g : Ghost} {σ0 : Store} {w0 w : World} {N : Nat} {s : St} {a : Act} {o : Oper} {x : AV} {next : St → Prop} {tk : List Tok} {ops : Array Oper} {os : List Oper} {K : St → Prop} {L : List (List AV)} {σ : Store}
theorem RelG.newRow (r : RelG g0 σ0 w0 N g s a w) (hd : dstOk N o.dst = true) {e : TypeId} {sz cap : Nat} {ys : List PV} {us rest : List Value} (hsz : ∀ x, x ∈ ys → x.cells.length = sz) (hcap : ys.length ≤ cap) (hmax : cap ≤ maxLen) (hul : us.length = ys.length * sz)
  (hrl : rest.length = (cap - ys.length) * sz) (hu1 : ∀ v, v ∈ us → v.oneCell' = true) (hur : ∀ (i : Nat) x u, (flat ys)[i]? = some x → us[i]? = some u → RP g.B g.S w x u) (h0 : 0 < cap) :
  ∃ g', RelG g0 σ0 w0 N g' (({ s with σ := { s.σ with objs := s.σ.objs ++ [.row e sz cap ys] } } : St).put o.dst (.scr s.σ.objs.length ys.length cap)) (a.put o.dst (.slice (some ⟨w.heap.size, 0, none⟩) ys.length cap)) (w.drew.alloc (.cells (us ++ rest).toArray e)) := by
 have k := r.2.1.drewN (w' := w.drew) rfl
 have r1 : RelG g0 σ0 w0 N g s a w.drew := r.later (σ' := s.σ) (L' := s.L) k.2 (fun _ _ h => h) k.1 rfl rfl (fun _ _ => rfl) (Nat.le_refl _) rfl rfl rfl
 obtain ⟨r2, f⟩ := r1.alloc (.cells (us ++ rest).toArray e)
 have hal := k.1.alloc (.cells (us ++ rest).toArray e)
 have hle := k.2.trans hal.2
 have hb : (w.drew.alloc (.cells (us ++ rest).toArray e)).heap[w.heap.size]? = some (.cells (us ++ rest).toArray e (0, 0)) := heap_alloc_at w.drew _
 have r3 := r2.addObj f (ob := .row e sz cap ys) ⟨hsz, hcap, hmax, us, rest, hb, hul, hrl, hu1, fun i x u hx hu => (hur i x u hx hu).mono hle.keeps⟩
 have hio : (g.io ++ [w.drew.heap.size])[s.σ.objs.length]? = some w.heap.size := by
  rw [← r.2.1.lio]; simp
 exact ⟨_, r3.put (.scr hio hcap h0) hd⟩

/-- Appended to nothing: a row of its own. -/
theorem aop_appendRow (hty : TyOk P ty) {p q : Operand} {t e : TypeId} {ti te : TyI} {ys : List PV} (ho : o.op = .call { callee := .builtin .append, args := #[p, q], argTypes := #[t, t] }) (hti : ty t = some ti) (hk : ti.kind = .slice e) (hte : ty e = some te)
  (hp : ev s p = .full []) (hq : (ev s q).elems = some ys) (hy0 : ys ≠ []) (hys : allSz te.size ys = true) (hb0 : 0 < te.bytes) (hbytes : ys.length * te.bytes ≤ 140737488355328) (hd : dstOk N o.dst = true)
  (hnx : ∀ cap, ys.length ≤ cap → next (({ s with σ := { s.σ with objs := s.σ.objs ++ [.row e te.size cap ys] } } : St).put o.dst (.scr s.σ.objs.length ys.length cap))) : AOp P σ0 N o next s := by
 rintro g0 w0 a w nx Q ⟨g, r⟩ hnext
 obtain ⟨i, z, h7, h8, h9, h10, h11, h12, h13⟩ := (hty _ _ hte).info
 have hut := (hty _ _ hti).slice hk
 have hysz : ∀ x, x ∈ ys → x.cells.length = te.size := by simpa [allSz] using hys
 have hu := (r.ev q).elems hq
 obtain ⟨ad2, c2, us, hqv, hc2, hul, hu1, hur, huc, hua⟩ := hu.row_cells hysz
 obtain ⟨b2, off2, rfl⟩ := hua hy0
 have hm0 : 0 < ys.length := List.length_pos_iff.2 hy0
 have hyl : ys.length ≤ 140737488355328 := Nat.le_trans (Nat.le_mul_of_pos_right _ hb0) hbytes
 have hnews : ∀ (j : Nat) (u : Value), us[j]? = some u → w.cell? ((⟨b2, off2, none⟩ : Addr).add j) = some u := by
  intro j u hj
  obtain ⟨b, off, hbo, h1, h2⟩ := huc j u hj
  cases hbo
  rw [add_zero_addr]; exact h2
 have hpr := r.ev p
 rw [hp] at hpr
 generalize hpv : a.eval p = pv at hpr
 have hge := grownCap_ge w ys.length 0 e
 have hcm : grownCap w ys.length 0 e ≤ maxLen := grownCap_le_maxLen w _ 0 e (by simp only [maxLen]; omega)
 have hrun : (execOp a.eval o).run P w = .ok (.value (.slice (some ⟨w.heap.size, 0, none⟩) ys.length (grownCap w ys.length 0 e))) (w.drew.alloc (.cells (us ++ (Builtin.zeroCells z.cells (grownCap w ys.length 0 e - ys.length)).toList).toArray e)) := by
  refine exec_append ho ?_
  rw [hpv, hqv]
  have harr : (us ++ (Builtin.zeroCells z.cells (grownCap w ys.length 0 e - ys.length)).toList).toArray = us.toArray ++ Builtin.zeroCells z.cells (grownCap w ys.length 0 e - ys.length) := by
   apply Array.ext'; simp
  rw [harr]
  have hpv0 : ∃ ad, pv = .slice ad 0 0 := by
   cases hpr with
   | full h =>
    obtain ⟨ad', c', e1⟩ := h.slice_len
    simp only [List.length_nil, Value.slice.injEq] at e1
    obtain ⟨_, e2, _⟩ := e1
    exact ⟨_, by rw [e2]⟩
  clear hpr
  obtain ⟨ad, rfl⟩ := hpv0
  cases ad with
  | none => exact run_append_nil (P := P) w t o.type e i z hut h7 h10 ⟨b2, off2, none⟩ ys.length c2 us (by rw [h8]; exact hul) hnews hm0 (by omega) (by rw [h9]; omega)
  | some ad =>
   have hfit := growslice_fits (need := ys.length) (old := 0) (bytes := i.bytes) hm0 (by rw [h9]; exact hbytes)
   have hrr := run_append_grow (P := P) w t o.type e i z hut h7 h10 ad 0 0 [] (by rw [Nat.zero_mul]; rfl) (fun j u hj => by cases hj) ⟨b2, off2, none⟩ ys.length c2 us (by rw [h8]; exact hul) hnews (by omega) (by omega) (by rw [Nat.zero_add]; exact hfit)
   rw [Nat.zero_add] at hrr
   have e0 : ([] : List Value).toArray ++ us.toArray = us.toArray := by simp
   rw [e0] at hrr
   exact hrr
 unfold opW
 rw [hrun]
 generalize grownCap w ys.length 0 e = cap at hge hcm
 obtain ⟨g', r'⟩ := r.newRow (o := o) hd (e := e) (sz := te.size) (cap := cap) (ys := ys) (us := us) (rest := (Builtin.zeroCells z.cells (cap - ys.length)).toList) hysz hge hcm hul (by rw [Array.length_toList, size_zeroCells, h12]) hu1 hur (by omega)
 exact hnext _ _ _ (hnx cap hge) ⟨g', r'⟩

theorem Inv.setRow (h : Inv g σ L w) {i b : Nat} {ob' : Obj} (hb : w.heap[b]? = some ob') (hi : g.io[i]? = some b) {e : TypeId} {sz cap : Nat} {ys : List PV} {us rest : List Value} (hsz : ∀ x, x ∈ ys → x.cells.length = sz) (hcap : ys.length ≤ cap) (hmax : cap ≤ maxLen) (hul : us.length = ys.length * sz)
  (hrl : rest.length = (cap - ys.length) * sz) (hu1 : ∀ v, v ∈ us → v.oneCell' = true) (hur : ∀ (i : Nat) x u, (flat ys)[i]? = some x → us[i]? = some u → RP g.B g.S w x u) :
  Inv g { σ with objs := σ.objs.set i (.row e sz cap ys) } L (setBlk w b (.cells (us ++ rest).toArray e (0, 0))) := by
 obtain ⟨le, hK⟩ := h.turn (ob := .cells (us ++ rest).toArray e (0, 0)) hb (.inl (List.mem_of_getElem? hi))
 have ap := h.apart
 have hbl : b ∈ g.io := List.mem_of_getElem? hi
 refine ⟨by simp [h.lio], h.llam, h.ltb, fun n p hp => (h.glob n p hp).mono le.keeps, h.nodup, fun c hc => by rw [setBlk_size]; exact h.low c hc, fun c hc => by rw [setBlk_size]; exact h.kept c hc, by rw [setBlk_size]; exact h.base, fun c o hS => by rw [setBlk_size]; exact h.cells c o hS, fun j ob c ho hio => ?_, fun j cs' c hL hl => ?_, fun k t tb ht htb => ?_⟩
 ·simp only [List.getElem?_set] at ho
  split at ho
  ·subst_vars
   rw [hi] at hio; cases hio
   split at ho
   ·cases ho
    exact ⟨hsz, hcap, hmax, us, rest, setBlk_at hb, hul, hrl, hu1, fun i x u hx hu => (hur i x u hx hu).mono le.keeps⟩
   ·cases ho
  ·refine (h.objs j ob c ho hio).mono le (fun _ _ h => h) (setBlk_other ?_)
   rintro rfl; exact ‹¬ i = j› (nodup_get ap.1.1 hi hio)
 ·refine (h.priv j cs' c hL hl).mono le (fun _ _ h => h) (setBlk_other ?_)
  rintro rfl; exact ap.2.1 _ hbl (List.mem_of_getElem? hl)
 ·obtain ⟨cur, h1, h2⟩ := h.toks k t tb ht htb
  refine ⟨cur, (setBlk_other ?_).trans h1, h2⟩
  intro he; exact (ap.2.2 k tb htb).1 (he ▸ hbl)

end
section
variable {ρ : Option Nat} {P : Program} {σ0 : Store} {N : Nat} {s : St} {Q : Exit → St → Prop}
end
end Go.Aw

namespace Go.Aw
open Go
section
variable {P : Program} {g : Ghost} {σ : Store} {L : List (List AV)} {w : World}
theorem Inv.newTok (h : Inv g σ L w) {t : Tok} (h0 : t.n = 0) {b cap : Nat} (f : Fresh g w b) {cur : Array Value} (hb : w.heap[b]? = some (.cells cur t.e (0, 0))) (hsz : cur.size = cap * t.sz) (hm : cap ≤ maxLen) :
  Inv { g with tb := g.tb ++ [some ⟨b, cap⟩] } { σ with toks := σ.toks ++ [t] } L w ∧ Le g σ.toks w { g with tb := g.tb ++ [some ⟨b, cap⟩] } (σ.toks ++ [t]) w := by
 have le : Le g σ.toks w { g with tb := g.tb ++ [some ⟨b, cap⟩] } (σ.toks ++ [t]) w := by
  refine ⟨rfl, Keeps.refl _ _ _, fun _ _ h => h, fun k t' ht => ⟨t', snoc_left ht, rfl, rfl, Nat.le_refl _, fun _ => ?_⟩⟩
  have hlt : k < g.tb.length := by rw [h.ltb]; exact (List.getElem?_eq_some_iff.1 ht).1
  exact List.getElem?_append_left hlt
 have hown : ({ g with tb := g.tb ++ [some ⟨b, cap⟩] } : Ghost).owned = g.owned ++ [b] := by simp [Ghost.owned]
 refine ⟨⟨h.lio, h.llam, by simp [h.ltb], h.glob, ?_, ?_, h.kept, h.base, h.cells, fun o ob c ho hio => (h.objs o ob c ho hio).mono le (fun _ _ h => h) rfl, fun i cs c hL hl => (h.priv i cs c hL hl).mono le (fun _ _ h => h) rfl, fun k t' tb ht htb => ?_⟩, le⟩
 ·rw [hown]
  refine List.nodup_append.2 ⟨h.nodup, by simp, fun x hx y hy e => ?_⟩
  rw [List.mem_singleton] at hy
  subst hy e
  exact f.own hx
 ·rw [hown]
  intro c hc
  rcases List.mem_append.1 hc with hc | hc
  ·exact h.low c hc
  ·rw [List.mem_singleton] at hc
   subst hc
   exact ⟨f.low, f.lt, f.K⟩
 ·rcases getElem?_snoc htb with hb2 | ⟨hk, hb2⟩
  ·have hlt : k < σ.toks.length := by rw [← h.ltb]; exact (List.getElem?_eq_some_iff.1 hb2).1
   simp only [List.getElem?_append_left hlt] at ht
   exact h.toks k t' tb ht hb2
  ·simp only [Option.some.injEq] at hb2
   subst hb2
   have hkk : k = σ.toks.length := by rw [← h.ltb]; exact hk
   subst hkk
   simp only [List.getElem?_append_right (Nat.le_refl _), Nat.sub_self, List.getElem?_cons_zero, Option.some.injEq] at ht
   subst ht
   exact ⟨cur, hb, hsz, by rw [h0]; exact Nat.zero_le _, hm, fun o hS => absurd hS (f.S o)⟩
theorem acalls_grow {f : FuncId} {e : TypeId} (hroom : ∀ w, Calls P f #[.slice none 0 0, .int .i64 (0 : Nat)] w fun r w' => r = .returned (.slice none 0 0) ∧ w' = w)
  (hgrow : ∀ (n : Nat) w, 0 < n → n ≤ 1000000000 → Calls P f #[.slice none 0 0, .int .i64 n] w fun r w' => ∃ (cap : Nat) (cur : Array Value), r = .returned (.slice (some ⟨w.heap.size, 0, none⟩) 0 cap) ∧ w' = w.drew.alloc (.cells cur e) ∧ cur.size = cap ∧ cap ≤ maxLen)
  (n : Nat) (hn : n ≤ 1000000000) (σ : Store) : ACalls P f [.pv .nils, .pv (.int .i64 n)] σ fun r σ' => r = .acc [] σ.toks.length ∧ σ' = { σ with toks := σ.toks ++ [⟨0, e, 1⟩] } := by
 intro g w cargs hinv hlen hargs
 have hc : cargs.toArray = #[.slice none 0 0, .int .i64 n] := by
  match cargs, hlen with
  | [u, v], hl2 =>
   have h1 := (hargs 0 _ u rfl rfl).pv_inv.nils_inv
   have h2 := (hargs 1 _ v rfl rfl).pv_inv.int_inv
   rw [h1, h2]
 rw [hc]
 by_cases hn0 : n = 0
 ·subst hn0
  refine (hroom w).mono ?_
  rintro r w' ⟨rfl, rfl⟩
  obtain ⟨i1, le1⟩ := hinv.adopt ⟨0, e, 1⟩
  refine ⟨_, _, _, _, rfl, ⟨rfl, rfl⟩, i1, ⟨le1, rfl, fun _ h => h, fun _ _ => rfl, Nat.le_refl _, rfl, rfl, rfl, hinv.lio, hinv.clo⟩, ?_⟩
  exact .acc (t := ⟨0, e, 1⟩) .empty (by simp) (Nat.le_refl _) (fun x hx => by simp at hx) (fun _ => .inr ⟨none, rfl⟩)
 ·refine (hgrow n w (by omega) hn).mono ?_
  rintro r w' ⟨cap, cur, rfl, rfl, hcs, hcm⟩
  have hst := (hinv.drewN (w' := w.drew) rfl)
  have hal := hst.1.alloc (.cells cur e)
  have hfr := hst.1.fresh (.cells cur e)
  obtain ⟨i1, le1⟩ := hal.1.newTok (t := ⟨0, e, 1⟩) rfl (b := w.heap.size) (cap := cap) (cur := cur) hfr (heap_alloc_at w.drew _) (by simp [hcs]) hcm
  have le := hst.2.trans (hal.2.trans le1)
  refine ⟨_, _, _, _, rfl, ⟨rfl, rfl⟩, i1, ⟨le, rfl, fun _ h => h, fun b hK => Go.RowKit.Below.heap_alloc w.drew _ b (hinv.kept b hK).1, by simp, rfl, rfl, rfl, hinv.lio, hinv.clo⟩, ?_⟩
  refine .acc (t := ⟨0, e, 1⟩) .empty (by simp) (Nat.le_refl _) (fun x hx => by simp at hx) (fun _ => .inl ⟨⟨w.heap.size, cap⟩, ?_, rfl⟩)
  have hlt : σ.toks.length = g.tb.length := hinv.ltb.symm
  rw [hlt]; simp
end
end Go.Aw

namespace Go.Aw
open Go
section
variable {ρ : Option Nat} {P : Program} {ty : TyT} {g0 g : Ghost} {σ0 σ : Store} {w0 w : World} {N M : Nat} {s : St} {a : Act} {tk : List Tok} {L : List (List AV)}
theorem putObj_setBlk (w : World) (b : Nat) (ob : Obj) : w.putObj b ob = setBlk w b ob := rfl

/-- The record of a loop turns. -/
theorem Inv.setRec (h : Inv g σ L w) {o b l : Nat} {st : LoopState} {pe : Option Code} {T : List (Nat × AV)} {ps : Array Tmp} {asg body : Code} (hi : g.io[o]? = some b) (ho : σ.objs[o]? = some (.loop l st pe T M ps asg body)) :
  b = l ∧ ∃ r : Loop, w.heap[b]? = some (.loop r) ∧ r.state = st ∧ r.pending = pe ∧ r.params = ps ∧ r.assign = asg ∧ r.body = body ∧ r.tmps.size = M ∧ (∀ t, RA g σ.toks w (get T t) (r.tmps.getD t undef)) ∧ (∀ x, x ∈ T.map (·.2) → x.noL = true) ∧
   ∀ st' pe', Inv g { σ with objs := σ.objs.set o (.loop l st' pe' T M ps asg body) } L (w.putObj b (.loop { r with state := st', pending := pe' })) ∧
    Le g σ.toks w g σ.toks (w.putObj b (.loop { r with state := st', pending := pe' })) ∧ ∀ c : Nat, g.K c → (w.putObj b (.loop { r with state := st', pending := pe' })).heap[c]? = w.heap[c]? := by
 obtain ⟨⟨hbl, hnl, hnd⟩, fn, tmps, D, k1, k2, k3⟩ := h.objs o _ b ho hi
 refine ⟨hbl, _, k1, rfl, rfl, rfl, rfl, rfl, k2, k3, hnl, fun st' pe' => ?_⟩
 rw [putObj_setBlk]
 obtain ⟨le, hK⟩ := h.turn (ob := .loop { state := st', pending := pe', fn, tmps, params := ps, assign := asg, body, defers := D }) k1 (.inl (List.mem_of_getElem? hi))
 refine ⟨?_, le, hK⟩
 have ap := h.apart
 have hbm : b ∈ g.io := List.mem_of_getElem? hi
 refine ⟨by simp [h.lio], h.llam, h.ltb, fun n p hp => (h.glob n p hp).mono le.keeps, h.nodup, fun c hc => by rw [setBlk_size]; exact h.low c hc, fun c hc => by rw [setBlk_size]; exact h.kept c hc, by rw [setBlk_size]; exact h.base, fun c o hS => by rw [setBlk_size]; exact h.cells c o hS, fun j ob c ho' hio => ?_, fun j cs' c hL hl => ?_, fun k t tb ht htb => ?_⟩
 ·simp only [List.getElem?_set] at ho'
  split at ho'
  ·subst_vars
   rw [hi] at hio; cases hio
   split at ho'
   ·cases ho'
    exact ⟨⟨rfl, hnl, hnd⟩, fn, tmps, D, setBlk_at k1, rfl, fun t => (k3 t).mono le (fun _ _ h => h)⟩
   ·cases ho'
  ·refine (h.objs j ob c ho' hio).mono le (fun _ _ h => h) (setBlk_other ?_)
   rintro rfl; exact ‹¬ o = j› (nodup_get ap.1.1 hi hio)
 ·refine (h.priv j cs' c hL hl).mono le (fun _ _ h => h) (setBlk_other ?_)
  rintro rfl; exact ap.2.1 _ hbm (List.mem_of_getElem? hl)
 ·obtain ⟨cur, h1, h2⟩ := h.toks k t tb ht htb
  refine ⟨cur, (setBlk_other ?_).trans h1, h2⟩
  intro he; exact (ap.2.2 k tb htb).1 (he ▸ hbm)

/-- The record in the store turns. -/
def Store.rec_ (σ : Store) (o l : Nat) (st : LoopState) (pe : Option Code) (T : List (Nat × AV)) (M : Nat) (ps : Array Tmp) (asg body : Code) : Store := { σ with objs := σ.objs.set o (.loop l st pe T M ps asg body) }

theorem RelG.setRec (r : RelG g0 σ0 w0 N g s a w) {o b l : Nat} {st : LoopState} {pe : Option Code} {T : List (Nat × AV)} {ps : Array Tmp} {asg body : Code} (hi : g.io[o]? = some b) (ho : s.σ.objs[o]? = some (.loop l st pe T M ps asg body)) :
  b = l ∧ ∃ r : Loop, w.heap[l]? = some (.loop r) ∧ r.state = st ∧ r.pending = pe ∧
   ∀ st' pe', RelG g0 σ0 w0 N g { s with σ := s.σ.rec_ o l st' pe' T M ps asg body } a (w.putObj l (.loop { r with state := st', pending := pe' })) := by
 obtain ⟨rfl, rc, k1, k2, k3, k4, k5, k6, k7, k8, k9, k10⟩ := r.2.1.setRec hi ho
 refine ⟨rfl, rc, k1, k2, k3, fun st' pe' => ?_⟩
 obtain ⟨j1, j2, j3⟩ := k10 st' pe'
 exact r.later (σ' := s.σ.rec_ o b st' pe' T M ps asg body) (L' := s.L) j2 (fun _ _ h => h) j1 rfl rfl j3 (by rw [World.putObj_size]; exact Nat.le_refl _) rfl rfl rfl

/-- A call of yield. -/
def ACallsY (P : Program) (l : Nat) (args : List AV) (σ : Store) (R : AV → Store → Prop) : Prop :=
 ∀ g w (cargs : List Value), Inv g σ [] w → cargs.length = args.length → (∀ (i : Nat) x v, args[i]? = some x → cargs[i]? = some v → RA g σ.toks w x v) →
  ∃ fn tmps asg body, (Instr.yield l cargs.toArray).run P w = .ok (.round l fn tmps asg body) w ∧
   RoundIn Fence.wide 0 P l fn tmps asg body w fun e w' => ∃ v r σ' g', e = .returned v ∧ R r σ' ∧ Inv g' σ' [] w' ∧ Ext g σ w g' σ' w' ∧ RA g' σ'.toks w' r v

theorem ACallsY.mono {l : Nat} {args : List AV} {R R' : AV → Store → Prop} (h : ACallsY P l args σ R) (k : ∀ r σ', R r σ' → R' r σ') : ACallsY P l args σ R' := by
 intro g w cargs h1 h2 h3
 obtain ⟨fn, tmps, asg, body, k1, k2⟩ := h g w cargs h1 h2 h3
 exact ⟨fn, tmps, asg, body, k1, k2.mono fun _ _ ⟨v, r, σ', g', e1, e2, e3⟩ => ⟨v, r, σ', g', e1, k _ _ e2, e3⟩⟩

theorem ACallsY.args {l : Nat} {xs ys : List AV} {R : AV → Store → Prop} (h : ACallsY P l ys σ R) (hw : WAs xs ys) : ACallsY P l xs σ R := by
 intro g w cargs h1 h2 h3
 obtain ⟨k1, k2⟩ := WAs_get hw
 refine h g w cargs h1 (by rw [h2, k1]) (fun i x v hx hv => ?_)
 have hi : i < xs.length := by rw [k1]; exact (List.getElem?_eq_some_iff.1 hx).1
 exact (h3 i xs[i] v (by simp) hv).wa (k2 i xs[i] x (by simp) hx)

/-- What a round begins with. -/
def argsT (ps : List Tmp) (args : List AV) (T : List (Nat × AV)) : List (Nat × AV) := (ps.zip args).foldl (fun T p => p :: T) T

theorem argsT_rel : ∀ (ps : List Tmp) (args : List AV) (cargs : List Value) (T : List (Nat × AV)) (tmps : Array Value), cargs.length = args.length → tmps.size = N → (∀ p, p ∈ ps → p < N) → (∀ (i : Nat) x v, args[i]? = some x → cargs[i]? = some v → RA g tk w x v) →
  (∀ t, RA g tk w (get T t) (tmps.getD t undef)) →
  ((ps.zip cargs).foldl (fun tmps (p : Tmp × Value) => tmps.setIfInBounds p.1 p.2) tmps).size = N ∧ ∀ t, RA g tk w (get (argsT ps args T) t) (((ps.zip cargs).foldl (fun tmps (p : Tmp × Value) => tmps.setIfInBounds p.1 p.2) tmps).getD t undef)
 | [], args, cargs, T, tmps, _, hN, _, _, h => by simp only [argsT, List.zip_nil_left, List.foldl_nil]; exact ⟨hN, h⟩
 | p :: ps, [], [], T, tmps, _, hN, _, _, h => by simp only [argsT, List.zip_nil_right, List.foldl_nil]; exact ⟨hN, h⟩
 | p :: ps, [], _ :: _, T, tmps, hl, _, _, _, _ => by simp at hl
 | p :: ps, _ :: _, [], T, tmps, hl, _, _, _, _ => by simp at hl
 | p :: ps, x :: args, v :: cargs, T, tmps, hl, hN, hp, hr, h => by
  simp only [argsT, List.zip_cons_cons, List.foldl_cons]
  refine argsT_rel ps args cargs ((p, x) :: T) (tmps.setIfInBounds p v) (by simpa using hl) (by simpa using hN) (fun q hq => hp q (by simp [hq])) (fun i y u hy hu => hr (i + 1) y u (by simpa using hy) (by simpa using hu)) (fun t => ?_)
  simp only [get]
  by_cases e : p = t
  ·subst e
   rw [if_pos rfl]
   have : (tmps.setIfInBounds p v).getD p undef = v := by
    simp only [Array.getD_eq_getD_getElem?, Array.getElem?_setIfInBounds]
    have hpN : p < tmps.size := by rw [hN]; exact hp p (by simp)
    simp [hpN]
   rw [this]
   exact hr 0 x v rfl rfl
  ·rw [if_neg e]
   have : (tmps.setIfInBounds p v).getD t undef = tmps.getD t undef := by
    simp only [Array.getD_eq_getD_getElem?, Array.getElem?_setIfInBounds]
    rw [if_neg e]
   rw [this]; exact h t

/-- How a round may be left. -/
def RoundEnds (o l : Nat) (R : AV → Store → Prop) (e : Exit) (s : St) : Prop :=
 ∃ pe T M ps asg body, s.σ.objs[o]? = some (.loop l .busy pe T M ps asg body) ∧ match e with
  | .normal => R (.pv (.bool true)) (s.σ.rec_ o l .ready none T M ps asg body)
  | .ret => R (.pv (.bool false)) (s.σ.rec_ o l .done (some .ret) T M ps asg body)
  | .exit id => R (.pv (.bool false)) (s.σ.rec_ o l .done (some (.exit id)) T M ps asg body)
  | .goto t => R (.pv (.bool false)) (s.σ.rec_ o l .done (some (.goto t)) T M ps asg body)
  | _ => False

/-- The loop's left sides have been set: the round begins. -/
def Begun (ρ : Option Nat) (P : Program) (σ0 : Store) (N o l : Nat) (body : Code) (Q : Exit → St → Prop) (s : St) : Prop :=
 ∃ pe T M ps asg bd, s.σ.objs[o]? = some (.loop l .ready pe T M ps asg bd) ∧ AWpR ρ P σ0 N body Q { s with σ := s.σ.rec_ o l .busy pe T M ps asg bd }

def OnlyNormal (next : St → Prop) : Exit → St → Prop
 | .normal, s => next s
 | _, _ => False

theorem acallsY_of {o l : Nat} {pe : Option Code} {T : List (Nat × AV)} {ps : Array Tmp} {asg body : Code} {args : List AV} {R : AV → Store → Prop} (ho : σ.objs[o]? = some (.loop l .ready pe T N ps asg body)) (hlen : args.length = ps.size) (hps : ps.toList.all (fun p => decide (p < N)) = true)
  (h : AWpR (some l) P σ N asg (OnlyNormal (Begun (some l) P σ N o l body (RoundEnds o l R))) ⟨argsT ps.toList args T, [], σ⟩) : ACallsY P l args σ R := by
 intro g w cargs hinv hl hargs
 have hlt : o < g.io.length := by rw [hinv.lio]; exact (List.getElem?_eq_some_iff.1 ho).1
 have hio : g.io[o]? = some g.io[o] := List.getElem?_eq_getElem hlt
 generalize g.io[o] = b at hio
 obtain ⟨rfl, rc, k1, k2, k3, k4, k5, k6, k7, k8, k9, _⟩ := hinv.setRec hio ho
 have hy := run_yield (P := P) (args := cargs.toArray) k1 (by rw [k4, ← hlen, ← hl]; simp)
 rw [k4, k5, k6] at hy
 refine ⟨_, _, _, _, hy, roundIn_of_wpIn trivial ?_⟩
 have hp : ∀ p, p ∈ ps.toList → p < N := fun p hp => by simpa using List.all_eq_true.1 hps p hp
 obtain ⟨j1, j2⟩ := argsT_rel (tk := σ.toks) ps.toList args cargs T rc.tmps hl k7 hp hargs k8
 have hz : (ps.zip cargs.toArray).foldl (fun tmps (t, a) => tmps.setIfInBounds t a) rc.tmps = (ps.toList.zip cargs).foldl (fun tmps (p : Tmp × Value) => tmps.setIfInBounds p.1 p.2) rc.tmps := by
  rw [← Array.foldl_toList, Array.toList_zip]
 rw [hz]
 have hrel : RelG g σ w N g ⟨argsT ps.toList args T, [], σ⟩ { tmps := (ps.toList.zip cargs).foldl (fun tmps (p : Tmp × Value) => tmps.setIfInBounds p.1 p.2) rc.tmps, defers := [] } w :=
  ⟨Ext.refl hinv, hinv, j1, Marks.nil, j2⟩
 refine wpIn_mono (F := wF (some b)) (h g w _ w ⟨g, hrel⟩) ?_
 rintro e a1 w1 ⟨s1, q, g1, r1⟩
 cases e with
 | normal =>
  obtain ⟨pe1, T1, M1, ps1, asg1, bd1, ho1, hb⟩ := q
  obtain ⟨_, rc1, m1, m2, m3, m4⟩ := r1.setRec (r1.1.le.io o b hio) ho1
  refine ⟨_, run_beginRound m1 m2, ?_⟩
  have hrc : ({ rc1 with state := .busy } : Loop) = { rc1 with state := .busy, pending := pe1 } := by rw [← m3]
  rw [hrc]
  refine wpIn_mono (F := wF (some b)) (hb g w a1 _ ⟨g1, m4 .busy pe1⟩) ?_
  rintro e2 a2 w2 ⟨s2, ⟨pe2, T2, M2, ps2, asg2, bd2, ho2, hR⟩, g2, r2⟩
  obtain ⟨_, rc2, n1, n2, n3, n4⟩ := r2.setRec (r2.1.le.io o b hio) ho2
  have fin : ∀ (jump : Option Code), R (.pv (.bool jump.isNone)) (s2.σ.rec_ o b (if jump.isNone then .ready else .done) jump T2 M2 ps2 asg2 bd2) →
    ∃ v w', (Instr.endRound b jump).run P w2 = .ok v w' ∧ ∃ v' r σ' g', Ending.returned v = .returned v' ∧ R r σ' ∧ Inv g' σ' [] w' ∧ Ext g σ w g' σ' w' ∧ RA g' σ'.toks w' r v' := by
   intro jump hR
   have r3 := n4 (if jump.isNone then .ready else .done) jump
   refine ⟨_, _, run_endRound jump n1, _, _, _, { g2 with lam := [] }, rfl, hR, r3.2.1.noPriv, ⟨⟨r3.1.le.B, r3.1.le.keeps, r3.1.le.io, r3.1.le.tok⟩, r3.1.gl, r3.1.K, r3.1.blk, r3.1.size, r3.1.os, r3.1.tape, r3.1.output, r3.1.io0, r3.1.clo0⟩, .pv .bool⟩
  cases e2 with
  | normal => exact fin none hR
  | ret => exact fin (some .ret) hR
  | exit id => exact fin (some (.exit id)) hR
  | goto t => exact fin (some (.goto t)) hR
  | panic => exact hR.elim
  | outgrown => exact hR.elim
 | ret => exact q.elim
 | exit id => exact q.elim
 | goto t => exact q.elim
 | panic => exact q.elim
 | outgrown => exact q.elim

theorem aop_yield {next : St → Prop} {o : Oper} {c : Call} {fo : Operand} {l : Nat} {caps : List AV} (ho : o.op = .call c) (hc : c.callee = .value fo) (hf : ev s fo = .func (.yield l) caps) (hnl : AV.noLs (c.args.toList.map (ev s)) = true) (hd : dstOk N o.dst = true)
  (h : ACallsY P l (c.args.toList.map (ev s)) s.σ fun r σ' => next (({ s with σ := σ' } : St).put o.dst r)) : AOp P σ0 N o next s := by
 rintro g0 w0 a w nx Q ⟨g, r⟩ hnext
 have hfv := r.ev fo
 rw [hf] at hfv
 generalize hv : a.eval fo = fv at hfv
 cases hfv with
 | func hl hr =>
  rename_i vs
  have hnl' := AV.noLs_iff.1 hnl
  obtain ⟨fn, tmps, asg, body, k1, k2⟩ := h _ w (c.args.toList.map a.eval) r.2.1.toCallee (by simp) (fun i x v hx hv => (r.evs c.args.toList i x v hx hv).toCallee (hnl' x (List.mem_of_getElem? hx)) _ _)
  have hargs : (c.args.toList.map a.eval).toArray = c.args.map a.eval := Array.ext' (by simp)
  rw [hargs] at k1
  have hrun : (execOp a.eval o).run P w = .ok (.round l fn tmps asg body) w := by
   simp only [execOp, ho, resolve, hc, hv, Deferred.ofValue, Sem.run_bind, Sem.run_pure, Result.andThen_ok, invoke]
   simpa using k1
  unfold opW
  rw [hrun]
  refine RoundIn.mono k2 ?_
  rintro e w' ⟨v, rr, σ', g', rfl, hR, hinv, hext, hra⟩
  obtain ⟨i1, le1⟩ := r.2.1.fromCallee hinv hext
  have r' := r.later (σ' := σ') (L' := s.L) le1 (fun _ _ h => h) i1 rfl hext.gl (fun b hb => hext.blk b (.inl hb)) hext.size hext.os hext.tape hext.output
  have hg : g' = { g' with lam := [] } := by
   have : g'.lam = [] := List.eq_nil_of_length_eq_zero (by rw [hinv.llam]; rfl)
   cases g'; simp_all
  rw [hg] at hra
  exact hnext _ _ _ hR ⟨_, r'.put (hra.noLam _ _) hd⟩

theorem al_yield {ops : Array Oper} {os : List Oper} {o : Oper} {K : St → Prop} {c : Call} {fo : Operand} {l : Nat} {xs args caps : List AV} {R : AV → Store → Prop} (hg : o.guard = none) (ho : o.op = .call c) (hc : c.callee = .value fo) (hf : ev s fo = .func (.yield l) caps) (h : ACallsY P l args s.σ R)
  (hargs : c.args.toList.map (ev s) = xs) (hw : WAs xs args) (hnl : AV.noLs xs = true) (hd : dstOk N o.dst = true) (k : ∀ r σ', R r σ' → AOpsL P σ0 N ops os K (({ s with σ := σ' } : St).put o.dst r)) : AOpsL P σ0 N ops (o :: os) K s := by
 subst hargs
 exact al_cons hg (aop_yield ho hc hf hnl hd ((h.args hw).mono k))

/-- What a loop's rounds begin with: these slots. -/
def keepT (T : List (Nat × AV)) (slots : List Nat) : List (Nat × AV) := slots.map fun t => (t, get T t)
theorem get_keepT (T : List (Nat × AV)) (t : Nat) : ∀ slots : List Nat, get (keepT T slots) t = if t ∈ slots then get T t else .junk
 | [] => rfl
 | x :: r => by
  have ih := get_keepT T t r
  simp only [keepT, List.map_cons, get] at ih ⊢
  by_cases h : x = t
  ·subst h; simp
  ·rw [if_neg h, ih]
   simp [Ne.symm h]

/-- How the function that is ranged over may end. -/
def RangeEnds (P : Program) (σ0 : Store) (N : Nat) (o l : Nat) (Q : Exit → St → Prop) (s : St) (σ' : Store) : Prop :=
 ∃ st pe T M ps asg body, σ'.objs[o]? = some (.loop l st pe T M ps asg body) ∧ st ≠ .busy ∧
  match pe with
  | none => Q .normal { s with σ := σ'.rec_ o l .exhausted none T M ps asg body }
  | some c => AWp P σ0 N c Q { s with σ := σ'.rec_ o l .exhausted (some c) T M ps asg body }

theorem Inv.addK (h : Inv g σ L w) {D : Nat} (f : Fresh g w D) : Inv { g with K := fun b => g.K b ∨ b = D } σ L w ∧ Le g σ.toks w { g with K := fun b => g.K b ∨ b = D } σ.toks w := by
 have le : Le g σ.toks w { g with K := fun b => g.K b ∨ b = D } σ.toks w := ⟨rfl, Keeps.refl _ _ _, fun _ _ h => h, fun _ t h => ⟨t, h, rfl, rfl, Nat.le_refl _, fun _ => rfl⟩⟩
 refine ⟨⟨h.lio, h.llam, h.ltb, h.glob, h.nodup, fun b hb => ⟨(h.low b hb).1, (h.low b hb).2.1, ?_⟩, fun b hb => ?_, h.base, h.cells, fun o ob b ho hio => (h.objs o ob b ho hio).mono le (fun _ _ h => h) rfl, fun i cs b hL hl => (h.priv i cs b hL hl).mono le (fun _ _ h => h) rfl, h.toks⟩, le⟩
 ·rintro (hK | rfl)
  ·exact (h.low b hb).2.2 hK
  ·exact f.own hb
 ·rcases hb with hb | rfl
  ·exact h.kept b hb
  ·exact ⟨f.lt, f.S⟩

theorem awp_rangeFunc {Q : Exit → St → Prop} {gop : Operand} {ps : Array Tmp} {asg body : Code} {gf : FuncId} {caps : List AV} (slots : List Nat) (hg : ev s gop = .func (.func gf) caps) (hca : Callable P gf) (hnl : AV.noLs caps = true) (hT : (keepT s.T slots).all (fun p => p.2.noL) = true) (hnd : slots.Nodup)
  (h : ∀ l : Nat, ACalls P gf (.func (.yield l) [] :: caps) { s.σ with objs := s.σ.objs ++ [.loop l .ready none (keepT s.T slots) N ps asg body] } fun _ σ' => RangeEnds P σ0 N s.σ.objs.length l Q s σ') :
  AWp P σ0 N (.rangeFunc gop ps asg body) Q s := by
 rintro g0 w0 a w ⟨g, r⟩
 have hgv := r.ev gop
 rw [hg] at hgv
 generalize hv : a.eval gop = gv at hgv
 obtain ⟨D, hD⟩ : ∃ D, D = w.heap.size := ⟨_, rfl⟩
 obtain ⟨r1, f1⟩ := r.alloc (.deferred (some []))
 rw [← hD] at f1
 obtain ⟨i2, le2⟩ := r1.2.1.addK f1
 have hDn : ¬ g.K D := f1.K
 obtain ⟨Ds, d1, d2, d3⟩ := r1.2.2.2.1
 have hDh : (w.alloc (.deferred (some []))).heap[D]? = some (.deferred (some [])) := by rw [hD]; exact heap_alloc_at w _
 have r2 : RelG g0 σ0 w0 N { g with K := fun b => g.K b ∨ b = D } s { a with defers := { target := .collected D, args := #[] } :: a.defers } (w.alloc (.deferred (some []))) := by
  refine ⟨⟨r1.1.le.trans le2, r1.1.gl, fun b hb => .inl (r1.1.K b hb), r1.1.blk, r1.1.size, r1.1.os, r1.1.tape, r1.1.output, r1.1.io0, r1.1.clo0⟩, i2, r1.2.2.1, ⟨D :: Ds, by simp [d1], List.nodup_cons.2 ⟨fun hm => hDn (d3 D hm).1, d2⟩, fun D' hD' => ?_⟩, fun t => (r1.2.2.2.2 t).mono le2 fun _ _ h => h⟩
  rcases List.mem_cons.1 hD' with rfl | hD'
  ·exact ⟨.inr rfl, fun h0 => hDn (r1.1.K _ h0), f1.low, hDh⟩
  ·have := d3 D' hD'
   exact ⟨.inl this.1, this.2⟩
 obtain ⟨l, hl⟩ : ∃ l, l = w.heap.size + 1 := ⟨_, rfl⟩
 have hl1 : l = (w.alloc (.deferred (some []))).heap.size := by rw [hl]; simp
 refine wpIn_rangeFunc (F := wF none) ?_
 intro fn _
 obtain ⟨rec, hrec⟩ : ∃ rec : Loop, rec = { state := .ready, pending := none, fn, tmps := a.tmps, params := ps, assign := asg, body, defers := w.heap.size } := ⟨_, rfl⟩
 obtain ⟨r3, f3⟩ := r2.alloc (.loop rec)
 rw [← hl1] at f3
 have hTn : ∀ x, x ∈ (keepT s.T slots).map (·.2) → x.noL = true := by
  intro x hx
  obtain ⟨p, hp, rfl⟩ := List.mem_map.1 hx
  exact List.all_eq_true.1 hT p hp
 have hob : RObj { g with K := fun b => g.K b ∨ b = D } s.σ.toks ((w.alloc (.deferred (some []))).alloc (.loop rec)) l (.loop l .ready none (keepT s.T slots) N ps asg body) := by
  refine ⟨⟨rfl, hTn, by simpa [keepT, List.map_map, Function.comp_def] using hnd⟩, fn, a.tmps, w.heap.size, by rw [hl1, ← hrec]; exact heap_alloc_at _ _, r.2.2.1, fun t => ?_⟩
  rw [get_keepT]
  split
  ·exact r3.2.2.2.2 t
  ·exact .junk
 have r4 := r3.addObj f3 hob
 obtain ⟨W1, hW1⟩ : ∃ W1, W1 = (w.alloc (.deferred (some []))).alloc (.loop rec) := ⟨_, rfl⟩
 cases hgv with
 | func hl' hr' =>
  rename_i vs
  obtain ⟨fn', h1, h2, h3⟩ := hca
  have hargs : #[Value.func (.yield l) #[] #[]] ++ vs.toArray = (Value.func (.yield l) #[] #[] :: vs).toArray := Array.ext' (by simp)
  refine ⟨l, [{ target := .collected w.heap.size, args := #[] }], W1, { target := .fn (.func gf) vs.toArray, args := #[.func (.yield l) #[] #[]] }, W1, gf, #[.func (.yield l) #[] #[]] ++ vs.toArray, W1, by rw [hl, hW1, hrec]; exact run_enterLoop_outer _ _ _ _ _, ?_, fun _ _ => trivial, ?_, fun hh => (by cases hh), ?_⟩
  ·simp only [resolve, rangeCall, hv, Deferred.ofValue, Sem.run_bind, Sem.run_pure, Result.andThen_ok]
   simp [go_sem]
  ·simp only [invoke, callFunc, Sem.run_bind, Sem.run_pure, Result.andThen_ok, run_program, h1, h2, h3]
   simp
  ·rw [← hD, hargs, hW1]
   have hnl' := AV.noLs_iff.1 hnl
   have hle : Le g s.σ.toks w { g with K := fun b => g.K b ∨ b = D, io := g.io ++ [l] } (s.σ.toks) ((w.alloc (.deferred (some []))).alloc (.loop rec)) := by
    have e1 := (r.2.1.alloc (.deferred (some []))).2
    have e2 := (r2.2.1.alloc (.loop rec)).2
    exact (e1.trans le2).trans (e2.trans (r3.2.1.addObj f3 hob).2)
   refine CallsIn.mono (F := wF none) (show CallsIn Fence.wide (0 - 1) P gf _ _ _ from callsIn_wide.2 (h l _ _ (Value.func (.yield l) #[] #[] :: vs) r4.2.1.toCallee (by simp [hl']) (fun i x v hx hv => ?_))) ?_
   ·cases i with
    | zero => simp at hx hv; subst hx; subst hv; exact .func (vs := []) rfl (fun i x v hx hv => by simp at hx)
    | succ i =>
     simp only [List.getElem?_cons_succ] at hx hv
     exact ((hr' i x v hx hv).mono hle (fun _ _ h => h)).toCallee (hnl' x (List.mem_of_getElem? hx)) _ _
   ·rintro e w' ⟨v, rr, σ', g', rfl, ⟨st, pe, T', M', ps', asg', body', ho, hst, hk⟩, hinv, hext, hra⟩
    obtain ⟨i1, le1⟩ := r4.2.1.fromCallee hinv hext
    have r5 := r4.later (σ' := σ') (L' := s.L) le1 (fun _ _ h => h) i1 rfl hext.gl (fun b hb => hext.blk b (.inl hb)) hext.size hext.os hext.tape hext.output
    have hio : g'.io[s.σ.objs.length]? = some l := by
     refine hext.le.io _ _ ?_
     show (g.io ++ [l])[s.σ.objs.length]? = some l
     rw [← r.2.1.lio]; simp
    obtain ⟨_, rc, n1, n2, n3, n4⟩ := r5.setRec (s := { s with σ := σ' }) hio ho
    have hend := run_endLoop (P := P) n1 (by rw [n2]; exact hst)
    rw [n3] at hend
    have r6 := n4 .exhausted pe
    refine ⟨pe, _, hend, ?_⟩
    cases pe with
    | none => exact ⟨_, hk, _, r6⟩
    | some c => exact hk g0 w0 _ _ ⟨_, r6⟩

/-! ### loops whose store is told by what holds of it -/
structure WeakJ (s s2 : St) : Prop where
 σ : s2.σ = s.σ
 L : s2.L = s.L
 T : ∀ p, p ∈ s2.T → WA (get s.T p.1) p.2

theorem get_wa {T T2 : List (Nat × AV)} {a : Act} (h : ∀ t, RA g tk w (get T t) (a.tmps.getD t undef)) (hw : ∀ p, p ∈ T2 → WA (get T p.1) p.2) : ∀ t, RA g tk w (get T2 t) (a.tmps.getD t undef) := by
 intro t
 induction T2 with
 | nil => exact .junk
 | cons q r ih =>
  obtain ⟨d, v⟩ := q
  simp only [get]
  by_cases hd : d = t
  ·subst hd
   rw [if_pos rfl]
   exact (h d).wa (hw (d, v) (by simp))
  ·rw [if_neg hd]
   exact ih (fun p hp => hw p (by simp [hp]))

theorem WeakJ.rel {s2 : St} (h : WeakJ s s2) (r : RelG g0 σ0 w0 N g s a w) : RelG g0 σ0 w0 N g s2 a w := by
 obtain ⟨T2, L2, σ2⟩ := s2
 obtain ⟨h1, h2, h3⟩ := h
 simp only at h1 h2 h3
 subst h1 h2
 exact ⟨r.1, r.2.1, r.2.2.1, r.2.2.2.1, get_wa r.2.2.2.2 h3⟩

def NextJ {ι : Type} (S : ι → St) (I : ι → Prop) (μ : ι → Nat) (i : ι) (s' : St) : Prop := ∃ j, I j ∧ μ j < μ i ∧ WeakJ s' (S j)

theorem awp_loop_famJ {c : Code} {Q : Exit → St → Prop} {ι : Type} (S : ι → St) (I : ι → Prop) (μ : ι → Nat) (i0 : ι) (hi0 : I i0) (h0 : WeakJ s (S i0))
  (round : ∀ i, I i → AWpR ρ P σ0 N c (Then (NextJ S I μ i) Q) (S i)) : AWpR ρ P σ0 N (.loop c) Q s := by
 rintro g0 w0 a w ⟨g, r⟩ b k cs hro hb hr
 have key : ∀ n i, μ i = n → I i → ∀ a w, Rel g0 σ0 w0 N (S i) a w →
   ∃ e a' w', lift g0 σ0 w0 N Q e a' w' ∧ ArrivesIn (Machine.fenced P (wF ρ)) P (lone (b.atR a (.code c :: .inLoop c :: k)) cs w) b k cs e a' w' := by
  intro n
  induction n using Nat.strongRecOn with
  | _ n ih =>
   intro i hn hI a w r
   obtain ⟨e, a₁, w₁, ⟨s₁, hq, r₁⟩, harr⟩ := round i hI g0 w0 a w r b (.inLoop c :: k) cs hro hb hr
   cases e with
   | normal =>
    obtain ⟨j, hj, hlt, hw⟩ := hq
    obtain ⟨g₁, r₁⟩ := r₁
    obtain ⟨e₂, a₂, w₂, hq₂, harr₂⟩ := ih (μ j) (hn ▸ hlt) j rfl hj a₁ w₁ ⟨_, hw.rel r₁⟩
    exact ⟨e₂, a₂, w₂, hq₂, .of_steps (StepsIn.trans harr (.one (fenced_calm hb hr rfl) stepR_inLoop)) harr₂⟩
   | exit id => exact ⟨_, a₁, w₁, ⟨s₁, hq, r₁⟩, .pass (x := .inLoop c) rfl (fun _ _ => .inl (by simp)) harr⟩
   | goto l => exact ⟨_, a₁, w₁, ⟨s₁, hq, r₁⟩, .pass (x := .inLoop c) rfl (fun _ _ => .inl (by simp)) harr⟩
   | ret => exact ⟨_, a₁, w₁, ⟨s₁, hq, r₁⟩, .pass (x := .inLoop c) rfl (fun _ _ => .inl (by simp)) harr⟩
   | panic ch => exact ⟨_, a₁, w₁, ⟨s₁, hq, r₁⟩, .pass (x := .inLoop c) rfl (fun _ _ => .inl (by simp)) harr⟩
   | outgrown => exact ⟨_, a₁, w₁, ⟨s₁, hq, r₁⟩, .pass (x := .inLoop c) rfl (fun _ _ => .inl (by simp)) harr⟩
 obtain ⟨e, a', w', hq, harr⟩ := key _ i0 rfl hi0 a w ⟨_, h0.rel r⟩
 exact ⟨e, a', w', hq, .of_steps (.one (fenced_calm hb hr rfl) stepR_loop) harr⟩

theorem awp_loop_headJ {c : Code} {Q : Exit → St → Prop} {ι : Type} (keep : List Nat) (m : ι → List (Nat × AV)) (σf : ι → Store) (I : ι → Prop) (μ : ι → Nat) (i0 : ι) (hi0 : I i0) (h0 : WeakJ s (headK s keep (m i0) s.L (σf i0)))
  (round : ∀ i, I i → AWpR ρ P σ0 N c (Then (NextJ (fun i => headK s keep (m i) s.L (σf i)) I μ i) Q) (headK s keep (m i) s.L (σf i))) : AWpR ρ P σ0 N (.loop c) Q s :=
 awp_loop_famJ (fun i => headK s keep (m i) s.L (σf i)) I μ i0 hi0 h0 round

attribute [go_sem] argsT Store.rec_
end
end Go.Aw

namespace Go.Aw
open Go
mutual
/-- No private box is pointed to that lies beyond this number. -/
def AV.lclo (nl : Nat) : AV → Bool
 | .lptr i _ => decide (i < nl)
 | .func _ cs => AV.lclos nl cs
 | .agg cs => AV.lclos nl cs
 | .tuple cs => AV.lclos nl cs
 | .ifc _ x => AV.lclo nl x
 | .vs _ _ cs => AV.lclos nl cs
 | .vp cs => AV.lclos nl cs
 | _ => true
def AV.lclos (nl : Nat) : List AV → Bool
 | [] => true
 | x :: r => AV.lclo nl x && AV.lclos nl r
end
theorem AV.lclos_iff {nl : Nat} : ∀ {l : List AV}, AV.lclos nl l = true ↔ ∀ x, x ∈ l → x.lclo nl = true
 | [] => by simp [AV.lclos]
 | x :: r => by simp [AV.lclos, AV.lclos_iff (l := r)]
mutual
theorem noL_lclo (nl : Nat) : ∀ x : AV, x.noL = true → x.lclo nl = true
 | .lptr .., h => by simp [AV.noL] at h
 | .func _ cs, h => by simp only [AV.noL] at h; simp only [AV.lclo]; exact noLs_lclos nl cs h
 | .agg cs, h => by simp only [AV.noL] at h; simp only [AV.lclo]; exact noLs_lclos nl cs h
 | .tuple cs, h => by simp only [AV.noL] at h; simp only [AV.lclo]; exact noLs_lclos nl cs h
 | .pv _, _ => rfl
 | .full _, _ => rfl
 | .acc .., _ => rfl
 | .ptr .., _ => rfl
 | .map _, _ => rfl
 | .scr .., _ => rfl
 | .sl .., _ => rfl
 | .ifc _ x, h => by simp only [AV.noL] at h; simp only [AV.lclo]; exact noL_lclo nl x h
 | .vs _ _ cs, h => by simp only [AV.noL] at h; simp only [AV.lclo]; exact noLs_lclos nl cs h
 | .vp cs, h => by simp only [AV.noL] at h; simp only [AV.lclo]; exact noLs_lclos nl cs h
 | .junk, _ => rfl
theorem noLs_lclos (nl : Nat) : ∀ l : List AV, AV.noLs l = true → AV.lclos nl l = true
 | [], _ => rfl
 | x :: l, h => by
  simp only [AV.noLs, Bool.and_eq_true] at h
  simp only [AV.lclos, Bool.and_eq_true]
  exact ⟨noL_lclo nl x h.1, noLs_lclos nl l h.2⟩
end
section
variable {ρ : Option Nat} {P : Program} {g0 g : Ghost} {σ0 σ : Store} {w0 w : World} {N : Nat} {s : St} {a : Act} {tk : List Tok}
theorem ra_clo {nl : Nat} {x : AV} {v : Value} (h : RA g tk w x v) : x.lclo nl = true → x.clo g.io.length tk.length nl = true := by
 have key : ∀ (cs : List AV) (vs : List Value), vs.length = cs.length → (∀ (i : Nat) x v, cs[i]? = some x → vs[i]? = some v → x.lclo nl = true → x.clo g.io.length tk.length nl = true) → AV.lclos nl cs = true → AV.clos g.io.length tk.length nl cs = true := by
  intro cs vs hl ih hc
  refine AV.clos_iff.2 fun x hx => ?_
  obtain ⟨i, hi⟩ := List.getElem?_of_mem hx
  have hlt : i < vs.length := by rw [hl]; exact (List.getElem?_eq_some_iff.1 hi).1
  exact ih i x vs[i] hi (by simp) (AV.lclos_iff.1 hc x hx)
 induction h with
 | pv => exact fun _ => rfl
 | full => exact fun _ => rfl
 | acc _ ht _ _ _ => intro _; simp only [AV.clo, decide_eq_true_eq]; exact (List.getElem?_eq_some_iff.1 ht).1
 | ptr h => intro _; simp only [AV.clo, decide_eq_true_eq]; exact (List.getElem?_eq_some_iff.1 h).1
 | lptr h => intro hc; simpa [AV.clo, AV.lclo] using hc
 | map h => intro _; simp only [AV.clo, decide_eq_true_eq]; exact (List.getElem?_eq_some_iff.1 h).1
 | func hl _ ih => intro hc; simp only [AV.clo]; exact key _ _ hl (fun i x v hx hv => ih i x v hx hv) (by simpa [AV.lclo] using hc)
 | agg hl _ _ ih => intro hc; simp only [AV.clo]; exact key _ _ hl (fun i x v hx hv => ih i x v hx hv) (by simpa [AV.lclo] using hc)
 | tuple hl _ ih => intro hc; simp only [AV.clo]; exact key _ _ hl (fun i x v hx hv => ih i x v hx hv) (by simpa [AV.lclo] using hc)
 | scr h _ _ => intro _; simp only [AV.clo, Bool.or_eq_true, decide_eq_true_eq]; exact .inl (List.getElem?_eq_some_iff.1 h).1
 | scrnil => intro _; simp [AV.clo]
 | sl h _ => intro _; simp only [AV.clo, decide_eq_true_eq]; exact (List.getElem?_eq_some_iff.1 h).1
 | ifc _ ih => exact fun hc => ih hc
 | @vs kd _ _ _ _ _ hl _ _ _ _ hk ih =>
  intro hc
  simp only [AV.clo, Bool.and_eq_true]
  refine ⟨?_, key _ _ hl (fun i x v hx hv => ih i x v hx hv) (by simpa [AV.lclo] using hc)⟩
  cases kd with
  | tok k => obtain ⟨t, h1, _⟩ := hk k rfl; simp only [VK.clo, decide_eq_true_eq]; exact (List.getElem?_eq_some_iff.1 h1).1
  | _ => rfl
 | vp hl _ _ ih => intro hc; simp only [AV.clo]; exact key _ _ hl (fun i x v hx hv => ih i x v hx hv) (by simpa [AV.lclo] using hc)
 | junk => exact fun _ => rfl
structure WeakJL (nl : Nat) (s s2 : St) : Prop where
 σ : s2.σ = s.σ
 L : s2.L = s.L.take nl
 T : ∀ p, p ∈ s2.T → WA (get s.T p.1) p.2 ∧ p.2.lclo nl = true
 cL : ∀ cs, cs ∈ s2.L → AV.lclos nl cs = true
theorem WeakJL.rel {nl : Nat} {s2 : St} (h : WeakJL nl s s2) (r : RelG g0 σ0 w0 N g s a w) : Rel g0 σ0 w0 N s2 a w := by
 obtain ⟨T2, L2, σ2⟩ := s2
 obtain ⟨h1, h2, h3, h4⟩ := h
 simp only at h1 h2 h3 h4
 subst h1 h2
 have hio := r.2.1.lio
 have hobj : ∀ ob, ob ∈ s.σ.objs.take s.σ.objs.length → ob.clo s.σ.objs.length s.σ.toks.length nl = true := by
  intro ob hob
  rw [List.take_length] at hob
  obtain ⟨o, ho⟩ := List.getElem?_of_mem hob
  have hlt : o < g.io.length := by rw [hio]; exact (List.getElem?_eq_some_iff.1 ho).1
  have hR := r.2.1.objs o ob g.io[o] ho (by simp)
  rw [← hio]
  cases ob with
  | map ks vs => rfl
  | row e sz cap xs => rfl
  | box cs =>
   obtain ⟨hn, vs, e, k1, k2, k3, k4⟩ := hR
   refine AV.clos_iff.2 fun x hx => ?_
   obtain ⟨i, hi⟩ := List.getElem?_of_mem hx
   have hl : i < vs.length := by rw [k2]; exact (List.getElem?_eq_some_iff.1 hi).1
   exact ra_clo (k4 i x vs[i] hi (by simp)) (noL_lclo nl x (hn x hx))
  | arr cs =>
   obtain ⟨hn, vs, rest, e, k1, k2, k3, k4⟩ := hR
   refine AV.clos_iff.2 fun x hx => ?_
   obtain ⟨i, hi⟩ := List.getElem?_of_mem hx
   have hl : i < vs.length := by rw [k2]; exact (List.getElem?_eq_some_iff.1 hi).1
   exact ra_clo (k4 i x vs[i] hi (by simp)) (noL_lclo nl x (hn x hx))
  | loop l st pe T N ps assign body =>
   obtain ⟨⟨_, hn, hnd⟩, fn, tmps, D, k1, k2, k3⟩ := hR
   refine AV.clos_iff.2 fun x hx => ?_
   obtain ⟨p, hp, rfl⟩ := List.mem_map.1 hx
   have := k3 p.1
   rw [get_nodup hnd hp] at this
   exact ra_clo this (noL_lclo nl _ (hn _ hx))
 have hL : ∀ cs, cs ∈ s.L.take nl → AV.clos s.σ.objs.length s.σ.toks.length nl cs = true := by
  intro cs hcs
  obtain ⟨i, hi⟩ := List.getElem?_of_mem hcs
  have hin : i < nl := by have := (List.getElem?_eq_some_iff.1 hi).1; rw [List.length_take] at this; omega
  rw [take_get hin] at hi
  have hlt : i < g.lam.length := by rw [r.2.1.llam]; exact (List.getElem?_eq_some_iff.1 hi).1
  obtain ⟨vs, e, k1, k2, k3, k4⟩ := r.2.1.priv i cs g.lam[i] hi (by simp)
  rw [← hio]
  refine AV.clos_iff.2 fun x hx => ?_
  obtain ⟨j, hj⟩ := List.getElem?_of_mem hx
  have hl : j < vs.length := by rw [k2]; exact (List.getElem?_eq_some_iff.1 hj).1
  exact ra_clo (k4 j x vs[j] hj (by simp)) (AV.lclos_iff.1 (h4 cs hcs) x hx)
 have hlo : σ0.objs.length ≤ s.σ.objs.length := by
  rw [← hio, ← r.1.io0]
  by_cases hz : g0.io.length = 0
  ·omega
  ·have := r.1.le.io (g0.io.length - 1) g0.io[g0.io.length - 1] (by simp)
   have := (List.getElem?_eq_some_iff.1 this).1
   omega
 have hlt : σ0.toks.length ≤ s.σ.toks.length := by
  by_cases hz : σ0.toks.length = 0
  ·omega
  ·obtain ⟨t', ht', _⟩ := r.1.le.tok (σ0.toks.length - 1) σ0.toks[σ0.toks.length - 1] (by simp)
   have := (List.getElem?_eq_some_iff.1 ht').1
   omega
 have hcut : s.σ.cut s.σ.objs.length s.σ.toks.length = s.σ := by simp [Store.cut]
 have i1 := r.2.1.cut (no := s.σ.objs.length) (nt := s.σ.toks.length) (nl := nl) hobj hL
 have e1 := r.1.cut (nl := nl) hlo hlt
 rw [hcut] at i1 e1
 refine ⟨_, e1, i1, r.2.2.1, r.2.2.2.1, fun t => ?_⟩
 have hra := get_wa r.2.2.2.2 (fun p hp => (h3 p hp).1) t
 have hcl : (get T2 t).lclo nl = true := by
  rcases get_mem (T := T2) (t := t) with e | ⟨p, hp, e⟩
  ·rw [e]; rfl
  ·rw [e]; exact (h3 p hp).2
 have := hra.cut (no := s.σ.objs.length) (nt := s.σ.toks.length) (nl := nl) (by rw [← hio]; exact ra_clo hra hcl)
 rw [List.take_length] at this
 exact this
def NextJL {ι : Type} (nl : Nat) (S : ι → St) (I : ι → Prop) (μ : ι → Nat) (i : ι) (s' : St) : Prop := ∃ j, I j ∧ μ j < μ i ∧ WeakJL nl s' (S j)
theorem awp_loop_famJL {c : Code} {Q : Exit → St → Prop} {ι : Type} (nl : Nat) (S : ι → St) (I : ι → Prop) (μ : ι → Nat) (i0 : ι) (hi0 : I i0) (h0 : WeakJL nl s (S i0))
  (round : ∀ i, I i → AWpR ρ P σ0 N c (Then (NextJL nl S I μ i) Q) (S i)) : AWpR ρ P σ0 N (.loop c) Q s := by
 rintro g0 w0 a w ⟨g, r⟩ b k cs hro hb hr
 have key : ∀ n i, μ i = n → I i → ∀ a w, Rel g0 σ0 w0 N (S i) a w →
   ∃ e a' w', lift g0 σ0 w0 N Q e a' w' ∧ ArrivesIn (Machine.fenced P (wF ρ)) P (lone (b.atR a (.code c :: .inLoop c :: k)) cs w) b k cs e a' w' := by
  intro n
  induction n using Nat.strongRecOn with
  | _ n ih =>
   intro i hn hI a w r
   obtain ⟨e, a₁, w₁, ⟨s₁, hq, r₁⟩, harr⟩ := round i hI g0 w0 a w r b (.inLoop c :: k) cs hro hb hr
   cases e with
   | normal =>
    obtain ⟨j, hj, hlt, hw⟩ := hq
    obtain ⟨g₁, r₁⟩ := r₁
    obtain ⟨e₂, a₂, w₂, hq₂, harr₂⟩ := ih (μ j) (hn ▸ hlt) j rfl hj a₁ w₁ (hw.rel r₁)
    exact ⟨e₂, a₂, w₂, hq₂, .of_steps (StepsIn.trans harr (.one (fenced_calm hb hr rfl) stepR_inLoop)) harr₂⟩
   | exit id => exact ⟨_, a₁, w₁, ⟨s₁, hq, r₁⟩, .pass (x := .inLoop c) rfl (fun _ _ => .inl (by simp)) harr⟩
   | goto l => exact ⟨_, a₁, w₁, ⟨s₁, hq, r₁⟩, .pass (x := .inLoop c) rfl (fun _ _ => .inl (by simp)) harr⟩
   | ret => exact ⟨_, a₁, w₁, ⟨s₁, hq, r₁⟩, .pass (x := .inLoop c) rfl (fun _ _ => .inl (by simp)) harr⟩
   | panic ch => exact ⟨_, a₁, w₁, ⟨s₁, hq, r₁⟩, .pass (x := .inLoop c) rfl (fun _ _ => .inl (by simp)) harr⟩
   | outgrown => exact ⟨_, a₁, w₁, ⟨s₁, hq, r₁⟩, .pass (x := .inLoop c) rfl (fun _ _ => .inl (by simp)) harr⟩
 obtain ⟨e, a', w', hq, harr⟩ := key _ i0 rfl hi0 a w (h0.rel r)
 exact ⟨e, a', w', hq, .of_steps (.one (fenced_calm hb hr rfl) stepR_loop) harr⟩
theorem awp_loop_headJL {c : Code} {Q : Exit → St → Prop} {ι : Type} (nl : Nat) (keep : List Nat) (m : ι → List (Nat × AV)) (σf : ι → Store) (I : ι → Prop) (μ : ι → Nat) (i0 : ι) (hi0 : I i0) (h0 : WeakJL nl s (headK s keep (m i0) s.L (σf i0)))
  (round : ∀ i, I i → AWpR ρ P σ0 N c (Then (NextJL nl (fun i => headK s keep (m i) s.L (σf i)) I μ i) Q) (headK s keep (m i) s.L (σf i))) : AWpR ρ P σ0 N (.loop c) Q s :=
 awp_loop_famJL nl (fun i => headK s keep (m i) s.L (σf i)) I μ i0 hi0 h0 round
attribute [go_sem] AV.lclo AV.lclos
end
end Go.Aw

namespace Go.Aw
open Go
/-- The path of the first expression without a form. -/
def swr (d : D) : Option (List Int) := scata (fun d rs => if (synKind d == 0) = true then some [] else rs.findSome? fun q => q.2.map (q.1.p ++ ·)) d
theorem swr_eq (d : D) : swr d = if (synKind d == 0) = true then some [] else (subs d).findSome? fun q => (swr q.2).map (q.1.p ++ ·) := by
 show scata (β := Option (List Int)) _ d = _
 rw [scata_eq]
 simp only [List.findSome?_map]; rfl
theorem synOk_swr (d : D) : synOk d = (swr d).isNone := by
 induction d using D.indS with
 | h d ih =>
  rw [synOk_eq, swr_eq]
  by_cases h0 : synKind d = 0
  ·rw [h0]; rfl
  ·rw [if_neg (by simpa using h0)]
   have hne : (synKind d != 0) = true := by simpa using h0
   rw [hne, Bool.true_and, Bool.eq_iff_iff]
   rw [List.all_eq_true, Option.isNone_iff_eq_none, List.findSome?_eq_none_iff]
   refine forall_congr' fun q => forall_congr' fun hq => ?_
   rw [ih q hq]
   cases swr q.2 <;> simp
def NoWr (d : D) (i : Nat) : Prop := ∀ (j : Nat) (q : Sub × D), j < i → (subs d)[j]? = some q → swr q.2 = none
theorem NoWr.zero {d : D} : NoWr d 0 := fun _ _ h => by omega
theorem NoWr.succ {d : D} {i : Nat} {q : Sub × D} (h : NoWr d i) (hq : (subs d)[i]? = some q) (hn : swr q.2 = none) : NoWr d (i + 1) := by
 intro j q2 hj hq2
 by_cases e : j = i
 ·subst e; rw [hq, Option.some.injEq] at hq2; subst hq2; exact hn
 ·exact h j q2 (by omega) hq2
theorem NoWr.all {d : D} (h : NoWr d (subs d).length) (hk : synKind d ≠ 0) : swr d = none := by
 rw [swr_eq, if_neg (by simpa using hk), List.findSome?_eq_none_iff]
 intro q hq
 obtain ⟨i, hi, rfl⟩ := List.getElem_of_mem hq
 rw [h i _ hi (by rw [List.getElem?_eq_getElem hi])]; rfl
theorem NoWr.found {d : D} {i : Nat} {q : Sub × D} {p : List Int} (h : NoWr d i) (hk : synKind d ≠ 0) (hq : (subs d)[i]? = some q) (hp : swr q.2 = some p) : swr d = some (q.1.p ++ p) := by
 rw [swr_eq, if_neg (by simpa using hk), List.findSome?_eq_some_iff]
 obtain ⟨hi, he⟩ := List.getElem?_eq_some_iff.1 hq
 refine ⟨(subs d).take i, q, (subs d).drop (i + 1), ?_, by rw [hp]; rfl, ?_⟩
 ·rw [← he, List.getElem_cons_drop, List.take_append_drop]
 ·intro q2 h2
  obtain ⟨j, hj, rfl⟩ := List.getElem_of_mem h2
  rw [List.length_take] at hj
  rw [List.getElem_take, h j _ (by omega) (List.getElem?_eq_getElem (by omega))]; rfl
theorem subs_plen {d : D} {q : Sub × D} (h : q ∈ subs d) : 1 ≤ q.1.p.length ∧ q.1.p.length ≤ 3 := by
 have hm : ∀ (f : Nat → D → Sub × D) (l : List D), (∀ i x, 1 ≤ (f i x).1.p.length ∧ (f i x).1.p.length ≤ 3) → q ∈ mapI f l → 1 ≤ q.1.p.length ∧ q.1.p.length ≤ 3 := by
  intro f l hf hq
  obtain ⟨i, x, hx, rfl⟩ := mapI_mem hq
  exact hf i x
 by_cases h4 : synKind d = 4 ∨ synKind d = 8
 ·rw [subs_of_rest h4] at h; exact hm _ _ (fun _ _ => ⟨by simp [sub0, sub1, subR], by simp [sub0, sub1, subR]⟩) h
 by_cases h5 : synKind d = 5 ∨ synKind d = 9
 ·rw [subs_of_fn h5] at h; rw [List.mem_singleton.1 h]; exact ⟨by simp [subL], by simp [subL]⟩
 by_cases h6 : synKind d = 6
 ·rw [subs_of_let h6] at h
  simp only [List.mem_cons, List.not_mem_nil, or_false] at h
  rcases h with rfl | rfl <;> exact ⟨by simp [subL], by simp [subL]⟩
 by_cases h7 : synKind d = 7
 ·rw [subs_of_rec h7, List.mem_append, List.mem_singleton] at h
  rcases h with h | rfl
  ·exact hm _ _ (fun _ _ => ⟨by simp [sub0, sub1, subR], by simp [sub0, sub1, subR]⟩) h
  ·exact ⟨by simp [subL], by simp [subL]⟩
 by_cases h10 : synKind d = 10
 ·rw [subs_of_app h10] at h; exact hm _ _ (fun _ _ => ⟨by simp [sub0, sub1, subR], by simp [sub0, sub1, subR]⟩) h
 ·exfalso
  have hs : subs d = [] := subs_of_none (by cases shape d <;> omega)
  rw [hs] at h; simp at h
theorem swr_len : ∀ (d : D) (p : List Int), swr d = some p → p.length ≤ 3 * d.size := by
 intro d
 induction d using D.indS with
 | h d ih =>
  intro p hp
  rw [swr_eq] at hp
  split at hp
  ·injection hp with hp; subst hp; simp
  ·obtain ⟨q, hq, he⟩ := List.exists_of_findSome?_eq_some hp
   cases hs : swr q.2 with
   | none => rw [hs] at he; cases he
   | some p2 =>
    rw [hs] at he
    simp only [Option.map_some, Option.some.injEq] at he
    subst he
    have h1 := ih q hq p2 hs
    have h2 := (subs_plen hq).2
    have h3 := subs_lt hq
    rw [List.length_append]; omega
/-- A path as a value; the empty path may be nil. -/
def wPV (p : List Int) : PV := if p = [] then .nils else .slice (p.map (.int .i64))
def wpath (d : D) : PV := match swr d with
 | some p => wPV p
 | none => .nils
theorem wr_some {d : D} {p : List Int} (h : swr d = some p) : wpath d = wPV p ∧ synOk d = false := by
 refine ⟨by unfold wpath; rw [h], by rw [synOk_swr, h]; rfl⟩
theorem wr_none {d : D} (h : swr d = none) : wpath d = .nils ∧ synOk d = true := by
 refine ⟨by unfold wpath; rw [h], by rw [synOk_swr, h]; rfl⟩
theorem swr_is {d : D} (h : synOk d = false) : ∃ p, swr d = some p := by
 rw [synOk_swr] at h
 cases hs : swr d with
 | some p => exact ⟨p, rfl⟩
 | none => rw [hs] at h; cases h
theorem swr_no {d : D} (h : synOk d = true) : swr d = none := by rw [synOk_swr] at h; exact Option.isNone_iff_eq_none.1 h
theorem wPV_cells (p : List Int) : (wPV p).cells = [wPV p] := by unfold wPV; split <;> rfl
theorem wPV_nrm (p : List Int) : PV.nrm (wPV p) = wPV p := by unfold wPV; split <;> rfl
theorem wpath_cells (d : D) : (wpath d).cells = [wpath d] := by unfold wpath; split; exact wPV_cells _; rfl
end Go.Aw

namespace Go.Aw
open Go
structure Cfg where
 P : Program
 ty : TyT
 sh : FuncId → List Tmp
 dm : FuncId → Nat → Nat × List Nat × Bool
 ca : FuncId → Bool
 orc : FuncId → List AV → Option AV

inductive Gate where
 | on | off | bad

def gateOf (ops : Array Oper) (o : Oper) (T : List (Nat × AV)) : Gate :=
 match o.guard with
 | none => .on
 | some _ => match guardTmp ops o with
  | some (d, want) => match Aw.get T d with
   | .pv (.bool b) => match b, want with
    | true, true => .on
    | false, false => .on
    | _, _ => .off
   | .tuple [] => .off
   | _ => .bad
  | none => .bad

def callOf (s : St) (o : Oper) : Option (FuncId × List AV) :=
 match o.op with
 | .call c => match c.callee with
  | .value fo => match ev s fo with
   | .func (.func f) caps => some (f, c.args.toList.map (ev s) ++ caps)
   | _ => none
  | _ => none
 | _ => none

def lower1 (x : AV) : AV := match toPV x with
 | some p => .pv p
 | none => x
def lowerT : AV → AV
 | .tuple xs => .tuple (xs.map lower1)
 | x => lower1 x
def cloT (no nt : Nat) : AV → Bool
 | .tuple xs => AV.clos no nt 0 xs
 | x => x.clo no nt 0

/-- What is left of a call's store. -/
def finR (σ : Store) (r : AV) (σ' : Store) : AV × Store :=
 match cloT σ.objs.length σ.toks.length (lowerT r) && (σ'.objs.take σ.objs.length).all (AObj.clo σ.objs.length σ.toks.length 0) with
 | true => (lowerT r, { σ'.cut σ.objs.length σ.toks.length with gl := σ.gl })
 | false => (r, { σ' with gl := σ.gl })

def isFin : Exit → Bool
 | .normal => true
 | .ret => true
 | _ => false

mutual
def evF (C : Cfg) : Nat → FuncId → List AV → Store → Option (AV × Store)
 | 0, _, _, _ => none
 | n + 1, f, args, σ => match C.orc f args with
  | some r => some (r, σ)
  | none => match C.P.funcs[f]? with
   | some fn => match fn.body with
    | some c => match decide (args.length ≤ fn.ntmps) with
     | true => match evC C n f fn.ntmps c ⟨argT 0 args, [], σ⟩ with
      | some (e, s) => match isFin e with
       | true => match resAV C.ty s fn.results.toList with
        | some l => match AV.noLs l with
         | true => some (finR σ (oneOf l) s.σ)
         | false => none
        | none => none
       | false => none
      | none => none
     | false => none
    | none => none
   | none => none
def evC (C : Cfg) : Nat → FuncId → Nat → Code → St → Option (Exit × St)
 | 0, _, _, _, _ => none
 | n + 1, f, N, c, s => match c with
  | .skip => some (.normal, s)
  | .ret => some (.ret, s)
  | .exit id => some (.exit id, s)
  | .seq x y => match evC C n f N x s with
   | some (.normal, s') => evC C n f N y s'
   | r => r
  | .block id c => match evC C n f N c s with
   | some (.exit id', s') => match Nat.beq id' id with
    | true => some (.normal, s')
    | false => some (.exit id', s')
   | r => r
  | .loop c => match evC C n f N c s with
   | some (.normal, s') => evC C n f N (.loop c) s'
   | r => r
  | .cond c x y => match ev s c with
   | .pv (.bool true) => evC C n f N x s
   | .pv (.bool false) => evC C n f N y s
   | _ => none
  | .region _ ops false => match evO C n f N ops ops.toList s with
   | some s' => some (.normal, s')
   | none => none
  | .region id ops true => match drawOk ops (C.dm f id).1 && decide ((C.dm f id).1 < ops.size) with
   | true => match evU C n f N (viewX (C.dm f id).2.1 (C.dm f id).2.2 s) ops (ops.toList.take (C.dm f id).1) s with
    | some s' => match evO C n f N ops (ops.toList.drop (C.dm f id).1) s' with
     | some s' => some (.normal, s')
     | none => none
    | none => none
   | false => none
  | _ => none
def evO (C : Cfg) : Nat → FuncId → Nat → Array Oper → List Oper → St → Option St
 | 0, _, _, _, _, _ => none
 | _ + 1, _, _, _, [], s => some s
 | n + 1, f, N, ops, o :: os, s => match dstOk N o.dst with
  | true => match gateOf ops o s.T with
   | .bad => none
   | .off => evO C n f N ops os (s.put o.dst (.tuple []))
   | .on => match callOf s o with
    | some (g, args) => match C.ca g && AV.noLs args with
     | true => match evF C n g args s.σ with
      | some (r, σ') => evO C n f N ops os (({ s with σ := σ' } : St).put o.dst r)
      | none => none
     | false => none
    | none => match stepOp C.ty (C.sh f) s o with
     | some s' => evO C n f N ops os s'
     | none => none
  | false => none
def evU (C : Cfg) : Nat → FuncId → Nat → View → Array Oper → List Oper → St → Option St
 | 0, _, _, _, _, _, _ => none
 | _ + 1, _, _, _, _, [], s => some s
 | n + 1, f, N, V, ops, o :: os, s => match dstOk N o.dst with
  | true => match gateOf ops o s.T with
   | .bad => none
   | .off => evU C n f N V ops os ⟨putT s.T o.dst (.tuple []), s.L, s.σ⟩
   | .on => match effOf C.ty (V.st s.T) o with
    | some (.call g args) => match C.ca g && AV.noLs args && V.objs.isEmpty with
     | true => match evF C n g args s.σ with
      | some (r, σ') => evU C n f N V ops os ⟨putT s.T o.dst r, s.L, σ'⟩
      | none => none
     | false => none
    | some e => match viewOk V e with
     | true => match effStep s o.dst e with
      | some s' => evU C n f N V ops os s'
      | none => none
     | false => none
    | none => none
  | false => none
end
section
variable {P : Program} {ty : TyT} {σ0 : Store} {N : Nat} {s s' : St} {o : Oper} {ops : Array Oper} {os : List Oper} {K : St → Prop} {V : View} {Q : Exit → St → Prop} {c : Code}
theorem awp_gl (h : s.σ.gl = σ0.gl → AWp P σ0 N c Q s) : AWp P σ0 N c Q s := by
 rintro g0 w0 a w ⟨g, r⟩
 exact h r.1.gl g0 w0 a w ⟨g, r⟩

theorem al_gl (h : s.σ.gl = σ0.gl → AOpsL P σ0 N ops os K s) : AOpsL P σ0 N ops os K s := by
 rintro l hl g0 w0 a w nx ⟨g, r⟩ hn
 exact h r.1.gl l hl g0 w0 a w nx ⟨g, r⟩ hn

theorem gate_on (h : gateOf ops o s.T = .on) : o.guard = none ∨ ∃ d b, guardTmp ops o = some (d, b) ∧ get s.T d = .pv (.bool b) := by
 unfold gateOf at h
 split at h
 ·exact .inl ‹_›
 ·split at h
  ·rename_i d want hg
   split at h
   ·rename_i b hb
    split at h
    ·exact .inr ⟨d, true, hg, hb⟩
    ·exact .inr ⟨d, false, hg, hb⟩
    ·cases h
   ·cases h
   ·cases h
  ·cases h

theorem gate_off {T : List (Nat × AV)} (h : gateOf ops o T = .off) : ∃ d b, guardTmp ops o = some (d, b) ∧ off (get T d) b = true := by
 unfold gateOf at h
 split at h
 ·cases h
 ·split at h
  ·rename_i d want hg
   split at h
   ·rename_i b hb
    split at h
    ·cases h
    ·cases h
    ·rename_i h1 h2
     refine ⟨d, want, hg, ?_⟩
     rw [hb]
     cases b <;> cases want <;> simp_all [off]
   ·rename_i hb
    exact ⟨d, want, hg, by rw [hb]; rfl⟩
   ·cases h
  ·cases h

theorem al_on (h : gateOf ops o s.T = .on) (hd : dstOk N o.dst = true) (k : AOp P σ0 N o (AOpsL P σ0 N ops os K) s) : AOpsL P σ0 N ops (o :: os) K s := by
 rcases gate_on h with hg | ⟨d, b, hg, hb⟩
 ·exact al_cons hg k
 ·exact al_take d b b hb rfl hg hd k

theorem al_off (h : gateOf ops o s.T = .off) (hd : dstOk N o.dst = true) (k : AOpsL P σ0 N ops os K (s.put o.dst (.tuple []))) : AOpsL P σ0 N ops (o :: os) K s := by
 obtain ⟨d, b, hg, hb⟩ := gate_off h
 intro l hl
 cases l with
 | nil => simp at hl
 | cons i l =>
  simp only [List.map_cons, List.cons.injEq] at hl
  exact aops_skip hl.1 hg hb hd (k l hl.2)

theorem gate_eff {e : Eff} (h : gateOf ops o s.T = .on) (he : effOf ty (V.st s.T) o = some e) : GateEff ty V ops s.T o e := by
 rcases gate_on h with hg | ⟨d, b, hg, hb⟩
 ·exact .plain hg he
 ·exact .yes hg hb he

theorem callOf_eq {g : FuncId} {args : List AV} (h : callOf s o = some (g, args)) : ∃ c fo caps, o.op = .call c ∧ c.callee = .value fo ∧ ev s fo = .func (.func g) caps ∧ args = c.args.toList.map (ev s) ++ caps := by
 unfold callOf at h
 split at h
 ·rename_i c hc
  split at h
  ·rename_i fo hfo
   split at h
   ·rename_i f caps hf
    cases h
    exact ⟨c, fo, caps, hc, hfo, hf, rfl⟩
   ·cases h
  ·cases h
 ·cases h

theorem lower1_wv {no nt : Nat} {x : AV} (h : (lower1 x).clo no nt 0 = true) : WV no nt 0 x (lower1 x) := by
 unfold lower1 at h ⊢
 split
 ·exact .pv ‹_›
 ·rename_i hx
  rw [hx] at h
  exact .same h

theorem lowerT_wvt {no nt : Nat} {r : AV} (h : cloT no nt (lowerT r) = true) : WVt no nt 0 r (lowerT r) := by
 cases r with
 | tuple xs =>
  simp only [lowerT, cloT, WVt] at h ⊢
  induction xs with
  | nil => trivial
  | cons x xs ih =>
   simp only [List.map_cons, AV.clos, Bool.and_eq_true] at h
   exact ⟨lower1_wv h.1, ih h.2⟩
 | _ =>
  simp only [lowerT] at h ⊢
  have h2 : ∀ (y : AV), (∀ xs, y ≠ .tuple xs) → cloT no nt y = true → y.clo no nt 0 = true := by
   intro y hy hc
   unfold cloT at hc
   split at hc
   ·exact (hy _ rfl).elim
   ·exact hc
  have h3 : ∀ (x : AV), (∀ xs, x ≠ .tuple xs) → ∀ xs, lower1 x ≠ .tuple xs := by
   intro x hx xs
   unfold lower1
   split
   ·simp
   ·exact hx xs
  have := lower1_wv (h2 _ (h3 _ (by simp)) h)
  unfold WVt
  split
  ·rename_i e1 e2; cases e1
  ·exact this
end
theorem ACalls.gl {P : Program} {f : FuncId} {args : List AV} {σ : Store} {R : AV → Store → Prop} (h : ACalls P f args σ R) : ACalls P f args σ fun r' s' => R r' s' ∧ s'.gl = σ.gl := by
 intro g' w cargs h1 h2 h3
 refine (h g' w cargs h1 h2 h3).mono ?_
 rintro e w' ⟨v, r1, σ1, g1, e1, e2, e3, e4, e5⟩
 exact ⟨v, r1, σ1, g1, e1, ⟨e2, e4.gl⟩, e3, e4, e5⟩

theorem appendStep_gl {s s' : St} {d : Option Tmp} {e : TypeId} {te : TyI} {x : AV} {ys : List PV} (h : appendStep s d e te x ys = some s') : s'.σ.gl = s.σ.gl := by
 unfold appendStep at h
 split at h
 ·split at h
  ·split at h
   ·split at h
    ·cases h; cases d <;> rfl
    ·cases h
   ·cases h
  ·split at h
   ·split at h
    ·cases h; cases d <;> rfl
    ·cases h
   ·cases h
 ·cases h

theorem effStep_gl {s s' : St} {d : Option Tmp} {e : Eff} (h : effStep s d e = some s') : s'.σ.gl = s.σ.gl := by
 cases e with
 | pure x => simp only [effStep, Option.some.injEq] at h; subst h; rfl
 | box cs => simp only [effStep, Option.some.injEq] at h; subst h; rfl
 | append e te x ys =>
  simp only [effStep] at h
  split at h
  ·rename_i s1 h1
   have := appendStep_gl h1
   cases h; exact this
  ·cases h
 | call => simp [effStep] at h
 | path => simp [effStep] at h
 | mk => simp only [effStep, Option.some.injEq] at h; subst h; rfl
 | storeL i off ti ds =>
  simp only [effStep] at h
  split at h
  ·split at h
   ·cases h; rfl
   ·cases h
  ·cases h

theorem evF_gl {C : Cfg} {n : Nat} {f : FuncId} {args : List AV} {σ σ' : Store} {r : AV} (h : evF C n f args σ = some (r, σ')) : σ'.gl = σ.gl := by
 cases n with
 | zero => simp [evF] at h
 | succ n =>
  simp only [evF] at h
  split at h
  ·cases h; rfl
  ·split at h
   ·split at h
    ·split at h
     ·split at h
      ·split at h
       ·split at h
        ·split at h
         ·simp only [finR] at h
          split at h <;> cases h <;> rfl
         ·cases h
        ·cases h
       ·cases h
      ·cases h
     ·cases h
    ·cases h
   ·cases h

/-- From the head of a loop on. -/
def AWpL (P : Program) (σ0 : Store) (N : Nat) (c : Code) (Q : Exit → St → Prop) (s : St) : Prop :=
 ∀ g0 w0 a w, Rel g0 σ0 w0 N s a w → ∀ (b : Frame) (k : List Item) (cs : List Frame), b.roundOf = (wF none).round → (wF none).fn b.fn → (wF none).room (cs.length + 1 + 0) → ∃ e a' w', lift g0 σ0 w0 N Q e a' w' ∧ ArrivesIn (Machine.fenced P (wF none)) P (lone (b.atR a (.code c :: .inLoop c :: k)) cs w) b k cs e a' w'

theorem awp_loopL {P : Program} {σ0 : Store} {N : Nat} {c : Code} {Q : Exit → St → Prop} {s : St} (h : AWpL P σ0 N c Q s) : AWp P σ0 N (.loop c) Q s := by
 intro g0 w0 a w r b k cs hro hb hr
 obtain ⟨e₂, a₂, w₂, hq₂, harr₂⟩ := h g0 w0 a w r b k cs hro hb hr
 exact ⟨e₂, a₂, w₂, hq₂, .of_steps (.one (fenced_calm hb hr rfl) stepR_loop) harr₂⟩

theorem awpL_round {P : Program} {σ0 : Store} {N : Nat} {c : Code} {Q : Exit → St → Prop} {s : St} (hw : AWp P σ0 N c (Then (AWpL P σ0 N c Q) Q) s) : AWpL P σ0 N c Q s := by
 intro g0 w0 a w r b k cs hro hb hr
 obtain ⟨e₁, a₁, w₁, ⟨s₁, hq, r₁⟩, harr⟩ := hw g0 w0 a w r b (.inLoop c :: k) cs hro hb hr
 cases e₁ with
 | normal =>
  obtain ⟨e₂, a₂, w₂, hq₂, harr₂⟩ := hq g0 w0 a₁ w₁ r₁ b k cs hro hb hr
  exact ⟨e₂, a₂, w₂, hq₂, .of_steps (StepsIn.trans harr (.one (fenced_calm hb hr rfl) stepR_inLoop)) harr₂⟩
 | exit id => exact ⟨_, a₁, w₁, ⟨s₁, hq, r₁⟩, .pass (x := .inLoop c) rfl (fun _ _ => .inl (by simp)) harr⟩
 | goto l => exact ⟨_, a₁, w₁, ⟨s₁, hq, r₁⟩, .pass (x := .inLoop c) rfl (fun _ _ => .inl (by simp)) harr⟩
 | ret => exact ⟨_, a₁, w₁, ⟨s₁, hq, r₁⟩, .pass (x := .inLoop c) rfl (fun _ _ => .inl (by simp)) harr⟩
 | panic ch => exact ⟨_, a₁, w₁, ⟨s₁, hq, r₁⟩, .pass (x := .inLoop c) rfl (fun _ _ => .inl (by simp)) harr⟩
 | outgrown => exact ⟨_, a₁, w₁, ⟨s₁, hq, r₁⟩, .pass (x := .inLoop c) rfl (fun _ _ => .inl (by simp)) harr⟩

structure CfgOk (C : Cfg) (G : List (Nat × PV)) : Prop where
 hty : TyOk C.P C.ty
 hsz : ∀ t ti, C.ty t = some ti → ti.size ≠ 0
 hca : ∀ f, C.ca f = true → Callable C.P f
 horc : ∀ f args r, C.orc f args = some r → Pur C.P G f args r

theorem ev_sound {C : Cfg} {G : List (Nat × PV)} (H : CfgOk C G) : ∀ n : Nat,
  (∀ f args σ r σ', σ.gl = G → evF C n f args σ = some (r, σ') → ACalls C.P f args σ fun r' s' => r' = r ∧ s' = σ') ∧
  (∀ f N c s e s' σ0 (Q : Exit → St → Prop), σ0.gl = G → evC C n f N c s = some (e, s') → Q e s' → AWp C.P σ0 N c Q s) ∧
  (∀ f N ops os s s' σ0 (K : St → Prop), σ0.gl = G → evO C n f N ops os s = some s' → K s' → AOpsL C.P σ0 N ops os K s) ∧
  (∀ f N V ops os s s' (K : St → Prop), s.σ.gl = G → evU C n f N V ops os s = some s' → (s'.σ.gl = G → K s') → UL C.P C.ty V N ops os K s) ∧
  (∀ f N c s e s' σ0 (Q : Exit → St → Prop), σ0.gl = G → evC C n f N (.loop c) s = some (e, s') → Q e s' → AWpL C.P σ0 N c Q s)
 | 0 => ⟨fun _ _ _ _ _ _ h => by simp [evF] at h, fun _ _ _ _ _ _ _ _ _ h => by simp [evC] at h, fun _ _ _ _ _ _ _ _ _ h => by simp [evO] at h, fun _ _ _ _ _ _ _ _ _ h => by simp [evU] at h, fun _ _ _ _ _ _ _ _ _ h => by simp [evC] at h⟩
 | n + 1 => by
  obtain ⟨ihF, ihC, ihO, ihU, ihL⟩ := ev_sound H n
  have loop : ∀ f N c s e s' σ0 (Q : Exit → St → Prop), σ0.gl = G → evC C (n + 1) f N (.loop c) s = some (e, s') → Q e s' → AWpL C.P σ0 N c Q s := by
   intro f N c s e s' σ0 Q hgl h hQ
   simp only [evC] at h
   refine awpL_round ?_
   split at h
   ·rename_i s1 h1
    exact ihC f N c s .normal s1 σ0 _ hgl h1 (ihL f N c s1 e s' σ0 _ hgl h hQ)
   ·rename_i hne
    refine ihC f N c s e s' σ0 _ hgl h ?_
    cases e <;> first | exact hQ | exact (hne _ h).elim
  refine ⟨?_, ?_, ?_, ?_, loop⟩
  ·intro f args σ r σ' hgl h
   simp only [evF] at h
   split at h
   ·rename_i r1 ho
    cases h
    exact H.horc f args _ ho _ hgl
   ·split at h
    ·rename_i fn hfn
     split at h
     ·rename_i c hc
      split at h
      ·rename_i hlen
       split at h
       ·rename_i e s hs
        split at h
        ·rename_i hfin
         split at h
         ·rename_i l hl
          split at h
          ·rename_i hnl
           have key : ACalls C.P f args σ fun r' s' => r' = oneOf l ∧ s' = s.σ := by
            refine acalls_of H.hty hfn hc (by simpa using hlen) (ihC f fn.ntmps c _ e s σ _ hgl hs ?_)
            cases e <;> first | (cases hfin; done) | exact ⟨l, hl, hnl, rfl, rfl⟩
           have key := key.gl
           simp only [finR] at h
           split at h
           ·rename_i hclo
            cases h
            simp only [Bool.and_eq_true, List.all_eq_true] at hclo
            refine key.less ?_
            rintro _ _ ⟨⟨rfl, rfl⟩, hg2⟩
            exact ⟨_, _, _, lowerT_wvt hclo.1, Nat.le_refl _, Nat.le_refl _, fun ob hob => .inr (hclo.2 ob hob), rfl, by rw [← hg2]; rfl⟩
           ·cases h
            refine key.mono ?_
            rintro _ _ ⟨⟨rfl, rfl⟩, hg2⟩
            exact ⟨rfl, by rw [← hg2]⟩
          ·cases h
         ·cases h
        ·cases h
       ·cases h
      ·cases h
     ·cases h
    ·cases h
  ·intro f N c s e s' σ0 Q hgl h hQ
   cases c <;> (try simp only [evC] at h) <;> try (cases h; done)
   case skip => cases h; exact awp_skip hQ
   case ret => cases h; exact awp_ret hQ
   case exit => cases h; exact awp_exit hQ
   case seq x y =>
    refine awp_seq ?_
    split at h
    ·rename_i s1 h1
     exact ihC f N x s .normal s1 σ0 _ hgl h1 (ihC f N y s1 e s' σ0 _ hgl h hQ)
    ·rename_i hne
     refine ihC f N x s e s' σ0 _ hgl h ?_
     cases e <;> first | exact hQ | exact (hne _ h).elim
   case block id c =>
    refine awp_block ?_
    split at h
    ·rename_i id' s1 h1
     refine ihC f N c s (.exit id') s1 σ0 _ hgl h1 ?_
     split at h
     ·rename_i hb
      have := Nat.eq_of_beq_eq_true hb
      cases h; subst this; exact inBlock_hit hQ
     ·rename_i hb
      have : id' ≠ id := fun e => by subst e; simp at hb
      cases h; exact inBlock_miss this hQ
    ·rename_i hne
     refine ihC f N c s e s' σ0 _ hgl h ?_
     cases e <;> first | exact hQ | exact (hne _ _ h).elim
   case loop c =>
    exact awp_loopL (loop f N c s e s' σ0 Q hgl (by simp only [evC]; exact h) hQ)
   case cond c x y =>
    split at h
    ·rename_i hc
     exact awp_cond hc (fun _ => ihC f N x s e s' σ0 Q hgl h hQ) (fun e => by cases e)
    ·rename_i hc
     exact awp_cond hc (fun e => by cases e) (fun _ => ihC f N y s e s' σ0 Q hgl h hQ)
    ·cases h
   case region id ops draw =>
    cases draw with
    | false =>
     simp only [evC] at h
     split at h
     ·rename_i s1 h1
      cases h
      exact awp_reg (ihO f N ops _ s s' σ0 _ hgl h1 hQ)
     ·cases h
    | true =>
     simp only [evC] at h
     split at h
     ·rename_i hok
      simp only [Bool.and_eq_true, decide_eq_true_eq] at hok
      split at h
      ·rename_i s1 h1
       split at h
       ·rename_i s2 h2
        cases h
        refine awp_gl fun hsg => ?_
        refine awp_regDX H.hty H.hsz _ (C.dm f id).2.1 (C.dm f id).2.2 hok.1 hok.2 ?_
        exact ihU f N _ ops _ s s1 _ (hsg.trans hgl) h1 fun _ => ihO f N ops _ s1 s' σ0 _ hgl h2 hQ
       ·cases h
      ·cases h
     ·cases h
  ·intro f N ops os s s' σ0 K hgl h hK
   cases os with
   | nil => simp only [evO] at h; cases h; exact al_nil hK
   | cons o os =>
    simp only [evO] at h
    split at h
    ·rename_i hd
     split at h
     ·cases h
     ·rename_i hg
      exact al_off hg hd (ihO f N ops os _ s' σ0 K hgl h hK)
     ·rename_i hg
      split at h
      ·rename_i g args hcall
       split at h
       ·rename_i hca
        simp only [Bool.and_eq_true] at hca
        split at h
        ·rename_i r σ' hF
         obtain ⟨c, fo, caps, k1, k2, k3, rfl⟩ := callOf_eq hcall
         refine al_gl fun hsg => ?_
         refine al_on hg hd (aop_call k1 k2 k3 (H.hca g hca.1) hca.2 hd ((ihF g _ s.σ r σ' (hsg.trans hgl) hF).mono ?_))
         rintro _ _ ⟨rfl, rfl⟩
         exact ihO f N ops os _ s' σ0 K hgl h hK
        ·cases h
       ·cases h
      ·split at h
       ·rename_i s1 h1
        exact al_on hg hd (aop_step H.hty h1 hd (ihO f N ops os _ s' σ0 K hgl h hK))
       ·cases h
    ·cases h
  ·intro f N V ops os s s' K hgl h hK
   cases os with
   | nil => simp only [evU] at h; cases h; exact ul_nil (hK hgl)
   | cons o os =>
    simp only [evU] at h
    split at h
    ·rename_i hd
     split at h
     ·cases h
     ·rename_i hg
      obtain ⟨d, b, hgt, hb⟩ := gate_off hg
      exact ⟨hd, .pure (.tuple []), .no hgt hb, ihU f N V ops os ⟨putT s.T o.dst (.tuple []), s.L, s.σ⟩ s' K hgl h hK⟩
     ·rename_i hg
      split at h
      ·rename_i g args he
       split at h
       ·rename_i hca
        simp only [Bool.and_eq_true, List.isEmpty_iff] at hca
        split at h
        ·rename_i r σ' hF
         have hc := ihF g args s.σ r σ' hgl hF
         refine ⟨hd, _, gate_eff hg he, H.hca g hca.1.1, hca.1.2, ?_, ?_⟩
         ·refine hc.mono ?_
          rintro _ _ ⟨rfl, rfl⟩
          refine ⟨fun o ob ho => by rw [hca.2] at ho; simp at ho, ?_⟩
          exact ihU f N V ops os ⟨putT s.T o.dst _, s.L, _⟩ s' K ((evF_gl hF).trans hgl) h hK
         ·exact ⟨r, σ', ihU f N V ops os ⟨putT s.T o.dst r, s.L, σ'⟩ s' K ((evF_gl hF).trans hgl) h hK⟩
        ·cases h
       ·cases h
      ·rename_i e hne he
       split at h
       ·rename_i hv
        split at h
        ·rename_i s1 h1
         refine ⟨hd, e, gate_eff hg he, effStep_exec (n := fun T L σ => UL C.P C.ty V N ops os K ⟨T, L, σ⟩) hv h1 ?_⟩
         exact ihU f N V ops os s1 s' K ((effStep_gl h1).trans hgl) h hK
        ·cases h
       ·cases h
      ·cases h
    ·cases h
end Go.Aw

namespace Go.Aw
open Go
variable {P : Program} {ty : TyT} {σ0 : Store} {N : Nat} {s : St} {o : Oper} {os : List Oper} {ops : Array Oper} {K : St → Prop}
end Go.Aw
