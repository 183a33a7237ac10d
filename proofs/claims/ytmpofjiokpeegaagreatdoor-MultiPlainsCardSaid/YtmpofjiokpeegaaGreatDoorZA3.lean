/- Part of the proof that the statement holds for every input that its row lets in: an own logic of abstract values over the given model, and laws of data and programs; no program is named in it. -/
import Derived.Test.YtmpofjiokpeegaaGreatDoorZA2
import Derived.Lib.Bytealg
import Derived.Lib.ItoaNum
import Derived.KernelRfl
import Derived.Lib.LaidTab
import Derived.Sort.Grow
import Derived.Deep.Draws
import Derived.Lib.ItoaLen
import Derived.Lib.AtoiAll
import Derived.Lib.ConvBytes
set_option linter.unusedSimpArgs false
set_option linter.unusedVariables false
/- What the functions of the packages datum, node, prim and flat give, told of data as trees. No program is named. -/
namespace Go.Aw
open Go
abbrev es : ByteArray := ⟨#[]⟩
def dnum (n : Int) : D := .mk 1 n es []
def dsym (s : ByteArray) : D := .mk 2 0 s []
def dlist (l : List D) : D := .mk 3 0 es l
def dnone : D := .mk 0 0 es []

theorem enc_sym (s : ByteArray) : enc (dsym s) = .agg [.int .i64 2, .int .i64 0, .str s, .slice []] := by simp [dsym, enc, encs]
theorem enc_list (l : List D) : enc (dlist l) = .agg [.int .i64 3, .int .i64 0, .str es, .slice (l.map enc)] := by simp [dlist, enc, encs_map]
theorem enc_none : enc dnone = .agg [.int .i64 0, .int .i64 0, .str es, .slice []] := by simp [dnone, enc, encs]

/-- A byte as a number. -/
def isDigit (c : Int) : Bool := decide (48 ≤ c) && decide (c ≤ 57)
def isLower (c : Int) : Bool := decide (97 ≤ c) && decide (c ≤ 122)
def sCall : ByteArray := ⟨#[99, 97, 108, 108]⟩
def sLet : ByteArray := ⟨#[108, 101, 116]⟩
def sQuote : ByteArray := ⟨#[113, 117, 111, 116, 101]⟩
def sIf : ByteArray := ⟨#[105, 102]⟩

def keyPV (d : D) : PV := .agg [.int .i64 d.num, .str d.text]

def D.head (d : D) : D := d.kids.headD dnone

def isCall (d : D) : Bool := d.kind == 3 && decide (d.head.text = sCall)

/-! ### looking for the first -/

def idxOf {α : Type} (p : α → Bool) (l : List α) : Int :=
  match l.findIdx? p with
  | some i => i
  | none => -1

/-- None of the first k. -/
def NotYet {α : Type} (p : α → Bool) (l : List α) (k : Nat) : Prop := ∀ (j : Nat) x, j < k → l[j]? = some x → p x = false

section
variable {α : Type} {p : α → Bool} {l : List α} {k : Nat} {x : α}
theorem NotYet.zero : NotYet p l 0 := fun j x h => by omega
theorem NotYet.succ (h : NotYet p l k) (hx : l[k]? = some x) (hp : p x = false) : NotYet p l (k + 1) := by
  intro j y hj hy
  by_cases e : j = k
  · subst e; rw [hx] at hy; cases hy; exact hp
  · exact h j y (by omega) hy
theorem NotYet.all (h : NotYet p l l.length) : ∀ x, x ∈ l → p x = false := by
  intro x hx
  obtain ⟨j, hj, rfl⟩ := List.getElem_of_mem hx
  exact h j _ hj (by simp)
theorem NotYet.any (h : NotYet p l l.length) : l.any p = false := by
  rw [List.any_eq_false]
  intro x hx; simp [h.all x hx]
theorem idxOf_found (h : NotYet p l k) (hx : l[k]? = some x) (hp : p x = true) : idxOf p l = k := by
  unfold idxOf
  have : l.findIdx? p = some k := by
    rw [List.findIdx?_eq_some_iff_getElem]
    obtain ⟨h1, h2⟩ := List.getElem?_eq_some_iff.1 hx
    refine ⟨h1, by rw [h2]; exact hp, fun j hj => ?_⟩
    have := h j l[j] hj (by simp)
    simp [this]
  rw [this]
theorem idxOf_none (h : NotYet p l l.length) : idxOf p l = -1 := by
  unfold idxOf
  have : l.findIdx? p = none := by
    rw [List.findIdx?_eq_none_iff]
    intro x hx; simp [h.all x hx]
  rw [this]
theorem idxOf_any (p : α → Bool) (l : List α) : decide (idxOf p l ≥ 0) = l.any p := by
  unfold idxOf
  cases h : l.findIdx? p with
  | none =>
    rw [List.findIdx?_eq_none_iff] at h
    have : l.any p = false := by rw [List.any_eq_false]; intro x hx; simp [h x hx]
    rw [this]; rfl
  | some i =>
    rw [List.findIdx?_eq_some_iff_getElem] at h
    obtain ⟨h1, h2, _⟩ := h
    have : l.any p = true := List.any_eq_true.2 ⟨_, List.getElem_mem h1, h2⟩
    rw [this]; simp
theorem any_found (hx : l[k]? = some x) (hp : p x = true) : l.any p = true := List.any_eq_true.2 ⟨x, List.mem_of_getElem? hx, hp⟩
end
/-! ### names -/
def bt (s : ByteArray) (i : Nat) : Int := byteAt s i
def atomS : ByteArray := ⟨#[43, 45, 42, 47, 60, 61, 62, 63, 33, 95, 46]⟩
/-- Of datum: with the library's IndexByte. -/
def isAtom (c : Int) : Bool := isLower c || (isDigit c || decide (0 ≤ Lib.indexByte [43, 45, 42, 47, 60, 61, 62, 63, 33, 95, 46] c.toNat.toUInt8))
/-- Of the specification. -/
def inAtoms (c : Int) : Bool := (List.range 11).any (fun k => c == byteAt atomS k)
def letter (c : Int) : Bool := inAtoms c || (isDigit c || isLower c)
def isSym (lt : Int → Bool) (s : ByteArray) : Bool :=
  !((s.size : Int) == 0 || decide ((40 : Int) < s.size) || isDigit (bt s 0) || (bt s 0 == 45 && decide ((1 : Int) < s.size) && isDigit (bt s 1))) && (List.range s.size).all (fun i => lt (bt s i))

/-! ### the laid tables -/
def bs (s : List UInt8) : ByteArray := ⟨s.toArray⟩
def resK : List PV := [.str ⟨#[113, 117, 111, 116, 101]⟩, .str ⟨#[105, 102]⟩, .str ⟨#[102, 110]⟩, .str ⟨#[108, 101, 116]⟩, .str ⟨#[114, 101, 99]⟩, .str ⟨#[115, 101, 113]⟩, .str ⟨#[117, 112]⟩, .str ⟨#[99, 97, 108, 108]⟩]
/-- Reserved: no name. -/
def isRes (t : ByteArray) : Bool := (kfind (.str t) resK).isSome
/-- A primitive's name and how many arguments it takes. -/
def primL : List (ByteArray × Int) := [(⟨#[43]⟩, 2), (⟨#[45]⟩, 2), (⟨#[42]⟩, 2), (⟨#[113, 117, 111, 116]⟩, 2), (⟨#[114, 101, 109]⟩, 2), (⟨#[60]⟩, 2), (⟨#[61]⟩, 2), (⟨#[99, 111, 110, 115]⟩, 2), (⟨#[102, 105, 114, 115, 116]⟩, 1), (⟨#[114, 101, 115, 116]⟩, 1), (⟨#[99, 111, 117, 110, 116]⟩, 1), (⟨#[108, 105, 115, 116, 63]⟩, 1), (⟨#[110, 117, 109, 63]⟩, 1), (⟨#[115, 121, 109, 63]⟩, 1), (⟨#[109, 97, 114, 107]⟩, 2), (⟨#[115, 116, 111, 112]⟩, 1)]
def encPrim (p : ByteArray × Int) : PV := .agg [.str p.1, .int .i64 p.2]
/-- The same keys, in whatever order they lie. -/
structure ResO where
  l : List PV
  len : l.length = 8
  fit : l.all (KS.fits (.one .str)) = true
  find : ∀ x : ByteArray, (kfind (.str x) l).isSome = isRes x
theorem encPrim_cells (p : ByteArray × Int) : (encPrim p).cells = [.str p.1, .int .i64 p.2] := rfl
def arity (s : ByteArray) : Int × Bool :=
  match primL.find? fun p => decide (p.1 = s) with
  | some p => (p.2, true)
  | none => (0, false)

/-! ### formed data -/
mutual
def formed : D → Bool
  | .mk k n t l => if k == 1 then decide (t = es) && (l.length : Int) == 0 else if k == 2 then n == 0 && (l.length : Int) == 0 && isSym isAtom t else if k == 3 then n == 0 && decide (t = es) && formeds l else false
def formeds : List D → Bool
  | [] => true
  | d :: l => formed d && formeds l
end
theorem formeds_any : ∀ l : List D, formeds l = !l.any fun d => !formed d
  | [] => rfl
  | d :: l => by simp [formeds, formeds_any l]
theorem formed_eq (d : D) : formed d = if d.kind == 1 then decide (d.text = es) && (d.kids.length : Int) == 0 else if d.kind == 2 then d.num == 0 && (d.kids.length : Int) == 0 && isSym isAtom d.text else if d.kind == 3 then d.num == 0 && decide (d.text = es) && !d.kids.any (fun d => !formed d) else false := by
  cases d; simp only [formed, formeds_any, D.kind, D.num, D.text, D.kids]; rfl

/-- The elements of a list with a length, or at least that many; nil if it is none. -/
def kidsOf (d : D) (n : Int) (more : Bool) : Option (List D) := if (d.kind != 3 || decide ((d.kids.length : Int) < n) || (!more && decide (n < (d.kids.length : Int)))) = true then none else some d.kids
def isName (d : D) : Bool := d.kind == 2 && !isRes d.text
def isLabel (d : D) : Bool := if d.kind == 1 then decide (0 ≤ d.num) && decide (d.num ≤ 2147483647) else isName d

/-- The expressions in one, directly. -/
def parts (d : D) : List D :=
  if (d.kind != 3) = true then [] else if decide (d.head.text = sQuote) = true then [] else if decide (d.head.text = sLet) = true then d.kids.drop 2 else if decide (d.head.text = sCall) = true then d.kids.drop 2 else d.kids.drop 1

theorem bt_eq {s : ByteArray} {k : Nat} : byteAt s (k : Int) = bt s k := rfl
theorem bt0 {s : ByteArray} : byteAt s 0 = bt s 0 := rfl
theorem bt1 {s : ByteArray} : byteAt s 1 = bt s 1 := rfl
theorem all_of_notYet {f : Nat → Bool} {n : Nat} (h : NotYet (fun i => !f i) (List.range n) n) : (List.range n).all f = true := by
  rw [List.all_eq_true]
  intro i hi
  have := h i i (List.mem_range.1 hi) (by simp [List.mem_range.1 hi])
  simpa using this
theorem all_found {f : Nat → Bool} {n k : Nat} (hk : k < n) (h : f k = false) : (List.range n).all f = false := by
  rw [List.all_eq_false]
  exact ⟨k, List.mem_range.2 hk, by simp [h]⟩

/-! ### equality, and the definition with a label -/
def eqf (p : D → D → Bool) (a b : List D) : Bool := !((a.length : Int) != b.length) && (a.zip b).all fun x => p x.1 x.2
mutual
def deq : D → D → Bool
  | .mk k n t l, .mk k' n' t' l' => k == k' && n == n' && decide (t = t') && deqs l l'
def deqs : List D → List D → Bool
  | [], [] => true
  | x :: l, y :: r => deq x y && deqs l r
  | _, _ => false
end
theorem deqs_eqf : ∀ a b : List D, deqs a b = eqf deq a b
  | [], [] => rfl
  | x :: a, y :: b => by
    rw [deqs, deqs_eqf a b]
    have e : (((x :: a).length : Int) != ((y :: b).length : Int)) = ((a.length : Int) != (b.length : Int)) := by
      by_cases h : a.length = b.length
      · simp [h]
      · have h1 : ((x :: a).length : Int) ≠ ((y :: b).length : Int) := by simp; omega
        have h2 : (a.length : Int) ≠ (b.length : Int) := by omega
        rw [bne_iff_ne.2 h1, bne_iff_ne.2 h2]
    simp only [eqf, e, List.zip_cons_cons, List.all_cons]
    cases deq x y <;> simp
  | [], y :: b => by
    have h1 : ((([] : List D).length : Int) != ((y :: b).length : Int)) = true := bne_iff_ne.2 (by simp; omega)
    simp only [deqs, eqf, h1]; rfl
  | x :: a, [] => by
    have h1 : (((x :: a).length : Int) != (([] : List D).length : Int)) = true := bne_iff_ne.2 (by simp; omega)
    simp only [deqs, eqf, h1]; rfl
theorem deq_eq (a b : D) : deq a b = (a.kind == b.kind && a.num == b.num && decide (a.text = b.text) && eqf deq a.kids b.kids) := by
  cases a; cases b; simp only [deq, deqs_eqf, D.kind, D.num, D.text, D.kids]; rfl
mutual
theorem deq_refl : ∀ a : D, deq a a = true
  | .mk k n t l => by simp [deq, deqs_refl l]
theorem deqs_refl : ∀ l : List D, deqs l l = true
  | [] => rfl
  | x :: l => by simp [deqs, deq_refl x, deqs_refl l]
end
mutual
theorem deq_of : ∀ {a b : D}, deq a b = true → a = b
  | .mk k n t l, .mk k' n' t' l', h => by
    simp only [deq, Bool.and_eq_true, beq_iff_eq, decide_eq_true_eq] at h
    obtain ⟨⟨⟨rfl, rfl⟩, rfl⟩, h⟩ := h
    rw [deqs_of h]
theorem deqs_of : ∀ {a b : List D}, deqs a b = true → a = b
  | [], [], _ => rfl
  | x :: a, y :: b, h => by
    simp only [deqs, Bool.and_eq_true] at h
    rw [deq_of h.1, deqs_of h.2]
  | [], _ :: _, h => by simp [deqs] at h
  | _ :: _, [], h => by simp [deqs] at h
end
def ownR (e : TypeId) (d : D) (σ : Store) (r : AV) (σ' : Store) : Prop := r = .agg [.pv (.int .i64 d.kind), .pv (.int .i64 d.num), .pv (.str d.text), .acc (d.kids.map enc) σ.toks.length] ∧ σ' = { σ with toks := σ.toks ++ [⟨d.kids.length, e, 4⟩] }
theorem zip_get {α β : Type} {a : List α} {b : List β} {k : Nat} {x : α} {y : β} (hx : a[k]? = some x) (hy : b[k]? = some y) : (a.zip b)[k]? = some (x, y) := by
  rw [List.getElem?_zip_eq_some]; exact ⟨hx, hy⟩

theorem find_found {α : Type} {p : α → Bool} {l : List α} {k : Nat} {x : α} (h : NotYet p l k) (hx : l[k]? = some x) (hp : p x = true) : l.find? p = some x := by
  rw [List.find?_eq_some_iff_getElem]
  obtain ⟨h1, h2⟩ := List.getElem?_eq_some_iff.1 hx
  refine ⟨hp, k, h1, h2, fun j hj => ?_⟩
  have := h j l[j] hj (by simp)
  simp [this]
theorem find_none {α : Type} {p : α → Bool} {l : List α} (h : NotYet p l l.length) : l.find? p = none := by
  rw [List.find?_eq_none]
  intro x hx; simp [h.all x hx]
theorem idxOf_neg {α : Type} {p : α → Bool} {l : List α} (h : idxOf p l < 0) : l.find? p = none := by
  unfold idxOf at h
  split at h
  · omega
  · rename_i hn
    rw [List.findIdx?_eq_none_iff] at hn
    rw [List.find?_eq_none]
    intro x hx; simp [hn x hx]
theorem idxOf_get {α : Type} {p : α → Bool} {l : List α} (h : ¬ idxOf p l < 0) : 0 ≤ idxOf p l ∧ ∃ x, l[(idxOf p l).toNat]? = some x ∧ l.find? p = some x := by
  cases hi : l.findIdx? p with
  | some i =>
    have e : idxOf p l = i := by unfold idxOf; rw [hi]
    rw [e]
    rw [List.findIdx?_eq_some_iff_getElem] at hi
    obtain ⟨h1, h2, h3⟩ := hi
    refine ⟨by omega, l[i], by simp [h1], ?_⟩
    rw [List.find?_eq_some_iff_getElem]
    exact ⟨h2, i, h1, rfl, fun j hj => by simpa using h3 j hj⟩
  | none =>
    exfalso
    have e : idxOf p l = -1 := by unfold idxOf; rw [hi]
    rw [e] at h; omega

/-- The definition with a label, and whether there is one. -/
def findD (l : List D) (f : D) : D × Bool :=
  match l.find? fun d => deq d.head f with
  | some d => (d, true)
  | none => (dnone, false)

theorem arity_found {s : ByteArray} {k : Nat} {p : ByteArray × Int} (h : NotYet (fun p => decide (p.1 = s)) primL k) (hx : primL[k]? = some p) (hp : decide (p.1 = s) = true) : arity s = (p.2, true) := by
  unfold arity; rw [find_found h hx hp]
theorem arity_none {s : ByteArray} (h : NotYet (fun p => decide (p.1 = s)) primL primL.length) : arity s = (0, false) := by
  unfold arity; rw [find_none h]
theorem primL_length : primL.length = 16 := rfl

def textsL (l : List D) : List ByteArray := l.map D.text
def namesGo : List ByteArray → List D → Option (List ByteArray)
  | acc, [] => some acc
  | acc, x :: l => if (!isName x) = true then none else if (acc.any fun y => decide (x.text = y)) = true then none else namesGo (acc ++ [x.text]) l
/-- The texts of a list of different names. -/
def names (d : D) : Option (List ByteArray) := if (d.kind != 3) = true then none else namesGo [] d.kids
theorem allSz_str (l : List ByteArray) : allSz 1 (l.map .str) = true := by simp [allSz, PV.cells]

/-! ### going through all data in one -/
mutual
def eachF (st : Int → Nat → Int) : Int → Nat → D → Int
  | c, n, .mk _ _ _ l => eachFs st (st c n) (n + 1) l
def eachFs (st : Int → Nat → Int) : Int → Nat → List D → Int
  | c, _, [] => c
  | c, n, d :: l => eachFs st (eachF st c n d) n l
end
theorem eachF_eq {st : Int → Nat → Int} {c : Int} {n : Nat} {d : D} : eachF st c n d = eachFs st (st c n) (n + 1) d.kids := by cases d; rfl
theorem eachFs_snoc {st : Int → Nat → Int} : ∀ {c : Int} {n : Nat} {l : List D} {x : D}, eachFs st c n (l ++ [x]) = eachF st (eachFs st c n l) n x
  | c, n, [], x => rfl
  | c, n, y :: l, x => by simp only [List.cons_append, eachFs]; exact eachFs_snoc

/-- A counter in a shared box. -/
def setC (σ : Store) (o : Nat) (v : Int) : Store := { σ with objs := σ.objs.set o (.box [.pv (.int .i64 v)]) }
def EachR (o : Nat) (v : Int) (σ : Store) (r : AV) (σ' : Store) : Prop := r = .pv (.bool true) ∧ σ' = setC σ o v
section
variable {σ : Store} {o : Nat} {v c : Int}
theorem setC_toks : (setC σ o v).toks = σ.toks := rfl
theorem setC_cut : (setC σ o v).cut σ.objs.length σ.toks.length = setC σ o v := by simp [setC, Store.cut, List.take_of_length_le]
theorem setC_get (h : σ.objs[o]? = some (.box [.pv (.int .i64 c)])) : (setC σ o v).objs[o]? = some (.box [.pv (.int .i64 v)]) := by
  have := (List.getElem?_eq_some_iff.1 h).1
  simp [setC, this]
theorem setC_mem {ob : AObj} (h : ob ∈ (setC σ o v).objs) (a b d : Nat) : ob ∈ σ.objs ∨ ob.clo a b d = true := by
  rcases List.mem_or_eq_of_mem_set h with h | rfl
  · exact .inl h
  · exact .inr rfl
theorem PathAt.scr {x : AV} {n : Nat} (h : PathAt σ x n) : ∃ o cap, x = .scr o n cap := by
  rcases h with ⟨o, rfl, rfl⟩ | ⟨o, cap, rfl, _⟩
  · exact ⟨o, 0, rfl⟩
  · exact ⟨o, cap, rfl⟩
theorem PathAt.setC {x : AV} {n : Nat} (h : PathAt σ x n) (hc : σ.objs[o]? = some (.box [.pv (.int .i64 c)])) : PathAt (Aw.setC σ o v) x n := by
  rcases h with h | ⟨po, cap, rfl, h1, h2, h3⟩
  · exact .inl h
  · refine .inr ⟨po, cap, rfl, h1, h2, ?_⟩
    have hne : o ≠ po := by
      rintro rfl
      rw [h3] at hc
      simp only [Option.some.injEq, AObj.box.injEq] at hc
      cases cap with
      | zero => omega
      | succ k => simp [List.replicate_succ] at hc
    simp only [Aw.setC]
    rw [List.getElem?_set_ne hne]; exact h3
theorem path_get {objs' : List AObj} {ob : AObj} (h : objs' = σ.objs ∨ ∃ cap, objs' = σ.objs ++ [.box (List.replicate cap .junk)]) (hc : σ.objs[o]? = some ob) : objs'[o]? = some ob := by
  rcases h with rfl | ⟨cap, rfl⟩
  · exact hc
  · exact snoc_left hc
theorem setC_path {objs' : List AObj} {v' : Int} (ho : o < σ.objs.length) (h : objs' = (setC σ o v).objs ∨ ∃ cap, objs' = (setC σ o v).objs ++ [.box (List.replicate cap .junk)]) :
    (setC { setC σ o v with objs := objs' } o v').cut σ.objs.length σ.toks.length = setC σ o v' := by
  rcases h with rfl | ⟨cap, rfl⟩
  · simp [setC, Store.cut, List.take_of_length_le]
  · have hl : o < (σ.objs.set o (.box [.pv (.int .i64 v)])).length := by simpa using ho
    simp only [setC, Store.cut]
    rw [List.set_append_left _ _ hl]
    simp [List.take_append, List.take_of_length_le]
end
def stParts (c : Int) (_ : Nat) : Int := IntKind.i64.wrap (c + 1)
def stDeep (c : Int) (n : Nat) : Int := if IntKind.i64.wrap (n + 1) > c then IntKind.i64.wrap (n + 1) else c

mutual
def D.deep : D → Nat
  | .mk _ _ _ l => 1 + D.deeps l
def D.deeps : List D → Nat
  | [] => 0
  | d :: l => max d.deep (D.deeps l)
end
mutual
theorem D.deep_le_size : ∀ d : D, d.deep ≤ d.size
  | .mk _ _ _ l => by simp only [D.deep, D.size]; have := D.deeps_le_sizes l; omega
theorem D.deeps_le_sizes : ∀ l : List D, D.deeps l ≤ D.sizes l
  | [] => Nat.le_refl _
  | d :: l => by
    simp only [D.deeps, D.sizes]
    have h1 := D.deep_le_size d
    have h2 := D.deeps_le_sizes l
    omega
end
mutual
theorem eachF_parts : ∀ (d : D) (c n : Nat), c + d.size ≤ 2000000000 → eachF stParts c n d = ((c + d.size : Nat) : Int)
  | .mk _ _ _ l, c, n, h => by
    simp only [D.size] at h
    simp only [eachF, stParts, D.size]
    rw [wrap_nat (by omega), eachFs_parts l (c + 1) (n + 1) (by omega)]
    congr 1; omega
theorem eachFs_parts : ∀ (l : List D) (c n : Nat), c + D.sizes l ≤ 2000000000 → eachFs stParts c n l = ((c + D.sizes l : Nat) : Int)
  | [], c, n, h => by simp [eachFs, D.sizes]
  | d :: l, c, n, h => by
    simp only [D.sizes] at h
    simp only [eachFs, D.sizes]
    rw [eachF_parts d c n (by omega), eachFs_parts l (c + d.size) n (by omega)]
    congr 1; omega
end
mutual
theorem eachF_deep : ∀ (d : D) (m n : Nat), n + d.deep ≤ 2000000000 → eachF stDeep m n d = ((max m (n + d.deep) : Nat) : Int)
  | .mk _ _ _ l, m, n, h => by
    simp only [D.deep] at h
    simp only [eachF, stDeep, D.deep]
    rw [wrap_nat (by omega)]
    have e : (if ((n + 1 : Nat) : Int) > (m : Int) then ((n + 1 : Nat) : Int) else (m : Int)) = ((max m (n + 1) : Nat) : Int) := by
      split <;> omega
    rw [e, eachFs_deep l (max m (n + 1)) (n + 1) (by omega)]
    by_cases hl : l = []
    · subst hl; simp only [if_true, D.deeps, Nat.add_zero]
    · rw [if_neg hl]; omega
theorem eachFs_deep : ∀ (l : List D) (m n : Nat), n + D.deeps l ≤ 2000000000 → eachFs stDeep m n l = ((if l = [] then m else max m (n + D.deeps l) : Nat) : Int)
  | [], m, n, h => by simp [eachFs]
  | d :: l, m, n, h => by
    simp only [D.deeps] at h
    simp only [eachFs, D.deeps]
    rw [eachF_deep d m n (by omega), eachFs_deep l (max m (n + d.deep)) n (by omega)]
    congr 1
    simp only [reduceCtorEq, if_false]
    split
    · subst_vars; simp only [D.deeps]; omega
    · omega
end
theorem setC_new_cut {σ : Store} {v c : Int} : (setC { σ with objs := σ.objs ++ [.box [.pv (.int .i64 c)]] } σ.objs.length v).cut σ.objs.length σ.toks.length = σ := by
  simp [setC, Store.cut]
theorem setC_new_get {σ : Store} {v c : Int} : (setC { σ with objs := σ.objs ++ [.box [.pv (.int .i64 c)]] } σ.objs.length v).objs[σ.objs.length]? = some (.box [.pv (.int .i64 v)]) := setC_get (c := c) (by simp)
/-- What is wrong with a datum. -/
def dcheck (d : D) : Int := if (!formed d) = true then 4 else if decide ((100000 : Int) < d.size) = true then 3 else if decide ((1000 : Int) < d.deep) = true then 3 else 0
end Go.Aw

/- Programs of the package flat: what the checker says, what is called and reached, told of data as trees. No program is named. -/
namespace Go.Aw
open Go
/-! ### maps by labels -/
def kq (a b : D) : Bool := a.num == b.num && decide (a.text = b.text)
def kget {α : Type} (ps : List (D × α)) (d : D) : Option α := (ps.find? fun p => kq d p.1).map (·.2)
def kset {α : Type} : List (D × α) → D → α → List (D × α)
  | [], d, v => [(d, v)]
  | p :: r, d, v => if kq d p.1 then (p.1, v) :: r else p :: kset r d v
def mapK {α : Type} (ps : List (D × α)) : List PV := ps.map fun p => keyPV p.1
def mapV {α : Type} (f : α → PV) (ps : List (D × α)) : List PV := ps.map fun p => f p.2

section look
variable {α : Type} {ty : TyT} {s : St} {t kt et : TypeId} {ti te tk : TyI} {o : Nat} {ps : List (D × α)} {f : α → PV}
end look
/-! ### the checker -/
def kpar (ps : List (D × Int)) (d : D) : Int × Bool := match kget ps d with | some v => (v, true) | none => (0, false)

mutual
def cexpr (ps : List (D × Int)) : List ByteArray → D → Int
  | b, .mk k n t l =>
    if (k == 1) = true then 0 else
    if (k == 2 && !isName (.mk k n t l)) = true then 4 else
    if (k == 2 && !(b.any fun y => decide (t = y))) = true then 12 else
    if (k == 2) = true then 0 else
    if ((l.length : Int) == 0 || (l.headD dnone).kind != 2) = true then 4 else
    if decide ((l.headD dnone).text = sQuote) = true then (if ((l.length : Int) != 2) = true then 4 else 0) else
    if decide ((l.headD dnone).text = sIf) = true then (if ((l.length : Int) != 4) = true then 4 else call ps b 1 l) else
    if decide ((l.headD dnone).text = sLet) = true then (if ((l.length : Int) != 4 || !isName (l.getD 1 dnone)) = true then 4 else if (cnth ps b 2 l != 0) = true then cnth ps b 2 l else cnth ps (b ++ [(l.getD 1 dnone).text]) 3 l) else
    if decide ((l.headD dnone).text = sCall) = true then
      (if (decide ((l.length : Int) < 2) || !isLabel (l.getD 1 dnone)) = true then 4 else if (!(kpar ps (l.getD 1 dnone)).2) = true then 5 else if ((kpar ps (l.getD 1 dnone)).1 != (l.length : Int) - 2) = true then 11 else call ps b 2 l) else
    if (!(arity (l.headD dnone).text).2) = true then 4 else if ((arity (l.headD dnone).text).1 != (l.length : Int) - 1) = true then 11 else call ps b 1 l
def call (ps : List (D × Int)) : List ByteArray → Nat → List D → Int
  | _, _, [] => 0
  | b, 0, x :: l => if (cexpr ps b x != 0) = true then cexpr ps b x else call ps b 0 l
  | b, i + 1, _ :: l => call ps b i l
def cnth (ps : List (D × Int)) : List ByteArray → Nat → List D → Int
  | _, _, [] => 0
  | b, 0, x :: _ => cexpr ps b x
  | b, i + 1, _ :: l => cnth ps b i l
end
def cll (ps : List (D × Int)) (b : List ByteArray) (l : List D) : Int := call ps b 0 l
theorem call_drop (ps : List (D × Int)) (b : List ByteArray) : ∀ (i : Nat) (l : List D), call ps b i l = cll ps b (l.drop i)
  | 0, l => rfl
  | i + 1, [] => by simp [call, cll]
  | i + 1, x :: l => by rw [call, call_drop ps b i l]; rfl
theorem cnth_get (ps : List (D × Int)) (b : List ByteArray) : ∀ (i : Nat) (l : List D) (x : D), l[i]? = some x → cnth ps b i l = cexpr ps b x
  | i, [], x, h => by simp at h
  | 0, y :: l, x, h => by simp at h; subst h; rfl
  | i + 1, y :: l, x, h => by rw [cnth, cnth_get ps b i l x (by simpa using h)]
/-- What a call says. -/
def ccall (ps : List (D × Int)) (b : List ByteArray) (l : List D) : Int :=
  if (decide ((l.length : Int) < 2) || !isLabel (l.getD 1 dnone)) = true then 4 else if (!(kpar ps (l.getD 1 dnone)).2) = true then 5 else if ((kpar ps (l.getD 1 dnone)).1 != (l.length : Int) - 2) = true then 11 else cll ps b (l.drop 2)
theorem cexpr_eq (ps : List (D × Int)) (b : List ByteArray) (d : D) : cexpr ps b d =
    if (d.kind == 1) = true then 0 else
    if (d.kind == 2 && !isName d) = true then 4 else
    if (d.kind == 2 && !(b.any fun y => decide (d.text = y))) = true then 12 else
    if (d.kind == 2) = true then 0 else
    if ((d.kids.length : Int) == 0 || d.head.kind != 2) = true then 4 else
    if decide (d.head.text = sQuote) = true then (if ((d.kids.length : Int) != 2) = true then 4 else 0) else
    if decide (d.head.text = sIf) = true then (if ((d.kids.length : Int) != 4) = true then 4 else cll ps b (d.kids.drop 1)) else
    if decide (d.head.text = sLet) = true then (if ((d.kids.length : Int) != 4 || !isName (d.kids.getD 1 dnone)) = true then 4 else if (cnth ps b 2 d.kids != 0) = true then cnth ps b 2 d.kids else cnth ps (b ++ [(d.kids.getD 1 dnone).text]) 3 d.kids) else
    if decide (d.head.text = sCall) = true then ccall ps b d.kids else
    if (!(arity d.head.text).2) = true then 4 else if ((arity d.head.text).1 != (d.kids.length : Int) - 1) = true then 11 else cll ps b (d.kids.drop 1) := by
  cases d
  rw [cexpr, call_drop, call_drop]
  rfl
theorem cll_cons (ps : List (D × Int)) (b : List ByteArray) (x : D) (l : List D) : cll ps b (x :: l) = if (cexpr ps b x != 0) = true then cexpr ps b x else cll ps b l := rfl

theorem getD_of {l : List D} {i : Nat} {x : D} (h : l[i]? = some x) : l.getD i dnone = x := by simp [List.getD, h]

/-! ### heads -/
def d0 (l : List D) : D := l.getD 0 dnone
def d1 (l : List D) : D := l.getD 1 dnone
/-- A definition without its body: what is wrong with it, and what is known then. -/
def chead (ps : List (D × Int)) (d : D) : Int × List (D × Int) :=
  match kidsOf d 3 false with
  | none => (4, ps)
  | some l =>
    if (!isLabel (d0 l)) = true then (4, ps) else
    if (kpar ps (d0 l)).2 = true then (4, ps) else
    match names (d1 l) with
    | none => (4, ps)
    | some ns => if decide ((8 : Int) < ns.length) = true then (3, ps) else (0, kset ps (d0 l) ns.length)
end Go.Aw

/- Programs of the package flat, three: the whole check, what is reached, canonical forms, told of data as trees. No program is named. -/
namespace Go.Aw
open Go
theorem kidsOf_three {d : D} {l : List D} (h : kidsOf d 3 false = some l) : ∃ x0 x1 x2, l = [x0, x1, x2] ∧ d.kids = [x0, x1, x2] ∧ d.kind = 3 := by
  unfold kidsOf at h
  split at h
  · cases h
  · rename_i hc
    cases h
    simp at hc
    obtain ⟨⟨h1, h2⟩, h3⟩ := hc
    have hl : d.kids.length = 3 := by omega
    match hk : d.kids, hl with
    | [x0, x1, x2], _ => exact ⟨x0, x1, x2, rfl, rfl, h1⟩

def headsGo : List (D × Int) → List D → Int × List (D × Int)
  | ps, [] => (0, ps)
  | ps, d :: l => if ((chead ps d).1 != 0) = true then chead ps d else headsGo (chead ps d).2 l
/-- The definitions without their bodies: what is wrong with them, and what is known then. -/
def heads (p : D) : Int × List (D × Int) :=
  if (dcheck p != 0) = true then (dcheck p, []) else if (p.kind != 3 || (p.kids.length : Int) == 0) = true then (4, []) else if decide ((4000 : Int) < p.kids.length) = true then (3, []) else headsGo [] p.kids

def d2 (l : List D) : D := l.getD 2 dnone
def nlist (o : Option (List ByteArray)) : List ByteArray := o.getD []
def bodies (ps : List (D × Int)) : List D → Int
  | [] => 0
  | d :: l => if (cexpr ps (nlist (names (d1 d.kids))) (d2 d.kids) != 0) = true then cexpr ps (nlist (names (d1 d.kids))) (d2 d.kids) else bodies ps l
/-- What is wrong with a program. -/
def fcheck (p : D) : Int := if ((heads p).1 != 0) = true then (heads p).1 else bodies (heads p).2 p.kids

def hps (l : List D) (k : Nat) : List (D × Int) := (l.take k).foldl (fun ps d => (chead ps d).2) []
theorem chead_none {ps : List (D × Int)} {d : D} (hl : kidsOf d 3 false = none) : chead ps d = (4, ps) := by unfold chead; rw [hl]
theorem chead_some {ps : List (D × Int)} {d x0 x1 x2 : D} (hl : kidsOf d 3 false = some [x0, x1, x2]) : chead ps d = if (!isLabel x0) = true then ((4 : Int), ps) else if (kpar ps x0).2 = true then (4, ps) else
    match names x1 with
    | none => (4, ps)
    | some ns => if decide ((8 : Int) < ns.length) = true then (3, ps) else (0, kset ps x0 ns.length) := by unfold chead; rw [hl]; rfl
theorem chead_ok {ps : List (D × Int)} {d : D} (h : (chead ps d).1 = 0) : ∃ x0 x1 x2 ns, d.kids = [x0, x1, x2] ∧ d.kind = 3 ∧ isLabel x0 = true ∧ (kpar ps x0).2 = false ∧ names x1 = some ns ∧ ns.length ≤ 8 ∧ (chead ps d).2 = kset ps x0 ns.length := by
  cases hl : kidsOf d 3 false with
  | none => rw [chead_none hl] at h; simp at h
  | some l =>
    obtain ⟨x0, x1, x2, rfl, hk, hk3⟩ := kidsOf_three hl
    rw [chead_some hl] at h ⊢
    by_cases h1 : (!isLabel x0) = true
    · rw [if_pos h1] at h; simp at h
    · rw [if_neg h1] at h ⊢
      by_cases h2 : (kpar ps x0).2 = true
      · rw [if_pos h2] at h; simp at h
      · rw [if_neg h2] at h ⊢
        cases hns : names x1 with
        | none => rw [hns] at h; simp at h
        | some ns =>
          rw [hns] at h
          simp only at h ⊢
          by_cases h3 : decide ((8 : Int) < ns.length) = true
          · rw [if_pos h3] at h; simp at h
          · exact ⟨x0, x1, x2, ns, hk, hk3, by simpa using h1, by simpa using h2, hns, by have := h3; simp at this; omega, by rw [if_neg h3]⟩
theorem headsGo_ok : ∀ {l : List D} {ps : List (D × Int)}, (headsGo ps l).1 = 0 → ∀ d, d ∈ l → ∃ x0 x1 x2 ns, d.kids = [x0, x1, x2] ∧ d.kind = 3 ∧ isLabel x0 = true ∧ names x1 = some ns ∧ ns.length ≤ 8
  | [], _, _, d, hd => by simp at hd
  | y :: l, ps, h, d, hd => by
    rw [headsGo] at h
    by_cases hc : ((chead ps y).1 != 0) = true
    · rw [if_pos hc] at h; rw [h] at hc; simp at hc
    · rw [if_neg hc] at h
      have h0 : (chead ps y).1 = 0 := by simpa using hc
      rcases List.mem_cons.1 hd with rfl | hd
      · obtain ⟨x0, x1, x2, ns, k1, k2, k3, _, k4, k5, _⟩ := chead_ok h0
        exact ⟨x0, x1, x2, ns, k1, k2, k3, k4, k5⟩
      · exact headsGo_ok h d hd
theorem heads_ok {p : D} (h : (heads p).1 = 0) : dcheck p = 0 ∧ p.kind = 3 ∧ p.kids ≠ [] ∧ p.kids.length ≤ 4000 ∧ heads p = headsGo [] p.kids := by
  unfold heads at h ⊢
  split at h
  · rename_i hc; simp only at h; rw [h] at hc; simp at hc
  · rename_i h1
    split at h
    · simp at h
    · rename_i h2
      split at h
      · simp at h
      · rename_i h3
        simp at h1 h2 h3
        refine ⟨h1, h2.1, by intro e; rw [e] at h2; simp at h2, by omega, ?_⟩
        rw [if_neg (by simp [h1]), if_neg (by simp [h2]), if_neg (by simp; omega)]
theorem fcheck_heads {p : D} (h : fcheck p = 0) : (heads p).1 = 0 ∧ bodies (heads p).2 p.kids = 0 := by
  unfold fcheck at h
  split at h
  · rename_i hc; rw [h] at hc; simp at hc
  · rename_i hc; exact ⟨by simpa using hc, h⟩
/-- A definition of a right program. -/
theorem def_ok {p d : D} (h : (heads p).1 = 0) (hd : d ∈ p.kids) : ∃ x0 x1 x2 ns, d.kids = [x0, x1, x2] ∧ d.kind = 3 ∧ isLabel x0 = true ∧ names x1 = some ns ∧ ns.length ≤ 8 := by
  have := (heads_ok h).2.2.2.2
  rw [this] at h
  exact headsGo_ok h d hd

/-! ### what is called -/
def seenB (m : List (D × Bool)) (d : D) : Bool := (kget m d).getD false
abbrev CS := List D × List (D × Bool)
def callStep (d : D) (st : CS) : CS := if (isCall d && !seenB st.2 (d1 d.kids)) = true then (st.1 ++ [d1 d.kids], kset st.2 (d1 d.kids) true) else st
def pdrop (d : D) : Nat := if (d.kind != 3) = true then d.kids.length else if decide (d.head.text = sQuote) = true then d.kids.length else if decide (d.head.text = sLet) = true then 2 else if decide (d.head.text = sCall) = true then 2 else 1
theorem parts_drop (d : D) : parts d = d.kids.drop (pdrop d) := by
  unfold parts pdrop
  split
  · simp
  · split
    · simp
    · split
      · rfl
      · split <;> rfl
mutual
def callsD : D → CS → CS
  | .mk k n t l, st => callsL (pdrop (.mk k n t l)) l (callStep (.mk k n t l) st)
def callsL : Nat → List D → CS → CS
  | _, [], st => st
  | 0, x :: l, st => callsL 0 l (callsD x st)
  | i + 1, _ :: l, st => callsL i l st
end
theorem callsL_drop : ∀ (i : Nat) (l : List D) (st : CS), callsL i l st = callsL 0 (l.drop i) st
  | 0, l, st => rfl
  | i + 1, [], st => by simp [callsL]
  | i + 1, x :: l, st => by rw [callsL, callsL_drop i l]; rfl
theorem callsL_foldl : ∀ (l : List D) (st : CS), callsL 0 l st = l.foldl (fun st x => callsD x st) st
  | [], st => rfl
  | x :: l, st => by rw [callsL, callsL_foldl l]; rfl
theorem callsD_eq (d : D) (st : CS) : callsD d st = (parts d).foldl (fun st x => callsD x st) (callStep d st) := by
  rw [parts_drop, ← callsL_foldl]
  cases d
  rw [callsD, callsL_drop]
  rfl
/-- The labels that an expression calls. -/
def callsOf (d : D) : List D := (callsD d ([], [])).1

/-! ### the definitions by their labels, and what is reached -/
def defsL (l : List D) : List (D × D) := l.foldl (fun m d => kset m d.head d) []
def defOf (m : List (D × D)) (f : D) : D := (kget m f).getD dnone
def reachStep (m : List (D × D)) (st : CS) (f : D) : CS := if (!seenB st.2 f) = true then (st.1 ++ [defOf m f], kset st.2 f true) else st
def reachRound (m : List (D × D)) (st : CS) (d : D) : CS := (callsOf (d2 d.kids)).foldl (reachStep m) st
def rstK (m : List (D × D)) (st : CS) : Nat → CS
  | 0 => st
  | i + 1 => match (rstK m st i).1[i]? with
    | none => rstK m st i
    | some d => reachRound m (rstK m st i) d
def rst (p : D) (k : Nat) : CS := rstK (defsL p.kids) ([p.head], [(p.head.head, true)]) k
def reach (p : D) : List D := (rst p p.kids.length).1

/-! ### canonical forms -/
mutual
def rexpr (lab nm : D → D) (bare : Bool) : D → D
  | .mk k n t l => if (k == 1) = true then .mk k n t l else if (k == 2) = true then nm (.mk k n t l) else
    if decide ((l.headD dnone).text = sQuote) = true then .mk k n t l else
    if decide ((l.headD dnone).text = sLet) = true then dlist ([l.headD dnone, nm (d1 l)] ++ rkids lab nm bare (pdrop (.mk k n t l)) l) else
    if decide ((l.headD dnone).text = sCall) = true then dlist ((if bare = true then [lab (d1 l)] else [l.headD dnone, lab (d1 l)]) ++ rkids lab nm bare (pdrop (.mk k n t l)) l) else
    dlist ([l.headD dnone] ++ rkids lab nm bare (pdrop (.mk k n t l)) l)
def rkids (lab nm : D → D) (bare : Bool) : Nat → List D → List D
  | _, [] => []
  | 0, x :: l => rexpr lab nm bare x :: rkids lab nm bare 0 l
  | i + 1, _ :: l => rkids lab nm bare i l
end
theorem rkids_drop (lab nm : D → D) (bare : Bool) : ∀ (i : Nat) (l : List D), rkids lab nm bare i l = (l.drop i).map (rexpr lab nm bare)
  | 0, [] => rfl
  | i + 1, [] => rfl
  | 0, x :: l => by rw [rkids, rkids_drop lab nm bare 0 l]; rfl
  | i + 1, x :: l => by rw [rkids, rkids_drop lab nm bare i l]; rfl
theorem rexpr_eq (lab nm : D → D) (bare : Bool) (d : D) : rexpr lab nm bare d = if (d.kind == 1) = true then d else if (d.kind == 2) = true then nm d else
    if decide (d.head.text = sQuote) = true then d else
    if decide (d.head.text = sLet) = true then dlist ([d.head, nm (d1 d.kids)] ++ (parts d).map (rexpr lab nm bare)) else
    if decide (d.head.text = sCall) = true then dlist ((if bare = true then [lab (d1 d.kids)] else [d.head, lab (d1 d.kids)]) ++ (parts d).map (rexpr lab nm bare)) else
    dlist ([d.head] ++ (parts d).map (rexpr lab nm bare)) := by
  rw [parts_drop, ← rkids_drop]
  cases d
  rw [rexpr]
  rfl
def rdef (lab nm : D → D) (bare : Bool) (d : D) : D := dlist [lab d.head, dlist ((d1 d.kids).kids.map nm), rexpr lab nm bare (d2 d.kids)]
/-- Where each label stands. -/
def atL (l : List D) : List (D × Int) := (l.zipIdx).foldl (fun m x => kset m x.1.head (x.2 : Int)) []
mutual
def fsize : D → Nat
  | .mk k n t l => 1 + fsizes (pdrop (.mk k n t l)) l
def fsizes : Nat → List D → Nat
  | _, [] => 0
  | 0, x :: l => fsize x + fsizes 0 l
  | i + 1, _ :: l => fsizes i l
end
def joinStep (p : D) (st : List D × Bool) (d : D) : List D × Bool :=
  if (!(findD p.kids d.head).2) = true then (st.1 ++ [d], st.2) else if (((d1 (findD p.kids d.head).1.kids).kids.length : Int) != (d1 d.kids).kids.length) = true then (st.1, true) else st
def joinL (p q : D) : List D × Bool := q.kids.foldl (joinStep p) (p.kids, false)
def joinD (p q : D) : D := .mk p.kind p.num p.text (joinL p q).1
end Go.Aw

/- Programs of the package flat, four: expressions that are right, stores with a map and a list that grow. No program is named. -/
namespace Go.Aw
open Go
/-! ### expressions that may be gone through -/
mutual
def okE : D → Bool
  | .mk k n t l => k == 1 || k == 2 || (k == 3 && !l.isEmpty && (decide (2 ≤ l.length) || !(decide ((l.headD dnone).text = sLet) || decide ((l.headD dnone).text = sCall))) && okEs (pdrop (.mk k n t l)) l)
def okEs : Nat → List D → Bool
  | _, [] => true
  | 0, x :: l => okE x && okEs 0 l
  | i + 1, _ :: l => okEs i l
end
theorem okEs_drop : ∀ (i : Nat) (l : List D), okEs i l = (l.drop i).all okE
  | 0, [] => rfl
  | i + 1, [] => rfl
  | 0, x :: l => by rw [okEs, okEs_drop 0 l]; rfl
  | i + 1, x :: l => by rw [okEs, okEs_drop i l]; rfl
theorem okE_list {d : D} (h : okE d = true) (hk : d.kind = 3) : d.kids ≠ [] ∧ (d.head.text = sLet ∨ d.head.text = sCall → 2 ≤ d.kids.length) ∧ ∀ x, x ∈ parts d → okE x = true := by
  rw [parts_drop]
  cases d with
  | mk k n t l =>
    simp only [D.kind] at hk
    subst hk
    simp only [okE, okEs_drop, Bool.or_eq_true, Bool.and_eq_true, Bool.not_eq_true', List.all_eq_true, decide_eq_true_eq] at h
    rcases h with (h | h) | ⟨⟨⟨_, h1⟩, h2⟩, h3⟩
    · exact absurd h (by decide)
    · exact absurd h (by decide)
    · refine ⟨by intro e; simp only [D.kids] at e; subst e; simp at h1, fun h => ?_, fun x hx => h3 x hx⟩
      rcases h2 with h2 | h2
      · exact h2
      · simp only [D.head, D.kids] at h
        simp only [Bool.or_eq_false_iff, decide_eq_false_iff_not] at h2
        rcases h with h | h
        · exact absurd h h2.1
        · exact absurd h h2.2
theorem parts_nil {d : D} (hk : d.kind ≠ 3) : parts d = [] := by unfold parts; rw [if_pos (by simpa using hk)]
theorem okE_parts {d : D} (h : okE d = true) : ∀ x, x ∈ parts d → okE x = true := by
  by_cases hk : d.kind = 3
  · exact (okE_list h hk).2.2
  · rw [parts_nil hk]; intro x hx; simp at hx
theorem okE_kind {d : D} (h : okE d = true) : d.kind = 1 ∨ d.kind = 2 ∨ d.kind = 3 := by
  cases d
  simp only [okE, Bool.or_eq_true, Bool.and_eq_true, beq_iff_eq] at h
  rcases h with (h | h) | ⟨⟨⟨h, _⟩, _⟩, _⟩
  · exact .inl h
  · exact .inr (.inl h)
  · exact .inr (.inr h)
theorem okE_two {d : D} (h : okE d = true) : d.kind = 3 → d.head.text = sLet ∨ d.head.text = sCall → 2 ≤ d.kids.length := fun hk => (okE_list h hk).2.1
theorem isCall_iff {d : D} : isCall d = true ↔ d.kind = 3 ∧ d.head.text = sCall := by simp [isCall]
theorem parts_mem {d x : D} (h : x ∈ parts d) : x ∈ d.kids := by rw [parts_drop] at h; exact List.mem_of_mem_drop h

def pbool (b : Bool) : PV := .bool b
theorem sizes_append : ∀ (l r : List D), D.sizes (l ++ r) = D.sizes l + D.sizes r
  | [], r => by simp [D.sizes]
  | x :: l, r => by simp only [List.cons_append, D.sizes, sizes_append l r]; omega
@[go_sem high] theorem seq_enc (x : D) : seqPV 4 0 [(0, AV.pv (enc x))] = some [enc x] := by simp [seqPV, toPV, atomToPV, nrm_enc, enc_cells]

@[go_sem] theorem snoc1_get {α : Type} {l : List α} {a : α} : (l ++ [a])[l.length]? = some a := by simp
@[go_sem] theorem snoc2_get0 {α : Type} {l : List α} {a b : α} : (l ++ [a, b])[l.length]? = some a := by simp
@[go_sem] theorem snoc2_get {α : Type} {l : List α} {a b : α} : (l ++ [a, b])[l.length + 1]? = some b := by simp
@[go_sem] theorem snoc3_get {α : Type} {l : List α} {a b c : α} : (l ++ [a, b, c])[l.length + 2]? = some c := by simp

/-! ### a map and a list that grow -/
structure CMAt (σ : Store) (om kt : Nat) (e : TypeId) (st : CS) : Prop where
  ob : σ.objs[om]? = some (.map (mapK st.2) (mapV pbool st.2))
  tk : σ.toks[kt]? = some ⟨st.1.length, e, 4⟩
section
variable {σ : Store} {om kt : Nat} {e : TypeId} {st st' : CS}
theorem tok_self {k n : Nat} {t : Tok} (h : σ.toks[k]? = some t) (hn : t.n = n) : σ.tok k n = σ := by
  unfold Store.tok
  have : (σ.toks.modify k fun t => { t with n := n }) = σ.toks := by
    apply List.ext_getElem?
    intro j
    rw [getElem?_modify']
    split
    · subst_vars; rw [h]; rfl
    · rfl
  rw [this]
end
theorem head_cons {d x : D} {r : List D} (h : d.kids = x :: r) : d.head = x := by unfold D.head; rw [h]; rfl
end Go.Aw

/- Programs of the package flat, five: what a right program's parts are, and how far it reaches. No program is named. -/
namespace Go.Aw
open Go
/-! ### keys -/
theorem kq_iff {a b : D} : kq a b = true ↔ a.num = b.num ∧ a.text = b.text := by simp [kq]
theorem kq_refl (a : D) : kq a a = true := kq_iff.2 ⟨rfl, rfl⟩
theorem kq_symm {a b : D} (h : kq a b = true) : kq b a = true := kq_iff.2 ⟨(kq_iff.1 h).1.symm, (kq_iff.1 h).2.symm⟩
theorem kq_trans {a b c : D} (h : kq a b = true) (k : kq b c = true) : kq a c = true := kq_iff.2 ⟨(kq_iff.1 h).1.trans (kq_iff.1 k).1, (kq_iff.1 h).2.trans (kq_iff.1 k).2⟩
theorem kq_comm (a b : D) : kq a b = kq b a := by
  cases h : kq a b
  · cases h' : kq b a
    · rfl
    · rw [kq_symm h'] at h; cases h
  · exact (kq_symm h).symm
theorem kq_congr {a b : D} (h : kq a b = true) (c : D) : kq a c = kq b c := by
  cases h' : kq b c
  · cases h2 : kq a c
    · rfl
    · rw [kq_trans (kq_symm h) h2] at h'; cases h'
  · exact kq_trans h h'
section
variable {α : Type}
theorem kget_kset (m : List (D × α)) (d e : D) (v : α) : kget (kset m d v) e = if kq e d then some v else kget m e := by
  induction m with
  | nil => simp only [kset, kget, List.find?_cons, List.find?_nil]; cases kq e d <;> rfl
  | cons p r ih =>
    simp only [kset]
    by_cases h : kq d p.1 = true
    · rw [if_pos h]
      simp only [kget, List.find?_cons]
      rw [show kq e p.1 = kq e d by rw [kq_comm e p.1, kq_comm e d]; exact (kq_congr h e).symm]
      cases kq e d <;> rfl
    · rw [if_neg h]
      simp only [kget, List.find?_cons] at ih ⊢
      by_cases h2 : kq e p.1 = true
      · have h3 : kq e d = false := by
          cases h3 : kq e d
          · rfl
          · exact absurd (kq_trans (kq_symm h3) h2) h
        simp only [h2, h3]; rfl
      · simp only [h2]; exact ih
end
theorem seenB_kset (m : List (D × Bool)) (d e : D) : seenB (kset m d true) e = (kq e d || seenB m e) := by
  unfold seenB; rw [kget_kset]; cases kq e d <;> rfl
theorem kpar_kset (m : List (D × Int)) (d e : D) (v : Int) : kpar (kset m d v) e = if kq e d then (v, true) else kpar m e := by
  unfold kpar; rw [kget_kset]; cases kq e d <;> rfl
/-- Definitions with labels that are all different. -/
def Apart (l : List D) : Prop := l.Pairwise fun a b => kq a.head b.head = false

theorem headsGo_apart : ∀ {l : List D} {ps : List (D × Int)}, (headsGo ps l).1 = 0 → Apart l ∧ (∀ d, d ∈ l → (kpar ps d.head).2 = false) ∧
    ∀ f, kpar (headsGo ps l).2 f = (match l.find? fun d => kq f d.head with | some d => ((nlist (names (d1 d.kids))).length, true) | none => kpar ps f)
  | [], ps, _ => ⟨.nil, fun d hd => by simp at hd, fun f => rfl⟩
  | y :: l, ps, h => by
    rw [headsGo] at h
    by_cases hc : ((chead ps y).1 != 0) = true
    · rw [if_pos hc] at h; rw [h] at hc; simp at hc
    · rw [if_neg hc] at h
      have h0 : (chead ps y).1 = 0 := by simpa using hc
      obtain ⟨x0, x1, x2, ns, k1, k2, k3, k4, k5, k6, k7⟩ := chead_ok h0
      have hy : y.head = x0 := head_cons k1
      have hy1 : d1 y.kids = x1 := by rw [k1]; rfl
      obtain ⟨i1, i2, i3⟩ := headsGo_apart h
      rw [k7] at i2 i3
      have i4 : ∀ d, d ∈ l → kq d.head x0 = false ∧ (kpar ps d.head).2 = false := by
        intro d hd
        have := i2 d hd
        rw [kpar_kset] at this
        cases hk : kq d.head x0 with
        | true => rw [hk] at this; simp at this
        | false => rw [hk] at this; exact ⟨rfl, by simpa using this⟩
      refine ⟨List.pairwise_cons.2 ⟨fun d hd => by rw [hy, kq_comm]; exact (i4 d hd).1, i1⟩, fun d hd => ?_, fun f => ?_⟩
      · rcases List.mem_cons.1 hd with rfl | hd
        · rw [hy]; exact k4
        · exact (i4 d hd).2
      · rw [headsGo, if_neg hc, k7, i3 f, List.find?_cons, hy, kpar_kset]
        cases hf : kq f x0 with
        | false => rfl
        | true =>
          have : l.find? (fun d => kq f d.head) = none := by
            rw [List.find?_eq_none]
            intro d hd he
            have := (i4 d hd).1
            rw [kq_trans (kq_symm he) hf] at this
            cases this
          rw [this]
          show ((ns.length : Int), true) = (((nlist (names (d1 y.kids))).length : Int), true)
          rw [hy1, k5]; rfl

theorem defsL_get {l : List D} (h : Apart l) (f : D) : kget (defsL l) f = l.find? fun d => kq f d.head := by
  have key : ∀ (l : List D) (m : List (D × D)), Apart l → (∀ d, d ∈ l → kget m d.head = none) → kget (l.foldl (fun m d => kset m d.head d) m) f = (match l.find? fun d => kq f d.head with | some d => some d | none => kget m f) := by
    intro l
    induction l with
    | nil => intro m _ _; rfl
    | cons y l ih =>
      intro m ha hm
      have ha := List.pairwise_cons.1 ha
      rw [List.foldl_cons, ih _ ha.2 (fun d hd => by
        rw [kget_kset, show kq d.head y.head = false by rw [kq_comm]; exact ha.1 d hd]
        exact hm d (by simp [hd])), List.find?_cons, kget_kset]
      cases hf : kq f y.head with
      | false => rfl
      | true =>
        have : l.find? (fun d => kq f d.head) = none := by
          rw [List.find?_eq_none]
          intro d hd he
          have := ha.1 d hd
          rw [kq_trans (kq_symm hf) he] at this
          cases this
        rw [this]; rfl
  rw [defsL, key l [] h (fun _ _ => rfl)]
  cases l.find? fun d => kq f d.head <;> rfl

theorem bodies_ok {ps : List (D × Int)} : ∀ {l : List D}, bodies ps l = 0 → ∀ d, d ∈ l → cexpr ps (nlist (names (d1 d.kids))) (d2 d.kids) = 0
  | [], _, d, hd => by simp at hd
  | y :: l, h, d, hd => by
    rw [bodies] at h
    by_cases hc : (cexpr ps (nlist (names (d1 y.kids))) (d2 y.kids) != 0) = true
    · rw [if_pos hc] at h; rw [h] at hc; simp at hc
    · rw [if_neg hc] at h
      rcases List.mem_cons.1 hd with rfl | hd
      · simpa using hc
      · exact bodies_ok h d hd

theorem cll_zero {ps : List (D × Int)} {b : List ByteArray} : ∀ {l : List D}, cll ps b l = 0 ↔ ∀ x, x ∈ l → cexpr ps b x = 0
  | [] => by simp [cll, call]
  | x :: l => by
    rw [cll_cons]
    by_cases hc : (cexpr ps b x != 0) = true
    · rw [if_pos hc]
      simp at hc
      constructor
      · intro h; exact absurd h hc
      · intro h; exact absurd (h x (by simp)) hc
    · rw [if_neg hc, cll_zero]
      simp at hc
      simp [hc]

/-- An expression that has been checked, of right data. -/
theorem cexpr_list {ps : List (D × Int)} {b : List ByteArray} {d : D} (h : cexpr ps b d = 0) (hk : d.kind = 3) :
    d.kids ≠ [] ∧ d.head.kind = 2 ∧ ((d.head.text = sQuote ∧ d.kids.length = 2) ∨ (d.head.text = sIf ∧ d.kids.length = 4 ∧ cll ps b (d.kids.drop 1) = 0) ∨
      (d.head.text = sLet ∧ d.kids.length = 4 ∧ isName (d1 d.kids) = true ∧ cexpr ps b (d2 d.kids) = 0 ∧ cexpr ps (b ++ [(d1 d.kids).text]) (d.kids.getD 3 dnone) = 0) ∨
      (d.head.text = sCall ∧ ccall ps b d.kids = 0) ∨
      (d.head.text ≠ sQuote ∧ d.head.text ≠ sIf ∧ d.head.text ≠ sLet ∧ d.head.text ≠ sCall ∧ (arity d.head.text).2 = true ∧ (arity d.head.text).1 = (d.kids.length : Int) - 1 ∧ cll ps b (d.kids.drop 1) = 0)) := by
  rw [cexpr_eq] at h
  have e1 : (d.kind == 1) = false := by rw [hk]; rfl
  have e2 : (d.kind == 2) = false := by rw [hk]; rfl
  simp only [e1, e2, Bool.false_and, Bool.false_eq_true, if_false] at h
  by_cases h1 : ((d.kids.length : Int) == 0 || d.head.kind != 2) = true
  · rw [if_pos h1] at h; cases h
  rw [if_neg h1] at h
  simp only [Bool.or_eq_true, beq_iff_eq, bne_iff_ne, not_or, Decidable.not_not] at h1
  refine ⟨by intro e; rw [e] at h1; simp at h1, h1.2, ?_⟩
  by_cases h2 : d.head.text = sQuote
  · rw [if_pos (by simpa using h2)] at h
    split at h
    · cases h
    · rename_i h3; exact .inl ⟨h2, by simp at h3; omega⟩
  rw [if_neg (by simpa using h2)] at h
  by_cases h3 : d.head.text = sIf
  · rw [if_pos (by simpa using h3)] at h
    split at h
    · cases h
    · rename_i h4; exact .inr (.inl ⟨h3, by simp at h4; omega, h⟩)
  rw [if_neg (by simpa using h3)] at h
  by_cases h4 : d.head.text = sLet
  · rw [if_pos (by simpa using h4)] at h
    split at h
    · cases h
    · rename_i h5
      simp only [Bool.or_eq_true, bne_iff_ne, Bool.not_eq_true', not_or, Decidable.not_not, Bool.not_eq_false] at h5
      have h5l : d.kids.length = 4 := by omega
      have g2 : cnth ps b 2 d.kids = cexpr ps b (d2 d.kids) := cnth_get ps b 2 d.kids _ (by simp [d2, List.getD, h5l])
      have g3 : cnth ps (b ++ [(d.kids.getD 1 dnone).text]) 3 d.kids = cexpr ps (b ++ [(d.kids.getD 1 dnone).text]) (d.kids.getD 3 dnone) := cnth_get ps _ 3 d.kids _ (by simp [List.getD, h5l])
      rw [g2, g3] at h
      split at h
      · rename_i h6; rw [h] at h6; simp at h6
      · rename_i h6
        exact .inr (.inr (.inl ⟨h4, h5l, h5.2, by simpa using h6, h⟩))
  rw [if_neg (by simpa using h4)] at h
  by_cases h5 : d.head.text = sCall
  · rw [if_pos (by simpa using h5)] at h
    exact .inr (.inr (.inr (.inl ⟨h5, h⟩)))
  rw [if_neg (by simpa using h5)] at h
  split at h
  · cases h
  · rename_i h6
    split at h
    · cases h
    · rename_i h7
      exact .inr (.inr (.inr (.inr ⟨h2, h3, h4, h5, by simpa using h6, by simpa using h7, h⟩)))

theorem ccall_zero {ps : List (D × Int)} {b : List ByteArray} {l : List D} (h : ccall ps b l = 0) : 2 ≤ l.length ∧ isLabel (d1 l) = true ∧ (kpar ps (d1 l)).2 = true ∧ (kpar ps (d1 l)).1 = (l.length : Int) - 2 ∧ cll ps b (l.drop 2) = 0 := by
  unfold ccall at h
  by_cases h1 : (decide ((l.length : Int) < 2) || !isLabel (l.getD 1 dnone)) = true
  · rw [if_pos h1] at h; cases h
  rw [if_neg h1] at h
  split at h
  · cases h
  · rename_i h2
    split at h
    · cases h
    · rename_i h3
      simp only [Bool.or_eq_true, decide_eq_true_eq, Bool.not_eq_true', not_or, Bool.not_eq_false] at h1
      exact ⟨by omega, h1.2, by simp only [Bool.not_eq_true', Bool.not_eq_false] at h2; exact h2, by simp only [bne_iff_ne, Decidable.not_not] at h3; exact h3, h⟩

theorem sQ_ne_L : sQuote ≠ sLet := by decide
theorem sQ_ne_C : sQuote ≠ sCall := by decide
theorem sI_ne_Q : sIf ≠ sQuote := by decide
theorem sI_ne_L : sIf ≠ sLet := by decide
theorem sI_ne_C : sIf ≠ sCall := by decide
theorem sL_ne_Q : sLet ≠ sQuote := by decide
theorem sL_ne_C : sLet ≠ sCall := by decide
theorem sC_ne_Q : sCall ≠ sQuote := by decide
theorem sC_ne_L : sCall ≠ sLet := by decide

/-- All parts of a checked expression are checked, with some names. -/
theorem cexpr_parts {ps : List (D × Int)} {b : List ByteArray} {d : D} (h : cexpr ps b d = 0) (hk : d.kind = 3) : ∀ x, x ∈ parts d → ∃ b', cexpr ps b' x = 0 := by
  obtain ⟨hne, _, hc⟩ := cexpr_list h hk
  have e3 : (d.kind != 3) = false := by rw [hk]; rfl
  intro x hx
  unfold parts at hx
  rw [if_neg (by simp [e3])] at hx
  rcases hc with ⟨h1, _⟩ | ⟨h1, h2, h3⟩ | ⟨h1, h2, h3, h4, h5⟩ | ⟨h1, h2⟩ | ⟨h1, h2, h3, h4, h5, h6, h7⟩
  · rw [if_pos (by simpa using h1)] at hx; simp at hx
  · rw [if_neg (by rw [h1]; decide), if_neg (by rw [h1]; decide), if_neg (by rw [h1]; decide)] at hx
    exact ⟨b, cll_zero.1 h3 x hx⟩
  · rw [if_neg (by rw [h1]; decide), if_pos (by simpa using h1)] at hx
    have hd : d.kids.drop 2 = [d2 d.kids, d.kids.getD 3 dnone] := by
      match hkk : d.kids, h2 with
      | [a, b, c, e], _ => rfl
    rw [hd] at hx
    simp only [List.mem_cons, List.not_mem_nil, or_false] at hx
    rcases hx with rfl | rfl
    · exact ⟨b, h4⟩
    · exact ⟨_, h5⟩
  · rw [if_neg (by rw [h1]; decide), if_neg (by rw [h1]; decide), if_pos (by simpa using h1)] at hx
    exact ⟨b, cll_zero.1 (ccall_zero h2).2.2.2.2 x hx⟩
  · rw [if_neg (by simpa using h1), if_neg (by simpa using h3), if_neg (by simpa using h4)] at hx
    exact ⟨b, cll_zero.1 h7 x hx⟩

theorem formed_kids {d x : D} (h : formed d = true) (hx : x ∈ d.kids) : formed x = true := by
  rw [formed_eq] at h
  split at h
  · simp only [Bool.and_eq_true, beq_iff_eq] at h
    have : d.kids = [] := by cases hk : d.kids with
      | nil => rfl
      | cons a r => rw [hk] at h; simp at h; omega
    rw [this] at hx; simp at hx
  · split at h
    · simp only [Bool.and_eq_true, beq_iff_eq] at h
      have : d.kids = [] := by cases hk : d.kids with
        | nil => rfl
        | cons a r => rw [hk] at h; simp at h; omega
      rw [this] at hx; simp at hx
    · split at h
      · simp only [Bool.and_eq_true, Bool.not_eq_true', List.any_eq_false] at h
        simpa using h.2 x hx
      · cases h
theorem formed_kind {d : D} (h : formed d = true) : d.kind = 1 ∨ d.kind = 2 ∨ d.kind = 3 := by
  rw [formed_eq] at h
  split at h
  · rename_i h1; exact .inl (by simpa using h1)
  · split at h
    · rename_i h1; exact .inr (.inl (by simpa using h1))
    · split at h
      · rename_i h1; exact .inr (.inr (by simpa using h1))
      · cases h

/-- What has been checked may be gone through, and calls what is known. -/
theorem okE_of {ps : List (D × Int)} : ∀ (d : D) (b : List ByteArray), cexpr ps b d = 0 → formed d = true → okE d = true := by
  intro d
  induction d using D.ind with
  | _ k n t l ih =>
    intro b h hf
    rcases formed_kind hf with hk | hk | hk
    · simp only [D.kind] at hk; subst hk; rfl
    · simp only [D.kind] at hk; subst hk; rfl
    · have hp := cexpr_parts h hk
      obtain ⟨hne, _, hc⟩ := cexpr_list h hk
      have h2l : (D.mk k n t l).head.text = sLet ∨ (D.mk k n t l).head.text = sCall → 2 ≤ l.length := by
        intro ht
        rcases hc with ⟨h1, _⟩ | ⟨h1, h2, h3⟩ | ⟨h1, h2, h3, h4, h5⟩ | ⟨h1, h2⟩ | ⟨h1, h2, h3, h4, h5, h6, h7⟩
        · rw [h1] at ht; rcases ht with ht | ht
          · exact absurd ht sQ_ne_L
          · exact absurd ht sQ_ne_C
        · simp only [D.kids] at h2; omega
        · simp only [D.kids] at h2; omega
        · exact (ccall_zero h2).1
        · rcases ht with ht | ht
          · exact absurd ht h3
          · exact absurd ht h4
      simp only [D.kind] at hk
      subst hk
      rw [okE, okEs_drop]
      simp only [Bool.or_eq_true, Bool.and_eq_true, Bool.not_eq_true', List.all_eq_true, decide_eq_true_eq]
      refine .inr ⟨⟨⟨rfl, ?_⟩, ?_⟩, fun x hx => ?_⟩
      · cases l with
        | nil => exact (hne rfl).elim
        | cons => rfl
      · by_cases h2 : 2 ≤ l.length
        · exact .inl h2
        · refine .inr ?_
          simp only [Bool.or_eq_false_iff, decide_eq_false_iff_not]
          exact ⟨fun e => h2 (h2l (.inl e)), fun e => h2 (h2l (.inr e))⟩
      · have hx' : x ∈ parts (D.mk 3 n t l) := by rw [parts_drop]; exact hx
        obtain ⟨b', hb'⟩ := hp x hx'
        exact ih x (parts_mem hx') b' hb' (formed_kids hf (parts_mem hx'))

/-- Every label that is called is known. -/
theorem calls_known {ps : List (D × Int)} : ∀ (d : D) (b : List ByteArray), cexpr ps b d = 0 → formed d = true → ∀ st : CS, (∀ f, f ∈ st.1 → (kpar ps f).2 = true) → ∀ f, f ∈ (callsD d st).1 → (kpar ps f).2 = true := by
  intro d
  induction d using D.ind with
  | _ k n t l ih =>
    intro b h hf st hst f hm
    rw [callsD_eq] at hm
    have h0 : ∀ f, f ∈ (callStep (D.mk k n t l) st).1 → (kpar ps f).2 = true := by
      intro f hf
      unfold callStep at hf
      split at hf
      · rename_i hc
        simp only [List.mem_append, List.mem_singleton] at hf
        rcases hf with hf | rfl
        · exact hst f hf
        · simp only [Bool.and_eq_true] at hc
          have hi := isCall_iff.1 hc.1
          obtain ⟨hne, _, hcc⟩ := cexpr_list h hi.1
          rcases hcc with ⟨h1, _⟩ | ⟨h1, h2, h3⟩ | ⟨h1, h2, h3, h4, h5⟩ | ⟨h1, h2⟩ | ⟨h1, h2, h3, h4, h5, h6, h7⟩
          · exact absurd (h1.symm.trans hi.2) sQ_ne_C
          · exact absurd (h1.symm.trans hi.2) sI_ne_C
          · exact absurd (h1.symm.trans hi.2) sL_ne_C
          · exact (ccall_zero h2).2.2.1
          · exact absurd hi.2 h4
      · exact hst f hf
    have key : ∀ (r : List D), (∀ x, x ∈ r → x ∈ parts (D.mk k n t l)) → ∀ st : CS, (∀ f, f ∈ st.1 → (kpar ps f).2 = true) → ∀ f, f ∈ (r.foldl (fun st x => callsD x st) st).1 → (kpar ps f).2 = true := by
      intro r
      induction r with
      | nil => intro _ st hs f hf; exact hs f hf
      | cons x r ihr =>
        intro hr st hs f hf
        rw [List.foldl_cons] at hf
        have hx := hr x (by simp)
        by_cases hk : (D.mk k n t l).kind = 3
        · obtain ⟨b', hb'⟩ := cexpr_parts h hk x hx
          exact ihr (fun y hy => hr y (by simp [hy])) _ (fun f hf => ih x (parts_mem hx) b' hb' (formed_kids ‹_› (parts_mem hx)) st hs f hf) f hf
        · rw [parts_nil hk] at hx; simp at hx
    exact key _ (fun _ h => h) _ h0 f hm

/-! ### a right program -/
structure Right (p : D) : Prop where
  chk : fcheck p = 0
  sz : p.size ≤ 900000000

theorem dcheck_formed {p : D} (h : dcheck p = 0) : formed p = true := by
  unfold dcheck at h
  split at h
  · cases h
  · rename_i h1; simpa using h1

section
variable {p d f : D} (R : Right p)
include R
theorem Right.heads : (heads p).1 = 0 := (fcheck_heads R.chk).1
theorem Right.formed : formed p = true := dcheck_formed (heads_ok R.heads).1
theorem Right.def (hd : d ∈ p.kids) : ∃ x0 x1 x2 ns, d.kids = [x0, x1, x2] ∧ d.kind = 3 ∧ isLabel x0 = true ∧ names x1 = some ns ∧ ns.length ≤ 8 := def_ok R.heads hd
theorem Right.apart : Apart p.kids := by
  have h := R.heads
  rw [(heads_ok R.heads).2.2.2.2] at h
  exact (headsGo_apart h).1
theorem Right.par (f : D) : kpar (Aw.heads p).2 f = (match p.kids.find? fun d => kq f d.head with | some d => ((nlist (names (d1 d.kids))).length, true) | none => (0, false)) := by
  have h := R.heads
  rw [(heads_ok R.heads).2.2.2.2] at h ⊢
  exact (headsGo_apart h).2.2 f
theorem Right.body (hd : d ∈ p.kids) : cexpr (Aw.heads p).2 (nlist (names (d1 d.kids))) (d2 d.kids) = 0 := bodies_ok (fcheck_heads R.chk).2 d hd
theorem Right.bodyF (hd : d ∈ p.kids) : Aw.formed (d2 d.kids) = true := by
  obtain ⟨x0, x1, x2, ns, hk, _⟩ := R.def hd
  have : d2 d.kids = x2 := by rw [hk]; rfl
  rw [this]
  exact formed_kids (formed_kids R.formed hd) (by rw [hk]; simp)
theorem Right.ok (hd : d ∈ p.kids) : okE (d2 d.kids) = true := okE_of _ _ (R.body hd) (R.bodyF hd)
theorem Right.known (hd : d ∈ p.kids) (hf : f ∈ callsOf (d2 d.kids)) : ∃ e, e ∈ p.kids ∧ kq f e.head = true ∧ kget (defsL p.kids) f = some e := by
  have h := calls_known _ _ (R.body hd) (R.bodyF hd) ([], []) (fun f hf => by simp at hf) f hf
  rw [R.par f] at h
  rw [defsL_get R.apart]
  cases he : p.kids.find? fun d => kq f d.head with
  | none => rw [he] at h; cases h
  | some e => exact ⟨e, List.mem_of_find?_eq_some he, by have := List.find?_some he; simpa using this, rfl⟩
theorem Right.ne : p.kids ≠ [] := (heads_ok R.heads).2.2.1
theorem Right.head_mem : p.head ∈ p.kids := by
  obtain ⟨x, r, h⟩ := kids_cons R.ne
  rw [head_cons h, h]; simp
end
/-! ### what is reached -/
structure RI (p : D) (st : CS) : Prop where
  mem : ∀ d, d ∈ st.1 → d ∈ p.kids
  apart : Apart st.1
  seen : ∀ f, seenB st.2 f = st.1.any fun d => kq f d.head

theorem nodup_len {α : Type} : ∀ {l r : List α}, l.Nodup → (∀ x, x ∈ l → x ∈ r) → l.length ≤ r.length
  | [], r, _, _ => Nat.zero_le _
  | x :: l, r, hn, hs => by
    obtain ⟨a, b, rfl⟩ := List.append_of_mem (hs x (by simp))
    have hn := List.nodup_cons.1 hn
    have := nodup_len (l := l) (r := a ++ b) hn.2 (fun y hy => by
      have h := hs y (by simp [hy])
      simp only [List.mem_append, List.mem_cons] at h ⊢
      rcases h with h | rfl | h
      · exact .inl h
      · exact (hn.1 hy).elim
      · exact .inr h)
    simp only [List.length_append, List.length_cons] at this ⊢
    omega

theorem RI.len {p : D} {st : CS} (h : RI p st) : st.1.length ≤ p.kids.length := by
  refine nodup_len ?_ h.mem
  refine List.Pairwise.imp ?_ h.apart
  intro a b hab e
  subst e; rw [kq_refl] at hab; cases hab

theorem RI.step {p f e : D} {st : CS} (h : RI p st) (he : e ∈ p.kids) (hq : kq f e.head = true) (hg : kget (defsL p.kids) f = some e) : RI p (reachStep (defsL p.kids) st f) := by
  unfold reachStep
  split
  · rename_i hs
    have hs : seenB st.2 f = false := by simpa using hs
    have hdef : defOf (defsL p.kids) f = e := by unfold defOf; rw [hg]; rfl
    rw [hdef]
    rw [h.seen, List.any_eq_false] at hs
    refine ⟨fun d hd => ?_, ?_, fun g => ?_⟩
    · simp only [List.mem_append, List.mem_singleton] at hd
      rcases hd with hd | rfl
      · exact h.mem d hd
      · exact he
    · refine List.pairwise_append.2 ⟨h.apart, List.pairwise_singleton _ _, fun a ha b hb => ?_⟩
      simp only [List.mem_singleton] at hb
      subst hb
      have := hs a ha
      rw [kq_comm, ← kq_congr hq]
      simpa using this
    · rw [seenB_kset, h.seen, List.any_append, Bool.or_comm]
      simp only [List.any_cons, List.any_nil, Bool.or_false]
      rw [show kq g f = kq g e.head by rw [kq_comm g f, kq_comm g e.head]; exact kq_congr hq g]
  · exact h

theorem RI.fold {p : D} : ∀ {fs : List D} {st : CS}, RI p st → (∀ f, f ∈ fs → ∃ e, e ∈ p.kids ∧ kq f e.head = true ∧ kget (defsL p.kids) f = some e) → RI p (fs.foldl (reachStep (defsL p.kids)) st)
  | [], st, h, _ => h
  | f :: fs, st, h, hf => by
    rw [List.foldl_cons]
    obtain ⟨e, h1, h2, h3⟩ := hf f (by simp)
    exact RI.fold (h.step h1 h2 h3) (fun g hg => hf g (by simp [hg]))

theorem rst_inv {p : D} (R : Right p) : ∀ k, RI p (rst p k)
  | 0 => by
    refine ⟨fun d hd => ?_, List.pairwise_singleton _ _, fun f => ?_⟩
    · simp only [rst, rstK, List.mem_singleton] at hd
      subst hd; exact R.head_mem
    · simp only [rst, rstK, List.any_cons, List.any_nil, Bool.or_false, seenB, kget, List.find?_cons, List.find?_nil]
      cases kq f p.head.head <;> rfl
  | k + 1 => by
    have ih := rst_inv R k
    unfold rst at ih ⊢
    rw [rstK]
    split
    · exact ih
    · rename_i d hd
      exact ih.fold (fun f hf => R.known (ih.mem d (List.mem_of_getElem? hd)) hf)
theorem rst_stable {p : D} {k : Nat} (h : (rst p k).1.length ≤ k) : ∀ j, rst p (k + j) = rst p k
  | 0 => rfl
  | j + 1 => by
    have ih := rst_stable h j
    have : (rst p (k + j)).1[k + j]? = none := by rw [ih]; exact List.getElem?_eq_none (by omega)
    rw [← Nat.add_assoc, ← ih]
    unfold rst at this ⊢
    rw [rstK, this]
theorem reach_done {p : D} {k : Nat} (h : (rst p k).1.length ≤ k) (hk : k ≤ p.kids.length) : reach p = (rst p k).1 := by
  have := rst_stable h (p.kids.length - k)
  rw [show k + (p.kids.length - k) = p.kids.length by omega] at this
  unfold reach; rw [this]
theorem rst_next {p x : D} {k : Nat} (h : (rst p k).1[k]? = some x) : rst p (k + 1) = (callsOf (d2 x.kids)).foldl (reachStep (defsL p.kids)) (rst p k) := by
  unfold rst at h ⊢
  rw [rstK, h]; rfl

theorem reachStep_new {m : List (D × D)} {st : CS} {f e : D} (hs : seenB st.2 f = false) (hg : kget m f = some e) : reachStep m st f = (st.1 ++ [e], kset st.2 f true) := by
  unfold reachStep defOf; rw [hs, hg]; rfl
theorem reachStep_old {m : List (D × D)} {st : CS} {f : D} (hs : seenB st.2 f = true) : reachStep m st f = st := by
  unfold reachStep; rw [hs]; simp
/-- A nil slice that is handed over may be appended to. -/
theorem ACalls.adoptArg {P : Program} {f : FuncId} {pre post : List AV} {σ : Store} {e : TypeId} {sz : Nat} {R : AV → Store → Prop} (h : ACalls P f (pre ++ .acc [] σ.toks.length :: post) { σ with toks := σ.toks ++ [⟨0, e, sz⟩] } R) : ACalls P f (pre ++ .pv .nils :: post) σ R := by
  intro g w cargs hinv hlen hargs
  obtain ⟨i1, le1⟩ := hinv.adopt ⟨0, e, sz⟩
  refine (h _ w cargs i1 (by simpa using hlen) (fun i x v hx hv => ?_)).mono ?_
  · rcases Nat.lt_trichotomy i pre.length with hi | hi | hi
    · rw [List.getElem?_append_left hi] at hx
      exact (hargs i x v (by rw [List.getElem?_append_left hi]; exact hx) hv).mono le1 (fun _ _ h => h)
    · subst hi
      rw [List.getElem?_append_right (Nat.le_refl _), Nat.sub_self] at hx
      simp only [List.getElem?_cons_zero, Option.some.injEq] at hx
      subst hx
      have := hargs pre.length (.pv .nils) v (by rw [List.getElem?_append_right (Nat.le_refl _), Nat.sub_self]; rfl) hv
      exact this.adopt (xs := []) rfl hinv ⟨0, e, sz⟩ rfl (fun x hx => by simp at hx)
    · have e1 : ∀ (y : AV), (pre ++ y :: post)[i]? = post[i - pre.length - 1]? := by
        intro y
        rw [List.getElem?_append_right (by omega), show i - pre.length = (i - pre.length - 1) + 1 by omega, List.getElem?_cons_succ]
        rfl
      rw [e1] at hx
      exact (hargs i x v (by rw [e1]; exact hx) hv).mono le1 (fun _ _ h => h)
  · rintro e' w' ⟨v, r, σ', g', rfl, hR, hinv', hext, hra⟩
    exact ⟨v, r, σ', g', rfl, hR, hinv', Ext.trans (g' := { g with tb := g.tb ++ [none] }) (σ' := { σ with toks := σ.toks ++ [⟨0, e, sz⟩] }) (w' := w) ⟨le1, rfl, fun _ h => h, fun _ _ => rfl, Nat.le_refl _, rfl, rfl, rfl, hinv.lio, hinv.clo⟩ hext, hra⟩

/-! ### the store while this goes on -/
section
variable {σ : Store} {m : List (D × D)} {e : TypeId} {st : CS}
end
end Go.Aw

/- Programs of the package flat, six: names and labels that are changed. No program is named. -/
namespace Go.Aw
open Go
@[go_sem high] theorem seq_enc2 (x y : D) : seqPV 4 0 [(0, AV.pv (enc x)), (1, AV.pv (enc y))] = some [enc x, enc y] := by simp [seqPV, toPV, atomToPV, nrm_enc, enc_cells]
@[go_sem high] theorem seq_enc3 (x y z : D) : seqPV 4 0 [(0, AV.pv (enc x)), (1, AV.pv (enc y)), (2, AV.pv (enc z))] = some [enc x, enc y, enc z] := by simp [seqPV, toPV, atomToPV, nrm_enc, enc_cells]
section
variable {pre l : List D} {h : D → D} {k : Nat} {x : D}
end
theorem rexpr_num {lab nm : D → D} {bare : Bool} {d : D} (h : (d.kind == 1) = true) : rexpr lab nm bare d = d := by rw [rexpr_eq, if_pos h]
theorem rexpr_sym {lab nm : D → D} {bare : Bool} {d : D} (h1 : (d.kind == 1) = false) (h : (d.kind == 2) = true) : rexpr lab nm bare d = nm d := by rw [rexpr_eq, if_neg (by rw [h1]; decide), if_pos h]
section
variable {lab nm : D → D} {bare : Bool} {d : D} (h1 : (d.kind == 1) = false) (h2 : (d.kind == 2) = false)
include h1 h2
theorem rexpr_quote (h3 : decide (d.head.text = sQuote) = true) : rexpr lab nm bare d = d := by rw [rexpr_eq, if_neg (by rw [h1]; decide), if_neg (by rw [h2]; decide), if_pos h3]
theorem rexpr_let (h3 : decide (d.head.text = sQuote) = false) (h4 : decide (d.head.text = sLet) = true) : rexpr lab nm bare d = dlist ([d.head, nm (d1 d.kids)] ++ (parts d).map (rexpr lab nm bare)) := by
  rw [rexpr_eq, if_neg (by rw [h1]; decide), if_neg (by rw [h2]; decide), if_neg (by rw [h3]; decide), if_pos h4]
theorem rexpr_call (h3 : decide (d.head.text = sQuote) = false) (h4 : decide (d.head.text = sLet) = false) (h5 : decide (d.head.text = sCall) = true) : rexpr lab nm bare d = dlist ((if bare = true then [lab (d1 d.kids)] else [d.head, lab (d1 d.kids)]) ++ (parts d).map (rexpr lab nm bare)) := by
  rw [rexpr_eq, if_neg (by rw [h1]; decide), if_neg (by rw [h2]; decide), if_neg (by rw [h3]; decide), if_neg (by rw [h4]; decide), if_pos h5]
theorem rexpr_other (h3 : decide (d.head.text = sQuote) = false) (h4 : decide (d.head.text = sLet) = false) (h5 : decide (d.head.text = sCall) = false) : rexpr lab nm bare d = dlist ([d.head] ++ (parts d).map (rexpr lab nm bare)) := by
  rw [rexpr_eq, if_neg (by rw [h1]; decide), if_neg (by rw [h2]; decide), if_neg (by rw [h3]; decide), if_neg (by rw [h4]; decide), if_neg (by rw [h5]; decide)]
end
/-! ### where the labels stand -/
def atK (l : List D) (k : Nat) : List (D × Int) := (l.zipIdx.take k).foldl (fun m x => kset m x.1.head (x.2 : Int)) []
theorem atK_next {l : List D} {k : Nat} {x : D} (h : l[k]? = some x) : atK l (k + 1) = kset (atK l k) x.head (k : Int) := by
  unfold atK
  have hz : l.zipIdx[k]? = some (x, k) := by rw [List.getElem?_zipIdx, h]; simp
  rw [take_next hz, List.foldl_append]; rfl
theorem atK_all {l : List D} : atK l l.length = atL l := by
  unfold atK atL
  rw [List.take_of_length_le (by simp)]
section
variable {σ : Store} {fl : FuncId} {ps ps' : List (D × Int)}
end
section
variable {σ : Store} {fc fl fn : FuncId} {ps : List (D × Int)} {bare : Bool}
end
end Go.Aw

/- Programs of the package flat, seven: sizes, labels that are reached. No program is named. -/
namespace Go.Aw
open Go
def sumTo (f : D → Nat) (l : List D) (k : Nat) : Nat := ((l.take k).map f).sum
theorem sumTo_zero {f : D → Nat} {l : List D} : sumTo f l 0 = 0 := by simp [sumTo]
theorem sumTo_next {f : D → Nat} {l : List D} {k : Nat} {x : D} (h : l[k]? = some x) : sumTo f l (k + 1) = sumTo f l k + f x := by unfold sumTo; rw [take_next h]; simp
theorem sumTo_all {f : D → Nat} {l : List D} : sumTo f l l.length = (l.map f).sum := by unfold sumTo; rw [List.take_length]
theorem sum_le {f : D → Nat} : ∀ {l : List D}, (∀ x, x ∈ l → f x ≤ x.size) → (l.map f).sum ≤ D.sizes l
  | [], _ => by simp [D.sizes]
  | x :: l, h => by
    have h1 := h x (by simp)
    have h2 := sum_le (l := l) (fun y hy => h y (by simp [hy]))
    simp only [List.map_cons, List.sum_cons, D.sizes]; omega
theorem sumTo_le {f : D → Nat} {l : List D} {k : Nat} (h : ∀ x, x ∈ l → f x ≤ x.size) : sumTo f l k ≤ D.sizes l := by
  have h1 := sum_le (l := l.take k) (fun x hx => h x (List.mem_of_mem_take hx))
  have h2 := sizes_append (l.take k) (l.drop k)
  rw [List.take_append_drop] at h2
  unfold sumTo; omega
/-- The number of expressions of a definition. -/
def bsize (d : D) : Nat := fsize (d2 d.kids)
def fSize (p : D) : Int × Int := if (fcheck p != 0) = true then (0, fcheck p) else (((p.kids.map bsize).sum : Nat), 0)
end Go.Aw

/- Programs of the package flat, eight: two programs as one. No program is named. -/
namespace Go.Aw
open Go
section
variable {σ : Store} {e : TypeId} {p : D} {l : List D}
end
end Go.Aw

/- Programs of the package flat, ten: two right programs joined are one that is right, and its canonical form is that of the first. No program is named. -/
namespace Go.Aw
open Go
/-! ### a program and itself -/
theorem find_self {l : List D} {x : D} (h : Apart l) (hx : x ∈ l) : l.find? (fun d => deq d.head x.head) = some x := by
  induction l with
  | nil => simp at hx
  | cons y r ih =>
    have h := List.pairwise_cons.1 h
    rw [List.find?_cons]
    cases hd : deq y.head x.head with
    | true =>
      rcases List.mem_cons.1 hx with rfl | hx
      · rfl
      · have := h.1 x hx
        rw [deq_of hd, kq_refl] at this; cases this
    | false =>
      rcases List.mem_cons.1 hx with rfl | hx
      · rw [deq_refl] at hd; cases hd
      · exact ih h.2 hx
theorem isSym_es (lt : Int → Bool) : isSym lt es = false := rfl
theorem formed_num {d : D} (h : formed d = true) (hk : d.kind = 1) : d.text = es ∧ d.kids = [] := by
  rw [formed_eq, if_pos (by rw [hk]; rfl)] at h
  simp only [Bool.and_eq_true, beq_iff_eq, decide_eq_true_eq] at h
  exact ⟨h.1, List.eq_nil_of_length_eq_zero (by omega)⟩
theorem formed_sym {d : D} (h : formed d = true) (hk : d.kind = 2) : d.num = 0 ∧ d.kids = [] ∧ isSym isAtom d.text = true := by
  rw [formed_eq, if_neg (by rw [hk]; decide), if_pos (by rw [hk]; rfl)] at h
  simp only [Bool.and_eq_true, beq_iff_eq] at h
  exact ⟨h.1.1, List.eq_nil_of_length_eq_zero (by omega), h.2⟩
theorem isLabel_kind {d : D} (h : isLabel d = true) : d.kind = 1 ∨ d.kind = 2 := by
  unfold isLabel isName at h
  split at h
  · rename_i h1; exact .inl (by simpa using h1)
  · simp only [Bool.and_eq_true, beq_iff_eq] at h; exact .inr h.1
theorem D.ext' {a b : D} (h1 : a.kind = b.kind) (h2 : a.num = b.num) (h3 : a.text = b.text) (h4 : a.kids = b.kids) : a = b := by
  cases a; cases b; simp only [D.kind, D.num, D.text, D.kids] at *; subst h1 h2 h3 h4; rfl
/-- Labels with one key are one label. -/
theorem label_eq {a b : D} (ha : isLabel a = true) (hb : isLabel b = true) (fa : formed a = true) (fb : formed b = true) (h : kq a b = true) : a = b := by
  obtain ⟨hn, ht⟩ := kq_iff.1 h
  rcases isLabel_kind ha with ka | ka <;> rcases isLabel_kind hb with kb | kb
  · exact D.ext' (ka.trans kb.symm) hn ht ((formed_num fa ka).2.trans (formed_num fb kb).2.symm)
  · have h1 := (formed_num fa ka).1
    have h2 := (formed_sym fb kb).2.2
    rw [← ht, h1, isSym_es] at h2; cases h2
  · have h1 := (formed_num fb kb).1
    have h2 := (formed_sym fa ka).2.2
    rw [ht, h1, isSym_es] at h2; cases h2
  · exact D.ext' (ka.trans kb.symm) hn ht ((formed_sym fa ka).2.1.trans (formed_sym fb kb).2.1.symm)

section
variable {p d : D} (R : Right p)
include R
theorem Right.label (hd : d ∈ p.kids) : isLabel d.head = true ∧ Aw.formed d.head = true := by
  obtain ⟨x0, x1, x2, ns, hk, _, hl, _⟩ := R.def hd
  rw [head_cons hk]
  exact ⟨hl, formed_kids (formed_kids R.formed hd) (by rw [hk]; simp)⟩
end
/-! ### heads of a list that is right -/
def DefOk (d : D) : Prop := ∃ x0 x1 x2 ns, d.kids = [x0, x1, x2] ∧ d.kind = 3 ∧ isLabel x0 = true ∧ names x1 = some ns ∧ ns.length ≤ 8
theorem chead_zero {ps : List (D × Int)} {d : D} (h : DefOk d) (hn : (kpar ps d.head).2 = false) : chead ps d = (0, kset ps d.head (nlist (names (d1 d.kids))).length) := by
  obtain ⟨x0, x1, x2, ns, hk, hk3, hl, hns, h8⟩ := h
  have hkd : kidsOf d 3 false = some [x0, x1, x2] := by
    unfold kidsOf; rw [if_neg (by rw [hk, hk3]; simp), hk]
  rw [head_cons hk] at hn ⊢
  rw [chead_some hkd, if_neg (by simp [hl]), if_neg (by simp [hn]), hns]
  have hd : d1 d.kids = x1 := by rw [hk]; rfl
  have hlt : ¬ decide ((8 : Int) < ns.length) = true := by simp; omega
  simp only [if_neg hlt, hd, hns]
  rfl
theorem headsGo_zero : ∀ {l : List D} {ps : List (D × Int)}, Apart l → (∀ d, d ∈ l → DefOk d ∧ (kpar ps d.head).2 = false) → (headsGo ps l).1 = 0
  | [], _, _, _ => rfl
  | y :: l, ps, ha, h => by
    have ha := List.pairwise_cons.1 ha
    have hy := h y (by simp)
    have hc := chead_zero hy.1 hy.2
    rw [headsGo, if_neg (by rw [hc]; simp), hc]
    refine headsGo_zero ha.2 (fun d hd => ⟨(h d (by simp [hd])).1, ?_⟩)
    rw [kpar_kset, show kq d.head y.head = false by rw [kq_comm]; exact ha.1 d hd]
    exact (h d (by simp [hd])).2

/-! ### what more is known does no harm -/
section
variable {p q : D} (R : Right p) (S : Right q) (hlen : (joinL p q).1.length ≤ 4000) (hchk : dcheck (joinD p q) = 0) (hap : (joinL p q).2 = false)
include R S
include hlen hchk
include hap
end
end Go.Aw

/- Programs of the package flat, eleven: a canonical form is not greater than the program. No program is named. -/
namespace Go.Aw
open Go
end Go.Aw

/- Layer 17's specification (one): names, labels, forms, and what is wrong with a body, told of data as trees; the same as the program's own checker's. No program is named. -/
namespace Go.Aw
open Go
/-! ### the words, written out (no rewriting by unfolding: the decisions' instances follow) -/
theorem eQuote : sQuote = ⟨#[113, 117, 111, 116, 101]⟩ := Eq.trans rfl rfl
theorem eIf : sIf = ⟨#[105, 102]⟩ := Eq.trans rfl rfl
theorem eLet : sLet = ⟨#[108, 101, 116]⟩ := Eq.trans rfl rfl
theorem letter_tab : (List.range 256).all (fun c => letter (c : Int) == isAtom (c : Int)) = true := by kernel_rfl
theorem letter_atom {c : Nat} (h : c < 256) : letter (c : Int) = isAtom (c : Int) := by
  have := List.all_eq_true.1 letter_tab c (List.mem_range.2 h)
  simpa using this
theorem bt_nat (s : ByteArray) (i : Nat) : ∃ c : Nat, c < 256 ∧ bt s i = (c : Int) := by
  refine ⟨((s.data[((i : Int)).toNat]?).getD 0).toNat, UInt8.toNat_lt _, rfl⟩
theorem isSym_letter (s : ByteArray) : isSym letter s = isSym isAtom s := by
  have h : (fun i => letter (bt s i)) = fun i => isAtom (bt s i) := by
    funext i
    obtain ⟨c, hc, e⟩ := bt_nat s i
    rw [e, letter_atom hc]
  unfold isSym
  rw [h]

/-! ### names -/
def words7 : List ByteArray := [⟨#[113, 117, 111, 116, 101]⟩, ⟨#[105, 102]⟩, ⟨#[102, 110]⟩, ⟨#[108, 101, 116]⟩, ⟨#[114, 101, 99]⟩, ⟨#[115, 101, 113]⟩, ⟨#[117, 112]⟩]
def resI (s : ByteArray) : Int := idxOf (fun w => decide (w = s)) words7
def reserved (s : ByteArray) : Int := if resI s < 0 then 0 else 3 + resI s
def name04 (s : ByteArray) : Bool := isSym letter s && reserved s == 0
theorem idxOf_nonneg {α : Type} {p : α → Bool} {l : List α} : (0 ≤ idxOf p l) ↔ l.any p = true := by
  rw [← idxOf_any]; simp
theorem reserved_zero (s : ByteArray) : (reserved s == 0) = !(words7.any fun w => decide (w = s)) := by
  unfold reserved resI
  have h := idxOf_nonneg (p := fun w => decide (w = s)) (l := words7)
  cases hb : words7.any fun w => decide (w = s) with
  | true =>
    have h0 := h.2 hb
    rw [if_neg (by omega)]
    simp; omega
  | false =>
    have h0 : ¬ 0 ≤ idxOf (fun w => decide (w = s)) words7 := fun h0 => by rw [h.1 h0] at hb; cases hb
    rw [if_pos (by omega)]; rfl
def ar2 : List ByteArray := [⟨#[43]⟩, ⟨#[45]⟩, ⟨#[42]⟩, ⟨#[113, 117, 111, 116]⟩, ⟨#[114, 101, 109]⟩, ⟨#[60]⟩, ⟨#[61]⟩, ⟨#[99, 111, 110, 115]⟩, ⟨#[109, 97, 114, 107]⟩]
def ar1 : List ByteArray := [⟨#[102, 105, 114, 115, 116]⟩, ⟨#[114, 101, 115, 116]⟩, ⟨#[99, 111, 117, 110, 116]⟩, ⟨#[108, 105, 115, 116, 63]⟩, ⟨#[110, 117, 109, 63]⟩, ⟨#[115, 121, 109, 63]⟩, ⟨#[115, 116, 111, 112]⟩]
def arityR (s : ByteArray) : Int × Bool := if (ar2.any fun w => decide (s = w)) = true then (2, true) else if (ar1.any fun w => decide (s = w)) = true then (1, true) else (0, false)
theorem arityR_eq (s : ByteArray) : arityR s = arity s := by
  unfold arityR
  split
  · rename_i h
    obtain ⟨w, hw, he⟩ := List.any_eq_true.1 h
    obtain rfl := of_decide_eq_true he
    simp only [ar2, List.mem_cons, List.not_mem_nil, or_false] at hw
    rcases hw with rfl | rfl | rfl | rfl | rfl | rfl | rfl | rfl | rfl <;> rfl
  · split
    · rename_i h
      obtain ⟨w, hw, he⟩ := List.any_eq_true.1 h
      obtain rfl := of_decide_eq_true he
      simp only [ar1, List.mem_cons, List.not_mem_nil, or_false] at hw
      rcases hw with rfl | rfl | rfl | rfl | rfl | rfl | rfl <;> rfl
    · rename_i h2 h1
      unfold arity
      have : primL.find? (fun p => decide (p.1 = s)) = none := by
        rw [List.find?_eq_none]
        intro p hp hq
        have hq := of_decide_eq_true hq
        have hm : p.1 ∈ ar2 ∨ p.1 ∈ ar1 := by
          simp only [primL, List.mem_cons, List.not_mem_nil, or_false] at hp
          rcases hp with rfl | rfl | rfl | rfl | rfl | rfl | rfl | rfl | rfl | rfl | rfl | rfl | rfl | rfl | rfl | rfl <;> simp [ar1, ar2]
        rcases hm with hm | hm
        · exact h2 (List.any_eq_true.2 ⟨p.1, hm, by simp [hq]⟩)
        · exact h1 (List.any_eq_true.2 ⟨p.1, hm, by simp [hq]⟩)
      rw [this]

/-! ### words, forms -/
def word (d : D) : ByteArray := if (d.kind != 3 || (d.kids.length : Int) == 0 || d.head.kind != 2) = true then es else d.head.text
def kidsR (d : D) : List D := if decide (word d = es) = true then [] else if decide (word d = sQuote) = true then [] else if decide (word d = sLet) = true then d.kids.drop 2 else if decide (word d = sCall) = true then d.kids.drop 2 else d.kids.drop 1
theorem word_list {d : D} (hk : d.kind = 3) (hn : d.kids ≠ []) (hh : d.head.kind = 2) : word d = d.head.text := by
  have : d.kids.length ≠ 0 := fun e => hn (List.eq_nil_of_length_eq_zero e)
  unfold word
  rw [if_neg]
  rw [hk, hh]
  simp; omega
theorem word_none {d : D} (h : d.kind ≠ 3 ∨ d.kids = [] ∨ d.head.kind ≠ 2) : word d = es := by
  unfold word
  rw [if_pos]
  rcases h with h | h | h
  · simp [h]
  · simp [h]
  · simp [h]

theorem word_ne {d : D} (h : decide (word d = es) = false) : d.kind = 3 ∧ d.kids ≠ [] ∧ d.head.kind = 2 ∧ word d = d.head.text ∧ (1 : Int) ≤ d.kids.length := by
  have hc : ¬ (d.kind ≠ 3 ∨ d.kids = [] ∨ d.head.kind ≠ 2) := fun hc => by rw [word_none hc] at h; exact absurd h (by decide)
  have h1 : d.kind = 3 := Decidable.byContradiction fun e => hc (.inl e)
  have h2 : d.kids ≠ [] := fun e => hc (.inr (.inl e))
  have h3 : d.head.kind = 2 := Decidable.byContradiction fun e => hc (.inr (.inr e))
  have : d.kids.length ≠ 0 := fun e => h2 (List.eq_nil_of_length_eq_zero e)
  exact ⟨h1, h2, h3, word_list h1 h2 h3, by omega⟩
theorem any_comm (b : List ByteArray) (s : ByteArray) : (b.any fun y => decide (y = s)) = b.any fun y => decide (s = y) := by
  congr 1; funext y; simp [eq_comm]
theorem arity_es : arity es = (0, false) := rfl
theorem sEs_ne {s : ByteArray} (h : isSym isAtom s = true) : decide (s = es) = false := by
  rw [decide_eq_false_iff_not]
  rintro rfl
  rw [isSym_es] at h; cases h
/-- A number's digits. -/
def itoaB (n : Int) : ByteArray := ⟨(Lib.itoa n).toArray⟩

/-! ### definitions as structs -/
structure Df where
  lab : D
  ps : List ByteArray
  bod : D
def encDf (d : Df) : PV := .agg [.int .i64 d.lab.kind, .int .i64 d.lab.num, .str d.lab.text, .slice (d.lab.kids.map enc), .slice (d.ps.map .str), .int .i64 d.bod.kind, .int .i64 d.bod.num, .str d.bod.text, .slice (d.bod.kids.map enc)]
@[go_sem] theorem encDf_cells (d : Df) : (encDf d).cells = [.int .i64 d.lab.kind, .int .i64 d.lab.num, .str d.lab.text, .slice (d.lab.kids.map enc), .slice (d.ps.map .str), .int .i64 d.bod.kind, .int .i64 d.bod.num, .str d.bod.text, .slice (d.bod.kids.map enc)] := rfl
@[go_sem] theorem allSz_df (l : List Df) : allSz 9 (l.map encDf) = true := by simp [allSz, encDf_cells]
@[go_sem] theorem nrm_df (d : Df) : (encDf d).nrm = encDf d := rfl
@[go_sem high] theorem seq_df (x : Df) : seqPV 9 0 [(0, AV.pv (encDf x))] = some [encDf x] := by simp [seqPV, toPV, atomToPV, nrm_df, encDf_cells]
def toDf (d : D) : Df := ⟨d0 d.kids, nlist (names (d1 d.kids)), d2 d.kids⟩
def findI (l : List Df) (f : D) : Int := idxOf (fun d => deq d.lab f) l
/-- What is known of labels is what the definitions say. -/
def LP (l : List Df) (ps : List (D × Int)) : Prop := ∀ f, isLabel f = true → formed f = true → kpar ps f = (match l.find? fun d => deq d.lab f with | some d => ((d.ps.length : Int), true) | none => (0, false))
theorem LP.neg {l : List Df} {ps : List (D × Int)} (h : LP l ps) {f : D} (hf : isLabel f = true) (ff : formed f = true) (hn : findI l f < 0) : (kpar ps f).2 = false := by
  rw [h f hf ff, idxOf_neg hn]
theorem LP.pos {l : List Df} {ps : List (D × Int)} (h : LP l ps) {f : D} (hf : isLabel f = true) (ff : formed f = true) (hn : ¬ findI l f < 0) : 0 ≤ findI l f ∧ ∃ d, l[(findI l f).toNat]? = some d ∧ kpar ps f = ((d.ps.length : Int), true) := by
  obtain ⟨h0, d, h1, h2⟩ := idxOf_get hn
  refine ⟨h0, d, h1, ?_⟩
  rw [h f hf ff, h2]
end Go.Aw

/- Layer 17's specification (two): sizes, depths, expressions in order. No program is named. -/
namespace Go.Aw
open Go
theorem sizes_sum : ∀ l : List D, D.sizes l = (l.map D.size).sum
  | [] => rfl
  | d :: l => by simp [D.sizes, sizes_sum l]
theorem size_sum (d : D) : d.size = 1 + sumTo D.size d.kids d.kids.length := by rw [sumTo_all, D.size_kids, sizes_sum]
theorem deeps_snoc : ∀ (l : List D) (x : D), D.deeps (l ++ [x]) = max (D.deeps l) x.deep
  | [], x => by simp [D.deeps]
  | d :: l, x => by simp only [List.cons_append, D.deeps, deeps_snoc l x]; omega
theorem deep_kids (d : D) : d.deep = 1 + D.deeps d.kids := by cases d; rfl
theorem deeps_next {l : List D} {k : Nat} {x : D} (h : l[k]? = some x) : (if D.deeps (l.take k) < x.deep then ((x.deep : Nat) : Int) else ((D.deeps (l.take k) : Nat) : Int)) = ((D.deeps (l.take (k + 1)) : Nat) : Int) := by
  rw [take_next h, deeps_snoc]
  split <;> omega
section
variable {α : Type} {l : List α} {h : α → D} {k : Nat} {x : α}
end
def GoodE (d : D) : Prop := formed d = true ∧ ∃ (ps : List (D × Int)) (b : List ByteArray), cexpr ps b d = 0
section
variable {d x : D} (h : GoodE d)
include h
theorem GoodE.ok : okE d = true := by obtain ⟨h1, ps, b, h2⟩ := h; exact okE_of d b h2 h1
theorem GoodE.part (hx : x ∈ parts d) : GoodE x := by
  obtain ⟨h1, ps, b, h2⟩ := h
  by_cases hk : d.kind = 3
  · obtain ⟨b', hb⟩ := cexpr_parts h2 hk x hx
    exact ⟨formed_kids h1 (parts_mem hx), ps, b', hb⟩
  · rw [parts_nil hk] at hx; simp at hx
theorem GoodE.head (hk : d.kind = 3) : d.head.kind = 2 ∧ d.kids ≠ [] := by
  obtain ⟨h1, ps, b, h2⟩ := h
  have := cexpr_list h2 hk
  exact ⟨this.2.1, this.1⟩
theorem GoodE.word (hk : d.kind = 3) : word d = d.head.text ∧ decide (Aw.word d = es) = false := by
  obtain ⟨hh, hn⟩ := h.head hk
  have hw := word_list hk hn hh
  refine ⟨hw, ?_⟩
  obtain ⟨x0, r, hx⟩ := kids_cons hn
  have hf0 : formed d.head = true := by rw [head_cons hx]; exact formed_kids h.1 (by rw [hx]; simp)
  rw [hw]; exact sEs_ne (formed_sym hf0 hh).2.2
theorem GoodE.kids : kidsR d = parts d := by
  by_cases hk : d.kind = 3
  · obtain ⟨hw, he⟩ := h.word hk
    unfold kidsR parts
    have e3 : (d.kind != 3) = false := by rw [hk]; rfl
    simp only [he, e3, Bool.false_eq_true, if_false]
    rw [hw]
  · rw [parts_nil hk]
    unfold kidsR
    rw [if_pos (by rw [word_none (.inl hk)]; rfl)]
theorem GoodE.two (hw : Aw.word d = sLet ∨ Aw.word d = sCall) : 2 ≤ d.kids.length := by
  have hk : d.kind = 3 := by
    refine Decidable.byContradiction fun e => ?_
    rw [word_none (.inl e)] at hw
    rcases hw with hw | hw <;> exact absurd hw (by decide)
  exact okE_two h.ok hk (by rw [← (h.word hk).1]; exact hw)
theorem GoodE.isCall : decide (Aw.word d = sCall) = Aw.isCall d := by
  unfold Aw.isCall
  by_cases hk : d.kind = 3
  · rw [(h.word hk).1, hk]; simp
  · rw [word_none (.inl hk)]
    have : (d.kind == 3) = false := by rw [beq_eq_false_iff_ne]; exact hk
    rw [this]; rfl
/-- What is called is a label. -/
theorem GoodE.label (hc : Aw.isCall d = true) : 2 ≤ d.kids.length ∧ isLabel (d1 d.kids) = true ∧ formed (d1 d.kids) = true := by
  obtain ⟨hk, ht⟩ := isCall_iff.1 hc
  obtain ⟨h1, ps, b, h2⟩ := h
  obtain ⟨_, _, hc⟩ := cexpr_list h2 hk
  rcases hc with ⟨e, _⟩ | ⟨e, _⟩ | ⟨e, _⟩ | ⟨_, hc⟩ | ⟨_, _, _, e, _⟩
  · rw [ht] at e; exact absurd e sC_ne_Q
  · rw [ht] at e; exact absurd e.symm sI_ne_C
  · rw [ht] at e; exact absurd e sC_ne_L
  · obtain ⟨h3, h4, _⟩ := ccall_zero hc
    refine ⟨h3, h4, formed_kids h1 ?_⟩
    obtain ⟨x1, hx1, hm⟩ := get_lt (l := d.kids) (k := 1) (by omega)
    rw [show d1 d.kids = x1 from getD_of hx1]; exact hm
  · exact absurd ht e
end
theorem Right.good {p d : D} (R : Right p) (hd : d ∈ p.kids) : GoodE (d2 d.kids) := ⟨R.bodyF hd, _, _, R.body hd⟩

/-! ### the expressions in one, in order -/
mutual
def exprsL : D → List D
  | .mk k n t l => .mk k n t l :: exprsLs (pdrop (.mk k n t l)) l
def exprsLs : Nat → List D → List D
  | _, [] => []
  | 0, x :: l => exprsL x ++ exprsLs 0 l
  | i + 1, _ :: l => exprsLs i l
end
theorem exprsLs_drop : ∀ (i : Nat) (l : List D), exprsLs i l = (l.drop i).flatMap exprsL
  | 0, [] => rfl
  | i + 1, [] => rfl
  | 0, x :: l => by rw [exprsLs, exprsLs_drop 0 l]; rfl
  | i + 1, x :: l => by rw [exprsLs, exprsLs_drop i l]; rfl
theorem exprsL_eq (d : D) : exprsL d = d :: (parts d).flatMap exprsL := by
  rw [parts_drop]
  cases d
  rw [exprsL, exprsLs_drop]
  rfl
end Go.Aw
namespace Go.Aw
open Go
section
variable {σ : Store} {k n m : Nat} {e : TypeId} {sz : Nat}
end
end Go.Aw
namespace Go.Aw
open Go
end Go.Aw

/- Layer 17's specification (three): labels as strings, the definitions. No program is named. -/
namespace Go.Aw
open Go
/-! ### digits -/
def dval (l : List UInt8) : Nat := l.foldl (fun a c => a * 10 + (c.toNat - 48)) 0
theorem digit_nat {n : Nat} (h : n < 10) : (UInt8.ofNat (48 + n)).toNat = 48 + n := by
  rw [UInt8.toNat_ofNat']; omega
theorem dval_dec : ∀ u : Nat, dval (Lib.decDigits u) = u := by
  intro u
  induction u using Nat.strongRecOn with
  | _ u ih =>
    rw [Lib.decDigits]
    split
    · rename_i h
      simp only [dval, List.foldl_cons, List.foldl_nil, digit_nat h]; omega
    · rename_i h
      have := ih (u / 10) (by omega)
      simp only [dval] at this ⊢
      rw [List.foldl_append, this]
      simp only [List.foldl_cons, List.foldl_nil, digit_nat (Nat.mod_lt u (by omega : 10 > 0))]
      omega
theorem dec_head : ∀ u : Nat, ∃ (c : UInt8) (r : List UInt8), Lib.decDigits u = c :: r ∧ 48 ≤ c.toNat ∧ c.toNat ≤ 57 := by
  intro u
  induction u using Nat.strongRecOn with
  | _ u ih =>
    rw [Lib.decDigits]
    split
    · rename_i h
      exact ⟨_, [], rfl, by rw [digit_nat h]; omega, by rw [digit_nat h]; omega⟩
    · obtain ⟨c, r, h1, h2, h3⟩ := ih (u / 10) (by omega)
      exact ⟨c, r ++ _, by rw [h1]; rfl, h2, h3⟩
theorem itoa_nat {n : Int} (h : 0 ≤ n) : Lib.itoa n = Lib.decDigits n.toNat := by unfold Lib.itoa; rw [if_neg (by omega)]
section
variable {ty : TyT} {s : St} {t kt et : TypeId} {ti te tk : TyI} {o : Nat} {ps : List (D × Int)}
end
/-- Labels that are right. -/
def LabOk (ps : List (D × Int)) : Prop := ∀ q, q ∈ ps → isLabel q.1 = true ∧ formed q.1 = true
theorem kpar_any (ps : List (D × Int)) (d : D) : (kpar ps d).2 = ps.any fun q => kq d q.1 := by
  unfold kpar kget
  cases h : ps.find? fun q => kq d q.1 with
  | none =>
    rw [List.find?_eq_none] at h
    have : (ps.any fun q => kq d q.1) = false := by rw [List.any_eq_false]; exact h
    rw [this]; rfl
  | some q =>
    have h1 := List.find?_some h
    have : (ps.any fun q => kq d q.1) = true := List.any_eq_true.2 ⟨q, List.mem_of_find?_eq_some h, h1⟩
    rw [this]; rfl
theorem kset_new {ps : List (D × Int)} {d : D} {v : Int} (h : (kpar ps d).2 = false) : kset ps d v = ps ++ [(d, v)] := by
  rw [kpar_any] at h
  induction ps with
  | nil => rfl
  | cons q r ih =>
    simp only [List.any_cons, Bool.or_eq_false_iff] at h
    rw [kset, if_neg (by rw [h.1]; decide), ih h.2]; rfl
section
variable {σ : Store} {ps ps' : List (D × Int)} {e : TypeId} {n m : Nat}
end
/-! ### the definitions -/
def rdefs (p : D) : List Df := if (fcheck p != 0) = true then [] else p.kids.map toDf
end Go.Aw
namespace Go.Aw
open Go
theorem LabOk.kset {ps : List (D × Int)} (h : LabOk ps) {d : D} {v : Int} (hl : isLabel d = true) (hf : formed d = true) (hn : (kpar ps d).2 = false) : LabOk (kset ps d v) := by
  rw [kset_new hn]
  intro q hq
  simp only [List.mem_append, List.mem_singleton] at hq
  rcases hq with hq | rfl
  · exact h q hq
  · exact ⟨hl, hf⟩
theorem toDf_of {d x0 x1 x2 : D} {ns : List ByteArray} (hk : d.kids = [x0, x1, x2]) (hn : names x1 = some ns) : toDf d = ⟨x0, ns, x2⟩ := by
  have h0 : d0 d.kids = x0 := by rw [hk]; rfl
  have h1 : d1 d.kids = x1 := by rw [hk]; rfl
  have h2 : d2 d.kids = x2 := by rw [hk]; rfl
  unfold toDf
  rw [h0, h1, h2, hn]; rfl
end Go.Aw

/- Terms of layer 25 (one): what a term is, by the program and by the specification. No program is named. -/
namespace Go.Aw
open Go
def sFn : ByteArray := ⟨#[102, 110]⟩
def sApp : ByteArray := ⟨#[97, 112, 112]⟩
def sSay : ByteArray := ⟨#[115, 97, 121]⟩
def sLift : ByteArray := ⟨#[108, 105, 102, 116]⟩
def sRun : ByteArray := ⟨#[114, 117, 110]⟩
theorem eFn : sFn = ⟨#[102, 110]⟩ := Eq.trans rfl rfl
theorem eApp : sApp = ⟨#[97, 112, 112]⟩ := Eq.trans rfl rfl
theorem eSay : sSay = ⟨#[115, 97, 121]⟩ := Eq.trans rfl rfl
theorem eLift : sLift = ⟨#[108, 105, 102, 116]⟩ := Eq.trans rfl rfl
theorem eRun : sRun = ⟨#[114, 117, 110]⟩ := Eq.trans rfl rfl

/-- How many names a word binds, and how long its list is. -/
def shapeL : List (ByteArray × (Nat × Nat)) := [(sQuote, 0, 2), (sFn, 2, 4), (sLet, 1, 4), (sIf, 0, 4), (sApp, 0, 3), (sSay, 0, 2), (sLift, 0, 2), (sRun, 0, 3)]
def shp (s : ByteArray) : Option (Nat × Nat) := (shapeL.find? fun p => decide (p.1 = s)).map (·.2)
def shN (s : ByteArray) : Nat := ((shp s).map (·.1)).getD 0

/-- A name. -/
def mName (d : D) : Bool := d.kind == 2 && !(words7.any fun w => decide (w = d.text))
/-- The terms in a term. -/
def idrop (d : D) : Nat := if (d.kind != 3) = true then d.kids.length else if decide (d.head.text = sQuote) = true then d.kids.length else 1 + shN d.head.text
def inner (d : D) : List D := d.kids.drop (idrop d)
theorem inner_eq (d : D) : inner d = if (d.kind != 3) = true then [] else if decide (d.head.text = sQuote) = true then [] else d.kids.drop (1 + shN d.head.text) := by
  unfold inner idrop
  split
  · simp
  · split
    · simp
    · rfl
theorem inner_mem {d x : D} (h : x ∈ inner d) : x ∈ d.kids := List.mem_of_mem_drop h
theorem inner_len (d : D) : (inner d).length ≤ d.kids.length := by unfold inner; rw [List.length_drop]; omega

mutual
/-- What is wrong with a term. -/
def mchk : D → Int
  | .mk k n t l =>
    if (k == 1 || mName (.mk k n t l)) = true then 0 else
    if (k != 3 || (l.length : Int) == 0 || (l.headD dnone).kind != 2) = true then 4 else
    match shp (l.headD dnone).text with
    | some (nm, sz) => if ((l.length : Int) != sz || ((l.drop 1).take nm).any fun x => !mName x) = true then 4 else mchks (idrop (.mk k n t l)) l
    | none => if (!(arity (l.headD dnone).text).2) = true then 4 else if ((arity (l.headD dnone).text).1 != (l.length : Int) - 1) = true then 11 else mchks (idrop (.mk k n t l)) l
def mchks : Nat → List D → Int
  | _, [] => 0
  | 0, x :: l => if (mchk x != 0) = true then mchk x else mchks 0 l
  | i + 1, _ :: l => mchks i l
end
def mchkL (l : List D) : Int := mchks 0 l
theorem mchks_drop : ∀ (i : Nat) (l : List D), mchks i l = mchkL (l.drop i)
  | 0, l => rfl
  | i + 1, [] => by simp [mchks, mchkL]
  | i + 1, x :: l => by rw [mchks, mchks_drop i l]; rfl
theorem mchkL_cons (x : D) (l : List D) : mchkL (x :: l) = if (mchk x != 0) = true then mchk x else mchkL l := rfl
theorem mchkL_zero {l : List D} : mchkL l = 0 ↔ ∀ x, x ∈ l → mchk x = 0 := by
  induction l with
  | nil => simp [mchkL, mchks]
  | cons x l ih =>
    rw [mchkL_cons]
    by_cases h : (mchk x != 0) = true
    · rw [if_pos h]
      simp at h
      exact ⟨fun e => absurd e h, fun e => absurd (e x (by simp)) h⟩
    · rw [if_neg h, ih]
      simp at h
      simp [h]
theorem mchk_eq (d : D) : mchk d = if (d.kind == 1 || mName d) = true then 0 else
    if (d.kind != 3 || (d.kids.length : Int) == 0 || d.head.kind != 2) = true then 4 else
    match shp d.head.text with
    | some (nm, sz) => if ((d.kids.length : Int) != sz || ((d.kids.drop 1).take nm).any fun x => !mName x) = true then 4 else mchkL (inner d)
    | none => if (!(arity d.head.text).2) = true then 4 else if ((arity d.head.text).1 != (d.kids.length : Int) - 1) = true then 11 else mchkL (inner d) := by
  unfold inner
  rw [← mchks_drop]
  cases d
  rw [mchk]
  rfl
/-- What is wrong with a datum as a term. -/
def mcheck (d : D) : Int := if (dcheck d != 0) = true then dcheck d else mchk d

/-! ### by the specification -/
def rName (d : D) : Bool := d.kind == 2 && name04 d.text
def mform (d : D) : Bool :=
  if (d.kind == 1) = true then true else if (d.kind == 2) = true then rName d else
  if (decide (word d = sQuote) || decide (word d = sSay) || decide (word d = sLift)) = true then (d.kids.length : Int) == 2 else
  if (decide (word d = sApp) || decide (word d = sRun)) = true then (d.kids.length : Int) == 3 else
  if decide (word d = sIf) = true then (d.kids.length : Int) == 4 else
  if decide (word d = sLet) = true then (d.kids.length : Int) == 4 && rName (d1 d.kids) else
  if decide (word d = sFn) = true then ((d.kids.length : Int) == 4 && rName (d1 d.kids)) && rName (d2 d.kids) else
  (arity (word d)).2
def kdrop (d : D) : Nat := if (decide (word d = es) || decide (word d = sQuote)) = true then d.kids.length else if decide (word d = sFn) = true then 3 else if decide (word d = sLet) = true then 2 else 1
def kidsM (d : D) : List D := d.kids.drop (kdrop d)
mutual
def mbody : D → Int
  | .mk k n t l => if (!mform (.mk k n t l)) = true then 4 else if ((arity (word (.mk k n t l))).2 && ((arity (word (.mk k n t l))).1 != (l.length : Int) - 1)) = true then 11 else mbodys (kdrop (.mk k n t l)) l
def mbodys : Nat → List D → Int
  | _, [] => 0
  | 0, x :: l => if (mbody x != 0) = true then mbody x else mbodys 0 l
  | i + 1, _ :: l => mbodys i l
end
def mbodyL (l : List D) : Int := mbodys 0 l
theorem mbodys_drop : ∀ (i : Nat) (l : List D), mbodys i l = mbodyL (l.drop i)
  | 0, l => rfl
  | i + 1, [] => by simp [mbodys, mbodyL]
  | i + 1, x :: l => by rw [mbodys, mbodys_drop i l]; rfl
theorem mbodyL_cons (x : D) (l : List D) : mbodyL (x :: l) = if (mbody x != 0) = true then mbody x else mbodyL l := rfl
theorem mbody_eq (d : D) : mbody d = if (!mform d) = true then 4 else if ((arity (word d)).2 && ((arity (word d)).1 != (d.kids.length : Int) - 1)) = true then 11 else mbodyL (kidsM d) := by
  unfold kidsM
  rw [← mbodys_drop]
  cases d
  rw [mbody]
  rfl
end Go.Aw
namespace Go.Aw
open Go
/-! ### both say the same -/
theorem rName_eq {d : D} (hf : formed d = true) : rName d = mName d := by
  unfold rName mName
  by_cases hk : d.kind = 2
  · have h := (formed_sym hf hk).2.2
    unfold name04
    rw [isSym_letter, h, reserved_zero, Bool.true_and]
  · rw [show (d.kind == 2) = false by simpa using hk]; rfl
theorem shp_cases (s : ByteArray) : (s = sQuote ∧ shp s = some (0, 2)) ∨ (s = sFn ∧ shp s = some (2, 4)) ∨ (s = sLet ∧ shp s = some (1, 4)) ∨ (s = sIf ∧ shp s = some (0, 4)) ∨ (s = sApp ∧ shp s = some (0, 3)) ∨ (s = sSay ∧ shp s = some (0, 2)) ∨ (s = sLift ∧ shp s = some (0, 2)) ∨ (s = sRun ∧ shp s = some (0, 3)) ∨
    (shp s = none ∧ s ≠ sQuote ∧ s ≠ sFn ∧ s ≠ sLet ∧ s ≠ sIf ∧ s ≠ sApp ∧ s ≠ sSay ∧ s ≠ sLift ∧ s ≠ sRun) := by
  by_cases h1 : s = sQuote
  · subst h1; exact .inl ⟨rfl, rfl⟩
  by_cases h2 : s = sFn
  · subst h2; exact .inr (.inl ⟨rfl, rfl⟩)
  by_cases h3 : s = sLet
  · subst h3; exact .inr (.inr (.inl ⟨rfl, rfl⟩))
  by_cases h4 : s = sIf
  · subst h4; exact .inr (.inr (.inr (.inl ⟨rfl, rfl⟩)))
  by_cases h5 : s = sApp
  · subst h5; exact .inr (.inr (.inr (.inr (.inl ⟨rfl, rfl⟩))))
  by_cases h6 : s = sSay
  · subst h6; exact .inr (.inr (.inr (.inr (.inr (.inl ⟨rfl, rfl⟩)))))
  by_cases h7 : s = sLift
  · subst h7; exact .inr (.inr (.inr (.inr (.inr (.inr (.inl ⟨rfl, rfl⟩))))))
  by_cases h8 : s = sRun
  · subst h8; exact .inr (.inr (.inr (.inr (.inr (.inr (.inr (.inl ⟨rfl, rfl⟩)))))))
  · refine .inr (.inr (.inr (.inr (.inr (.inr (.inr (.inr ⟨?_, h1, h2, h3, h4, h5, h6, h7, h8⟩)))))))
    unfold shp shapeL
    simp only [List.find?_cons, List.find?_nil, decide_eq_false (Ne.symm h1), decide_eq_false (Ne.symm h2), decide_eq_false (Ne.symm h3), decide_eq_false (Ne.symm h4), decide_eq_false (Ne.symm h5), decide_eq_false (Ne.symm h6), decide_eq_false (Ne.symm h7), decide_eq_false (Ne.symm h8)]
    rfl
theorem mbodyL_map {l : List D} (h : ∀ x, x ∈ l → mbody x = mchk x) : mbodyL l = mchkL l := by
  induction l with
  | nil => rfl
  | cons x l ih => rw [mbodyL_cons, mchkL_cons, h x (by simp), ih fun y hy => h y (by simp [hy])]
end Go.Aw
namespace Go.Aw
open Go
theorem shN_of {s : ByteArray} {a b : Nat} (h : shp s = some (a, b)) : shN s = a := by unfold shN; rw [h]; rfl
theorem shN_none {s : ByteArray} (h : shp s = none) : shN s = 0 := by unfold shN; rw [h]; rfl
theorem kidsM_inner {d : D} (h : decide (word d = es) = false) : kidsM d = inner d := by
  obtain ⟨hk, hn, hh, hw, _⟩ := word_ne h
  unfold kidsM inner
  congr 1
  unfold kdrop idrop
  rw [h, Bool.false_or, if_neg (show ¬ (d.kind != 3) = true by rw [hk]; decide), hw]
  rcases shp_cases d.head.text with ⟨e, s⟩ | ⟨e, s⟩ | ⟨e, s⟩ | ⟨e, s⟩ | ⟨e, s⟩ | ⟨e, s⟩ | ⟨e, s⟩ | ⟨e, s⟩ | ⟨s, n1, n2, n3, _⟩
  · rw [if_pos (by rw [e]; rfl), if_pos (by rw [e]; rfl)]
  · rw [shN_of s, if_neg (by rw [e]; decide), if_pos (by rw [e]; decide), if_neg (by rw [e]; decide)]
  · rw [shN_of s, if_neg (by rw [e]; decide), if_neg (by rw [e]; decide), if_pos (by rw [e]; decide), if_neg (by rw [e]; decide)]
  · rw [shN_of s, if_neg (by rw [e]; decide), if_neg (by rw [e]; decide), if_neg (by rw [e]; decide), if_neg (by rw [e]; decide)]
  · rw [shN_of s, if_neg (by rw [e]; decide), if_neg (by rw [e]; decide), if_neg (by rw [e]; decide), if_neg (by rw [e]; decide)]
  · rw [shN_of s, if_neg (by rw [e]; decide), if_neg (by rw [e]; decide), if_neg (by rw [e]; decide), if_neg (by rw [e]; decide)]
  · rw [shN_of s, if_neg (by rw [e]; decide), if_neg (by rw [e]; decide), if_neg (by rw [e]; decide), if_neg (by rw [e]; decide)]
  · rw [shN_of s, if_neg (by rw [e]; decide), if_neg (by rw [e]; decide), if_neg (by rw [e]; decide), if_neg (by rw [e]; decide)]
  · rw [shN_none s, if_neg (by simpa using n1), if_neg (by simpa using n2), if_neg (by simpa using n3), if_neg (by simpa using n1)]
theorem kidsM_none {d : D} (h : d.kind ≠ 3) : kidsM d = [] := by
  unfold kidsM kdrop
  rw [if_pos (by rw [word_none (.inl h)]; rfl), List.drop_length]
theorem inner_none {d : D} (h : d.kind ≠ 3) : inner d = [] := by
  unfold inner idrop
  rw [if_pos (by simpa using h), List.drop_length]
theorem take1 {l : List D} (h : l.length = 4) : (l.drop 1).take 1 = [d1 l] := by
  match l, h with
  | [a, b, c, e], _ => rfl
theorem take2 {l : List D} (h : l.length = 4) : (l.drop 1).take 2 = [d1 l, d2 l] := by
  match l, h with
  | [a, b, c, e], _ => rfl
theorem d1_mem {l : List D} (h : l.length = 4) : d1 l ∈ l ∧ d2 l ∈ l := by
  match l, h with
  | [a, b, c, e], _ => exact ⟨by simp [d1], by simp [d2]⟩
/-- On formed data the specification and the program find the same. -/
theorem mbody_mchk : ∀ {d : D}, formed d = true → mbody d = mchk d := by
  intro d
  induction d using D.ind with
  | _ k n t l ih =>
    intro hf
    have hL : ∀ r, (∀ x, x ∈ r → x ∈ l) → mbodyL r = mchkL r := fun r hr => mbodyL_map fun x hx => ih x (hr x hx) (formed_kids hf (hr x hx))
    clear ih
    generalize hd : D.mk k n t l = d at *
    have hl : d.kids = l := by rw [← hd]; rfl
    subst hl
    clear hd
    have hI : mbodyL (inner d) = mchkL (inner d) := hL _ fun x hx => inner_mem hx
    rw [mbody_eq, mchk_eq]
    rcases formed_kind hf with hk | hk | hk
    · have hF : mform d = true := by unfold mform; rw [if_pos (by rw [hk]; rfl)]
      have hw : word d = es := word_none (.inl (by rw [hk]; decide))
      rw [hF, hw, arity_es, kidsM_none (by rw [hk]; decide), if_neg (by decide), if_neg (by simp), if_pos (by rw [hk]; rfl)]; rfl
    · have hF : mform d = mName d := by unfold mform; rw [if_neg (by rw [hk]; decide), if_pos (by rw [hk]; rfl), rName_eq hf]
      have hw : word d = es := word_none (.inl (by rw [hk]; decide))
      rw [hF, hw, arity_es, kidsM_none (by rw [hk]; decide)]
      cases hm : mName d with
      | true => rw [if_neg (by decide), if_neg (by simp), if_pos (by simp)]; rfl
      | false => rw [if_pos (by decide), if_neg (by rw [hk]; decide), if_pos (by rw [hk]; rfl)]
    · have k1 : (d.kind == 1) = false := by rw [hk]; rfl
      have k2 : (d.kind == 2) = false := by rw [hk]; rfl
      have km : mName d = false := by unfold mName; rw [k2]; rfl
      rw [k1, km, Bool.false_or, if_neg (show ¬ (false = true) by decide)]
      by_cases hb : (d.kind != 3 || (d.kids.length : Int) == 0 || d.head.kind != 2) = true
      · have hw : word d = es := by unfold word; rw [if_pos hb]
        have hF : mform d = false := by
          unfold mform
          rw [if_neg (by rw [k1]; decide), if_neg (by rw [k2]; decide), hw, if_neg (by decide), if_neg (by decide), if_neg (by decide), if_neg (by decide), if_neg (by decide)]; rfl
        rw [hF, if_pos (by decide), if_pos hb]
      · have hw : word d = d.head.text := by unfold word; rw [if_neg hb]
        rw [if_neg hb]
        simp only [Bool.or_eq_true, beq_iff_eq, bne_iff_ne, not_or, Decidable.not_not] at hb
        have hn : d.kids ≠ [] := fun e => hb.1.2 (by rw [e]; rfl)
        obtain ⟨x0, r, hx⟩ := kids_cons hn
        have hf0 : formed d.head = true := by rw [head_cons hx]; exact formed_kids hf (by rw [hx]; simp)
        have hne : decide (word d = es) = false := by rw [hw]; exact sEs_ne (formed_sym hf0 hb.2).2.2
        have hn1 : d.kids.length = 4 → rName (d1 d.kids) = mName (d1 d.kids) ∧ rName (d2 d.kids) = mName (d2 d.kids) := fun h4 => ⟨rName_eq (formed_kids hf (d1_mem h4).1), rName_eq (formed_kids hf (d1_mem h4).2)⟩
        rw [kidsM_inner hne, hI, hw]
        have fin0 : ∀ (sz : Nat) (hF : mform d = ((d.kids.length : Int) == sz)) (hs : shp d.head.text = some (0, sz)) (ha : arity d.head.text = (0, false)),
            (if (!mform d) = true then (4 : Int) else if ((arity d.head.text).2 && ((arity d.head.text).1 != (d.kids.length : Int) - 1)) = true then 11 else mchkL (inner d)) =
            (match shp d.head.text with
              | some (nm, sz) => if ((d.kids.length : Int) != sz || ((d.kids.drop 1).take nm).any fun x => !mName x) = true then 4 else mchkL (inner d)
              | none => if (!(arity d.head.text).2) = true then 4 else if ((arity d.head.text).1 != (d.kids.length : Int) - 1) = true then 11 else mchkL (inner d)) := by
          intro sz hF hs ha
          rw [hs, ha, hF]
          simp only [List.take_zero, List.any_nil, Bool.or_false, Bool.false_and, Bool.false_eq_true, if_false]
          rfl
        have m1 : ¬ (d.kind == 1) = true := by rw [k1]; decide
        have m2 : ¬ (d.kind == 2) = true := by rw [k2]; decide
        rcases shp_cases d.head.text with ⟨e, s⟩ | ⟨e, s⟩ | ⟨e, s⟩ | ⟨e, s⟩ | ⟨e, s⟩ | ⟨e, s⟩ | ⟨e, s⟩ | ⟨e, s⟩ | ⟨s, n1, n2, n3, n4, n5, n6, n7, n8⟩
        · exact fin0 2 (by unfold mform; rw [if_neg m1, if_neg m2, hw, e, if_pos (by decide)]; rfl) s (by rw [e]; rfl)
        · have hF : mform d = (((d.kids.length : Int) == 4 && rName (d1 d.kids)) && rName (d2 d.kids)) := by unfold mform; rw [if_neg m1, if_neg m2, hw, e, if_neg (by decide), if_neg (by decide), if_neg (by decide), if_neg (by decide), if_pos (by decide)]
          rw [s, e, show arity sFn = (0, false) from rfl, hF]
          by_cases h4 : d.kids.length = 4
          · rw [(hn1 h4).1, (hn1 h4).2]
            simp only [take2 h4, List.any_cons, List.any_nil, h4]
            cases mName (d1 d.kids) <;> cases mName (d2 d.kids) <;> rfl
          · have e4 : ((d.kids.length : Int) == 4) = false := by rw [beq_eq_false_iff_ne]; omega
            have e5 : ((d.kids.length : Int) != ((4 : Nat) : Int)) = true := by rw [bne_iff_ne]; omega
            simp only [e4, e5, Bool.false_and, Bool.not_false, if_true, Bool.true_or]
        · have hF : mform d = ((d.kids.length : Int) == 4 && rName (d1 d.kids)) := by unfold mform; rw [if_neg m1, if_neg m2, hw, e, if_neg (by decide), if_neg (by decide), if_neg (by decide), if_pos (by decide)]
          rw [s, e, show arity sLet = (0, false) from rfl, hF]
          by_cases h4 : d.kids.length = 4
          · rw [(hn1 h4).1]
            simp only [take1 h4, List.any_cons, List.any_nil, h4]
            cases mName (d1 d.kids) <;> rfl
          · have e4 : ((d.kids.length : Int) == 4) = false := by rw [beq_eq_false_iff_ne]; omega
            have e5 : ((d.kids.length : Int) != ((4 : Nat) : Int)) = true := by rw [bne_iff_ne]; omega
            simp only [e4, e5, Bool.false_and, Bool.not_false, if_true, Bool.true_or]
        · exact fin0 4 (by unfold mform; rw [if_neg m1, if_neg m2, hw, e, if_neg (by decide), if_neg (by decide), if_pos (by decide)]; rfl) s (by rw [e]; rfl)
        · exact fin0 3 (by unfold mform; rw [if_neg m1, if_neg m2, hw, e, if_neg (by decide), if_pos (by decide)]; rfl) s (by rw [e]; rfl)
        · exact fin0 2 (by unfold mform; rw [if_neg m1, if_neg m2, hw, e, if_pos (by decide)]; rfl) s (by rw [e]; rfl)
        · exact fin0 2 (by unfold mform; rw [if_neg m1, if_neg m2, hw, e, if_pos (by decide)]; rfl) s (by rw [e]; rfl)
        · exact fin0 3 (by unfold mform; rw [if_neg m1, if_neg m2, hw, e, if_neg (by decide), if_pos (by decide)]; rfl) s (by rw [e]; rfl)
        · have hF : mform d = (arity d.head.text).2 := by
            unfold mform
            rw [if_neg m1, if_neg m2, hw, if_neg (by simp [n1, n6, n7]), if_neg (by simp [n5, n8]), if_neg (by simpa using n4), if_neg (by simpa using n3), if_neg (by simpa using n2)]
          rw [s, hF]
          cases (arity d.head.text).2 <;> rfl

/-! ### terms that have been checked -/
structure GoodM (d : D) : Prop where
  formed : formed d = true
  ok : mchk d = 0
/-- What a list that is a term begins with. -/
inductive MShape (d : D) : Prop where
  | quote (h : d.head.text = sQuote) (x : D) (hk : d.kids = [d.head, x]) (hi : inner d = [])
  | fn (h : d.head.text = sFn) (f x b : D) (hk : d.kids = [d.head, f, x, b]) (hi : inner d = [b]) (hf : mName f = true) (hx : mName x = true)
  | lett (h : d.head.text = sLet) (x a b : D) (hk : d.kids = [d.head, x, a, b]) (hi : inner d = [a, b]) (hx : mName x = true)
  | op (h : d.head.text = sIf ∨ d.head.text = sApp ∨ d.head.text = sSay ∨ d.head.text = sLift ∨ d.head.text = sRun ∨ shp d.head.text = none ∧ (arity d.head.text).2 = true) (hk : d.kids = d.head :: inner d) (hq : d.head.text ≠ sQuote) (hf : d.head.text ≠ sFn) (hl : d.head.text ≠ sLet)
      (hn : ((inner d).length : Int) = if d.head.text = sIf then 3 else if d.head.text = sApp ∨ d.head.text = sRun then 2 else if d.head.text = sSay ∨ d.head.text = sLift then 1 else (arity d.head.text).1)
section
variable {d x : D} (h : GoodM d)
include h
theorem GoodM.kind : d.kind = 1 ∨ (d.kind = 2 ∧ mName d = true) ∨ d.kind = 3 := by
  rcases formed_kind h.formed with hk | hk | hk
  · exact .inl hk
  · refine .inr (.inl ⟨hk, ?_⟩)
    have := h.ok
    rw [mchk_eq] at this
    cases hm : mName d with
    | true => rfl
    | false =>
      rw [hm, if_neg (by rw [hk]; decide), if_pos (by rw [hk]; rfl)] at this; cases this
  · exact .inr (.inr hk)
theorem GoodM.list (hk : d.kind = 3) : d.kids ≠ [] ∧ d.head.kind = 2 ∧ Aw.formed d.head = true ∧ mchkL (inner d) = 0 ∧ MShape d := by
  have h0 := h.ok
  have k1 : (d.kind == 1) = false := by rw [hk]; rfl
  have k2 : (d.kind == 2) = false := by rw [hk]; rfl
  have km : mName d = false := by unfold mName; rw [k2]; rfl
  rw [mchk_eq, k1, km, if_neg (by decide)] at h0
  by_cases hb : (d.kind != 3 || (d.kids.length : Int) == 0 || d.head.kind != 2) = true
  · rw [if_pos hb] at h0; cases h0
  rw [if_neg hb] at h0
  simp only [Bool.or_eq_true, beq_iff_eq, bne_iff_ne, not_or, Decidable.not_not] at hb
  have hn : d.kids ≠ [] := fun e => hb.1.2 (by rw [e]; rfl)
  obtain ⟨x0, r, hx⟩ := kids_cons hn
  have hh := head_cons hx
  have hf0 : Aw.formed d.head = true := by rw [hh]; exact formed_kids h.formed (by rw [hx]; simp)
  have hi : inner d = if decide (d.head.text = sQuote) = true then [] else d.kids.drop (1 + shN d.head.text) := by
    rw [inner_eq, if_neg (show ¬ (d.kind != 3) = true by rw [hk]; decide)]
  have hop : ∀ sz : Nat, shp d.head.text = some (0, sz) → d.head.text ≠ sQuote → inner d = r ∧ (((d.kids.length : Int) != sz) = true → False) ∧ mchkL (inner d) = 0 := by
    intro sz s hq
    rw [s] at h0
    simp only at h0
    split at h0
    · cases h0
    · rename_i hc
      simp only [Bool.or_eq_true, not_or] at hc
      exact ⟨by rw [hi, if_neg (by simpa using hq), shN_of s, hx]; rfl, fun e => hc.1 e, h0⟩
  have hop2 : ∀ sz : Nat, shp d.head.text = some (0, sz) → d.head.text ≠ sQuote → d.kids = d.head :: inner d ∧ ((inner d).length : Int) = sz - 1 ∧ mchkL (inner d) = 0 := by
    intro sz s hq
    obtain ⟨e1, e2, e3⟩ := hop sz s hq
    have e4 : (d.kids.length : Int) = sz := by
      refine Decidable.byContradiction fun e => e2 ?_
      simpa using e
    rw [hx] at e4
    refine ⟨by rw [hh, e1, hx], ?_, e3⟩
    rw [e1]
    simp only [List.length_cons] at e4
    omega
  refine ⟨hn, hb.2, hf0, ?_⟩
  rcases shp_cases d.head.text with ⟨e, s⟩ | ⟨e, s⟩ | ⟨e, s⟩ | ⟨e, s⟩ | ⟨e, s⟩ | ⟨e, s⟩ | ⟨e, s⟩ | ⟨e, s⟩ | ⟨s, n1, n2, n3, n4, n5, n6, n7, n8⟩
  · rw [s] at h0
    simp only [List.take_zero, List.any_nil, Bool.or_false] at h0
    have hi0 : inner d = [] := by rw [hi, if_pos (by simpa using e)]
    refine ⟨by rw [hi0]; rfl, ?_⟩
    split at h0
    · cases h0
    · rename_i hc
      have hl : d.kids.length = 2 := by simp at hc; omega
      rw [hx] at hl
      match r, hl, hx with
      | [y], _, hx => exact .quote e y (by rw [hh]; exact hx) hi0
  · rw [s] at h0
    simp only at h0
    split at h0
    · cases h0
    · rename_i hc
      simp only [Bool.or_eq_true, not_or, bne_iff_ne, Decidable.not_not] at hc
      have hl : d.kids.length = 4 := by omega
      rw [take2 hl] at hc
      simp only [List.any_cons, List.any_nil, Bool.or_false, Bool.or_eq_true, Bool.not_eq_true', not_or, Bool.not_eq_false] at hc
      refine ⟨h0, ?_⟩
      rw [hx] at hl
      match r, hl, hx with
      | [f, x, b], _, hx =>
        have e1 : d1 d.kids = f := by rw [hx]; rfl
        have e2 : d2 d.kids = x := by rw [hx]; rfl
        rw [e1, e2] at hc
        exact .fn e f x b (by rw [hh]; exact hx) (by rw [hi, if_neg (by rw [e]; decide), shN_of s, hx]; rfl) hc.2.1 hc.2.2
  · rw [s] at h0
    simp only at h0
    split at h0
    · cases h0
    · rename_i hc
      simp only [Bool.or_eq_true, not_or, bne_iff_ne, Decidable.not_not] at hc
      have hl : d.kids.length = 4 := by omega
      rw [take1 hl] at hc
      simp only [List.any_cons, List.any_nil, Bool.or_false, Bool.not_eq_true', Bool.not_eq_false] at hc
      refine ⟨h0, ?_⟩
      rw [hx] at hl
      match r, hl, hx with
      | [x, a, b], _, hx =>
        have e1 : d1 d.kids = x := by rw [hx]; rfl
        rw [e1] at hc
        exact .lett e x a b (by rw [hh]; exact hx) (by rw [hi, if_neg (by rw [e]; decide), shN_of s, hx]; rfl) hc.2
  · obtain ⟨e1, e2, e3⟩ := hop2 4 s (by rw [e]; decide)
    exact ⟨e3, .op (.inl e) e1 (by rw [e]; decide) (by rw [e]; decide) (by rw [e]; decide) (by rw [e2, if_pos e]; rfl)⟩
  · obtain ⟨e1, e2, e3⟩ := hop2 3 s (by rw [e]; decide)
    exact ⟨e3, .op (.inr (.inl e)) e1 (by rw [e]; decide) (by rw [e]; decide) (by rw [e]; decide) (by rw [e2, if_neg (by rw [e]; decide), if_pos (.inl e)]; rfl)⟩
  · obtain ⟨e1, e2, e3⟩ := hop2 2 s (by rw [e]; decide)
    exact ⟨e3, .op (.inr (.inr (.inl e))) e1 (by rw [e]; decide) (by rw [e]; decide) (by rw [e]; decide) (by rw [e2, if_neg (by rw [e]; decide), if_neg (by rw [e]; decide), if_pos (.inl e)]; rfl)⟩
  · obtain ⟨e1, e2, e3⟩ := hop2 2 s (by rw [e]; decide)
    exact ⟨e3, .op (.inr (.inr (.inr (.inl e)))) e1 (by rw [e]; decide) (by rw [e]; decide) (by rw [e]; decide) (by rw [e2, if_neg (by rw [e]; decide), if_neg (by rw [e]; decide), if_pos (.inr e)]; rfl)⟩
  · obtain ⟨e1, e2, e3⟩ := hop2 3 s (by rw [e]; decide)
    exact ⟨e3, .op (.inr (.inr (.inr (.inr (.inl e))))) e1 (by rw [e]; decide) (by rw [e]; decide) (by rw [e]; decide) (by rw [e2, if_neg (by rw [e]; decide), if_pos (.inr e)]; rfl)⟩
  · rw [s] at h0
    simp only at h0
    split at h0
    · cases h0
    · rename_i ha
      split at h0
      · cases h0
      · rename_i hb2
        have e1 : inner d = r := by rw [hi, if_neg (by simpa using n1), shN_none s, hx]; rfl
        simp only [Bool.not_eq_true', Bool.not_eq_false] at ha
        simp only [bne_iff_ne, Decidable.not_not] at hb2
        refine ⟨h0, .op (.inr (.inr (.inr (.inr (.inr ⟨s, ha⟩))))) (by rw [hh, e1, hx]) n1 n2 n3 ?_⟩
        rw [if_neg n4, if_neg (by simp [n5, n8]), if_neg (by simp [n6, n7]), hb2, e1, hx]
        simp
theorem GoodM.part (hx : x ∈ inner d) : GoodM x := by
  refine ⟨formed_kids h.formed (inner_mem hx), ?_⟩
  by_cases hk : d.kind = 3
  · exact mchkL_zero.1 (h.list hk).2.2.2.1 x hx
  · rw [inner_none hk] at hx; simp at hx
end
theorem mcheck_good {d : D} (h : mcheck d = 0) : GoodM d := by
  unfold mcheck at h
  split at h
  · rename_i hc; rw [h] at hc; simp at hc
  · rename_i hc
    exact ⟨dcheck_formed (by simpa using hc), h⟩
end Go.Aw

/- The laid table of layer 25: the words, with how many names they bind and how long their lists are, in whatever order it lies. No program is named. -/
namespace Go.Aw
open Go
def encSh (p : Nat × Nat) : PV := .agg [.int .i64 p.1, .int .i64 p.2]
/-- The words, in whatever order they lie. -/
structure ShO where
  l : List (ByteArray × (Nat × Nat))
  find : ∀ x : ByteArray, (l.find? fun p => decide (p.1 = x)).map (·.2) = shp x
def shK (S : ShO) : List PV := S.l.map fun p => .str p.1
def shV (S : ShO) : List PV := S.l.map fun p => encSh p.2
theorem kfind_strs {α : Type} (x : ByteArray) : ∀ l : List (ByteArray × α), kfind (.str x) (l.map fun p => .str p.1) = l.findIdx? fun p => decide (p.1 = x)
  | [] => rfl
  | p :: l => by
    have hk : (PV.str x).keq (.str p.1) = decide (p.1 = x) := by simp [PV.keq, pvAtomEq, eq_comm]
    simp only [List.map_cons, kfind, List.findIdx?_cons, hk, kfind_strs x l]
theorem sh_keys (S : ShO) : (shK S).all (KS.fits (.one .str)) = true := by
  unfold shK
  rw [List.all_eq_true]
  intro p hp
  obtain ⟨q, _, rfl⟩ := List.mem_map.1 hp
  rfl
theorem look_sh {S : ShO} {ty : TyT} {s : St} {t : TypeId} {x : ByteArray} {ti te tk : TyI} {kt et : TypeId} {ok : Bool} (h : ty t = some ti) (hk : ti.kind = .map kt et) (h1 : ty et = some te) (h2 : ty kt = some tk) (h3 : tk.ks = some (.one .str)) (h4 : te.kind.agg = true) (h5 : te.zero = [.int .i64 0, .int .i64 0]) :
    lookAV ty s t (.pv (.map (shK S) (shV S))) (.pv (.str x)) ok = some (okAV ok (shp x).isSome (.pv (encSh ((shp x).getD (0, 0))))) := by
  have hko : keyOk ty kt (.str x) (shK S) = true := by
    have hf := sh_keys S
    simp only [keyOk, h2, h3, hf, Bool.and_true]; rfl
  have hfx := S.find x
  simp only [lookAV, h, hk, h1, mapOf, toPV, atomToPV, Option.map_some, PV.nrm, hko]
  have hkf : kfind (.str x) (shK S) = S.l.findIdx? fun p => decide (p.1 = x) := kfind_strs x S.l
  rw [hkf]
  cases hj : S.l.findIdx? fun p => decide (p.1 = x) with
  | none =>
    have : S.l.find? (fun p => decide (p.1 = x)) = none := by
      rw [List.findIdx?_eq_none_iff] at hj
      rw [List.find?_eq_none]
      intro p hp; simpa using hj p hp
    rw [this] at hfx
    rw [← hfx]
    simp [okAV, zeroAV, h4, h5, encSh]
  | some j =>
    rw [List.findIdx?_eq_some_iff_getElem] at hj
    obtain ⟨hlt, h6, h7⟩ := hj
    have : S.l.find? (fun p => decide (p.1 = x)) = some S.l[j] := by
      rw [List.find?_eq_some_iff_getElem]
      exact ⟨h6, j, hlt, rfl, fun i hi => by simpa using h7 i hi⟩
    rw [this] at hfx
    rw [← hfx]
    have hv : (shV S)[j]? = some (encSh S.l[j].2) := by unfold shV; rw [List.getElem?_map, List.getElem?_eq_getElem hlt]; rfl
    simp [hv, okAV]
end Go.Aw

/- A contract of the library's that reads a laid table of whole numbers and leaves the world but for new blocks. No program is named. -/
namespace Go.Aw
open Go
variable {P : Program} {G : List (Nat × PV)} {B : Nat} {S : Nat → Nat → Prop} {w w' : World}
theorem RP.tab_inv {k : IntKind} {zs : List Int} {n : Nat} (h : RP B S w (.tab k zs) (.pointer (some ⟨n, 0, none⟩))) : ∃ e c, w.heap[n]? = some (.cells (zs.map (Value.int k)).toArray e c) := by
  cases h with
  | tab hb hh => exact ⟨_, _, hh⟩

theorem tabIs_of {name : String} {k : IntKind} {zs : List Int} {n : Nat} (hn : P.globalNamed name = some n) (h : RP B S w (.tab k zs) (.pointer (some ⟨n, 0, none⟩))) : Lib.TabIs P w name k zs := by
  obtain ⟨e, c, hh⟩ := h.tab_inv
  simp only [Lib.TabIs, World.var?, hn, Option.bind_some, hh]

theorem grow_heap (w : World) (n : Nat) (os : Array Obj) (b : Nat) (hb : b < w.heap.size) : (Sort.grow (w.drewN n) os).heap[b]? = w.heap[b]? := by
  show (w.heap ++ os)[b]? = w.heap[b]?
  rw [Array.getElem?_append_left hb]

theorem pur_of_callsT {f : FuncId} {ps : List PV} {q : PV} {name : String} {k : IntKind} {zs : List Int} {n : Nat} (l : List KA) (hps : fitsAll l ps = true) (a : KA) (hq : a.fits q = true) (hn : P.globalNamed name = some n) (hG : (n, PV.tab k zs) ∈ G)
    (h : ∀ w, Lib.TabIs P w name k zs → Calls P f (ps.map atomV).toArray w fun e w' => e = .returned (atomV q) ∧ ∃ m os, w' = Sort.grow (w.drewN m) os) : Pur P G f (ps.map .pv) (.pv q) := by
  intro σ hgl g w cargs hinv hlen hargs
  have hc : cargs = ps.map atomV := by
    refine fitsAll_val (B := g.B) (S := g.S) (w := w) hps (by simpa using hlen) (fun i x v hx hv => ?_)
    exact (hargs i (.pv x) v (by simp [hx]) hv).pv_inv
  subst hc
  have ht := tabIs_of hn (hinv.glob n (.tab k zs) (by rw [hgl]; exact hG))
  refine (h w ht).mono ?_
  rintro e w' ⟨rfl, m, os, rfl⟩
  have hs : w.heap.size ≤ (Sort.grow (w.drewN m) os).heap.size := by
    show w.heap.size ≤ (w.heap ++ os).size
    simp
  obtain ⟨h1, h2⟩ := hinv.step hs (fun b hb => grow_heap w m os b hb)
  refine ⟨_, _, _, g, rfl, ⟨rfl, rfl⟩, h1, ⟨h2, rfl, fun _ h => h, fun b hb => grow_heap w m os b (hinv.kept b hb).1, hs, rfl, rfl, rfl, hinv.lio, hinv.clo⟩, .pv ?_⟩
  cases a <;> cases q <;> simp [KA.fits] at hq <;> constructor
end Go.Aw

/- Terms of layer 25 (two): what is bound, free, counted, renamed, mapped. No program is named. -/
namespace Go.Aw
open Go
theorem shN_getD {s : ByteArray} : ((shp s).getD (0, 0)).1 = shN s := by unfold shN; cases shp s <;> rfl
theorem shN_le (s : ByteArray) : shN s ≤ 2 := by
  rcases shp_cases s with ⟨_, h⟩ | ⟨_, h⟩ | ⟨_, h⟩ | ⟨_, h⟩ | ⟨_, h⟩ | ⟨_, h⟩ | ⟨_, h⟩ | ⟨_, h⟩ | ⟨h, _⟩
  all_goals first | (rw [shN_of h]; omega) | (rw [shN_none h]; omega)
/-- Begins with a word. -/
def isW (d : D) (w : ByteArray) : Bool := d.kind == 3 && decide (d.head.text = w)
/-- The names that are bound in a term at an index of a term. -/
def bnd (d : D) (i : Nat) : List ByteArray := if isW d sFn = true then [(d1 d.kids).text, (d2 d.kids).text] else if (isW d sLet && (i : Int) == 1) = true then [(d1 d.kids).text] else []
end Go.Aw

/- A range over a function: its record, its rounds, the call of yield, the statement. No program is named. -/
namespace Go.Aw
open Go
section
variable {ρ : Option Nat} {P : Program} {ty : TyT} {g0 g : Ghost} {σ0 σ : Store} {w0 w : World} {N M : Nat} {s : St} {a : Act} {tk : List Tok} {L : List (List AV)}
theorem putObj_setBlk (w : World) (b : Nat) (ob : Obj) : w.putObj b ob = setBlk w b ob := rfl

/-- The record of a loop turns. -/
theorem Inv.setRec (h : Inv g σ L w) {o b l : Nat} {st : LoopState} {pe : Option Code} {T : List (Nat × AV)} {ps : Array Tmp} {asg body : Code} (hi : g.io[o]? = some b) (ho : σ.objs[o]? = some (.loop l st pe T M ps asg body)) :
    b = l ∧ ∃ r : Loop, w.heap[b]? = some (.loop r) ∧ r.state = st ∧ r.pending = pe ∧ r.params = ps ∧ r.assign = asg ∧ r.body = body ∧ r.tmps.size = M ∧ (∀ t, RA g σ.toks w (get T t) (r.tmps.getD t undef)) ∧ (∀ x, x ∈ T.map (·.2) → x.noL = true) ∧
      ∀ st' pe', Inv g { σ with objs := σ.objs.set o (.loop l st' pe' T M ps asg body) } L (w.putObj b (.loop { r with state := st', pending := pe' })) ∧
        Le g σ.toks w g σ.toks (w.putObj b (.loop { r with state := st', pending := pe' })) ∧ ∀ c : Nat, g.K c → (w.putObj b (.loop { r with state := st', pending := pe' })).heap[c]? = w.heap[c]? := by
  obtain ⟨⟨hbl, hnl, hnd⟩, fn, tmps, D, k1, k2, k3⟩ := h.objs o _ b ho hi
  refine ⟨hbl, _, k1, rfl, rfl, rfl, rfl, rfl, k2, k3, hnl, fun st' pe' => ?_⟩
  rw [putObj_setBlk]
  obtain ⟨le, hK⟩ := h.turn (ob := .loop { state := st', pending := pe', fn, tmps, params := ps, assign := asg, body, defers := D }) k1 (.inl (List.mem_of_getElem? hi))
  refine ⟨?_, le, hK⟩
  have ap := h.apart
  have hbm : b ∈ g.io := List.mem_of_getElem? hi
  refine ⟨by simp [h.lio], h.llam, h.ltb, fun n p hp => (h.glob n p hp).mono le.keeps, h.nodup, fun c hc => by rw [setBlk_size]; exact h.low c hc, fun c hc => by rw [setBlk_size]; exact h.kept c hc, by rw [setBlk_size]; exact h.base, fun c o hS => by rw [setBlk_size]; exact h.cells c o hS, fun j ob c ho' hio => ?_, fun j cs' c hL hl => ?_, fun k t tb ht htb => ?_⟩
  · simp only [List.getElem?_set] at ho'
    split at ho'
    · subst_vars
      rw [hi] at hio; cases hio
      split at ho'
      · cases ho'
        exact ⟨⟨rfl, hnl, hnd⟩, fn, tmps, D, setBlk_at k1, rfl, fun t => (k3 t).mono le (fun _ _ h => h)⟩
      · cases ho'
    · refine (h.objs j ob c ho' hio).mono le (fun _ _ h => h) (setBlk_other ?_)
      rintro rfl; exact ‹¬ o = j› (nodup_get ap.1.1 hi hio)
  · refine (h.priv j cs' c hL hl).mono le (fun _ _ h => h) (setBlk_other ?_)
    rintro rfl; exact ap.2.1 _ hbm (List.mem_of_getElem? hl)
  · obtain ⟨cur, h1, h2⟩ := h.toks k t tb ht htb
    refine ⟨cur, (setBlk_other ?_).trans h1, h2⟩
    intro he; exact (ap.2.2 k tb htb).1 (he ▸ hbm)

/-- The record in the store turns. -/
def Store.rec_ (σ : Store) (o l : Nat) (st : LoopState) (pe : Option Code) (T : List (Nat × AV)) (M : Nat) (ps : Array Tmp) (asg body : Code) : Store := { σ with objs := σ.objs.set o (.loop l st pe T M ps asg body) }

theorem RelG.setRec (r : RelG g0 σ0 w0 N g s a w) {o b l : Nat} {st : LoopState} {pe : Option Code} {T : List (Nat × AV)} {ps : Array Tmp} {asg body : Code} (hi : g.io[o]? = some b) (ho : s.σ.objs[o]? = some (.loop l st pe T M ps asg body)) :
    b = l ∧ ∃ r : Loop, w.heap[l]? = some (.loop r) ∧ r.state = st ∧ r.pending = pe ∧
      ∀ st' pe', RelG g0 σ0 w0 N g { s with σ := s.σ.rec_ o l st' pe' T M ps asg body } a (w.putObj l (.loop { r with state := st', pending := pe' })) := by
  obtain ⟨rfl, rc, k1, k2, k3, k4, k5, k6, k7, k8, k9, k10⟩ := r.2.1.setRec hi ho
  refine ⟨rfl, rc, k1, k2, k3, fun st' pe' => ?_⟩
  obtain ⟨j1, j2, j3⟩ := k10 st' pe'
  exact r.later (σ' := s.σ.rec_ o b st' pe' T M ps asg body) (L' := s.L) j2 (fun _ _ h => h) j1 rfl rfl j3 (by rw [World.putObj_size]; exact Nat.le_refl _) rfl rfl rfl

/-- A call of yield. -/
def ACallsY (P : Program) (l : Nat) (args : List AV) (σ : Store) (R : AV → Store → Prop) : Prop :=
  ∀ g w (cargs : List Value), Inv g σ [] w → cargs.length = args.length → (∀ (i : Nat) x v, args[i]? = some x → cargs[i]? = some v → RA g σ.toks w x v) →
    ∃ fn tmps asg body, (Instr.yield l cargs.toArray).run P w = .ok (.round l fn tmps asg body) w ∧
      RoundIn Fence.wide 0 P l fn tmps asg body w fun e w' => ∃ v r σ' g', e = .returned v ∧ R r σ' ∧ Inv g' σ' [] w' ∧ Ext g σ w g' σ' w' ∧ RA g' σ'.toks w' r v

theorem ACallsY.mono {l : Nat} {args : List AV} {R R' : AV → Store → Prop} (h : ACallsY P l args σ R) (k : ∀ r σ', R r σ' → R' r σ') : ACallsY P l args σ R' := by
  intro g w cargs h1 h2 h3
  obtain ⟨fn, tmps, asg, body, k1, k2⟩ := h g w cargs h1 h2 h3
  exact ⟨fn, tmps, asg, body, k1, k2.mono fun _ _ ⟨v, r, σ', g', e1, e2, e3⟩ => ⟨v, r, σ', g', e1, k _ _ e2, e3⟩⟩

theorem ACallsY.args {l : Nat} {xs ys : List AV} {R : AV → Store → Prop} (h : ACallsY P l ys σ R) (hw : WAs xs ys) : ACallsY P l xs σ R := by
  intro g w cargs h1 h2 h3
  obtain ⟨k1, k2⟩ := WAs_get hw
  refine h g w cargs h1 (by rw [h2, k1]) (fun i x v hx hv => ?_)
  have hi : i < xs.length := by rw [k1]; exact (List.getElem?_eq_some_iff.1 hx).1
  exact (h3 i xs[i] v (by simp) hv).wa (k2 i xs[i] x (by simp) hx)

/-- What a round begins with. -/
def argsT (ps : List Tmp) (args : List AV) (T : List (Nat × AV)) : List (Nat × AV) := (ps.zip args).foldl (fun T p => p :: T) T

theorem argsT_rel : ∀ (ps : List Tmp) (args : List AV) (cargs : List Value) (T : List (Nat × AV)) (tmps : Array Value), cargs.length = args.length → tmps.size = N → (∀ p, p ∈ ps → p < N) → (∀ (i : Nat) x v, args[i]? = some x → cargs[i]? = some v → RA g tk w x v) →
    (∀ t, RA g tk w (get T t) (tmps.getD t undef)) →
    ((ps.zip cargs).foldl (fun tmps (p : Tmp × Value) => tmps.setIfInBounds p.1 p.2) tmps).size = N ∧ ∀ t, RA g tk w (get (argsT ps args T) t) (((ps.zip cargs).foldl (fun tmps (p : Tmp × Value) => tmps.setIfInBounds p.1 p.2) tmps).getD t undef)
  | [], args, cargs, T, tmps, _, hN, _, _, h => by simp only [argsT, List.zip_nil_left, List.foldl_nil]; exact ⟨hN, h⟩
  | p :: ps, [], [], T, tmps, _, hN, _, _, h => by simp only [argsT, List.zip_nil_right, List.foldl_nil]; exact ⟨hN, h⟩
  | p :: ps, [], _ :: _, T, tmps, hl, _, _, _, _ => by simp at hl
  | p :: ps, _ :: _, [], T, tmps, hl, _, _, _, _ => by simp at hl
  | p :: ps, x :: args, v :: cargs, T, tmps, hl, hN, hp, hr, h => by
    simp only [argsT, List.zip_cons_cons, List.foldl_cons]
    refine argsT_rel ps args cargs ((p, x) :: T) (tmps.setIfInBounds p v) (by simpa using hl) (by simpa using hN) (fun q hq => hp q (by simp [hq])) (fun i y u hy hu => hr (i + 1) y u (by simpa using hy) (by simpa using hu)) (fun t => ?_)
    simp only [get]
    by_cases e : p = t
    · subst e
      rw [if_pos rfl]
      have : (tmps.setIfInBounds p v).getD p undef = v := by
        simp only [Array.getD_eq_getD_getElem?, Array.getElem?_setIfInBounds]
        have hpN : p < tmps.size := by rw [hN]; exact hp p (by simp)
        simp [hpN]
      rw [this]
      exact hr 0 x v rfl rfl
    · rw [if_neg e]
      have : (tmps.setIfInBounds p v).getD t undef = tmps.getD t undef := by
        simp only [Array.getD_eq_getD_getElem?, Array.getElem?_setIfInBounds]
        rw [if_neg e]
      rw [this]; exact h t

/-- How a round may be left. -/
def RoundEnds (o l : Nat) (R : AV → Store → Prop) (e : Exit) (s : St) : Prop :=
  ∃ pe T M ps asg body, s.σ.objs[o]? = some (.loop l .busy pe T M ps asg body) ∧ match e with
    | .normal => R (.pv (.bool true)) (s.σ.rec_ o l .ready none T M ps asg body)
    | .ret => R (.pv (.bool false)) (s.σ.rec_ o l .done (some .ret) T M ps asg body)
    | .exit id => R (.pv (.bool false)) (s.σ.rec_ o l .done (some (.exit id)) T M ps asg body)
    | .goto t => R (.pv (.bool false)) (s.σ.rec_ o l .done (some (.goto t)) T M ps asg body)
    | _ => False

/-- The loop's left sides have been set: the round begins. -/
def Begun (ρ : Option Nat) (P : Program) (σ0 : Store) (N o l : Nat) (body : Code) (Q : Exit → St → Prop) (s : St) : Prop :=
  ∃ pe T M ps asg bd, s.σ.objs[o]? = some (.loop l .ready pe T M ps asg bd) ∧ AWpR ρ P σ0 N body Q { s with σ := s.σ.rec_ o l .busy pe T M ps asg bd }

def OnlyNormal (next : St → Prop) : Exit → St → Prop
  | .normal, s => next s
  | _, _ => False

theorem acallsY_of {o l : Nat} {pe : Option Code} {T : List (Nat × AV)} {ps : Array Tmp} {asg body : Code} {args : List AV} {R : AV → Store → Prop} (ho : σ.objs[o]? = some (.loop l .ready pe T N ps asg body)) (hlen : args.length = ps.size) (hps : ps.toList.all (fun p => decide (p < N)) = true)
    (h : AWpR (some l) P σ N asg (OnlyNormal (Begun (some l) P σ N o l body (RoundEnds o l R))) ⟨argsT ps.toList args T, [], σ⟩) : ACallsY P l args σ R := by
  intro g w cargs hinv hl hargs
  have hlt : o < g.io.length := by rw [hinv.lio]; exact (List.getElem?_eq_some_iff.1 ho).1
  have hio : g.io[o]? = some g.io[o] := List.getElem?_eq_getElem hlt
  generalize g.io[o] = b at hio
  obtain ⟨rfl, rc, k1, k2, k3, k4, k5, k6, k7, k8, k9, _⟩ := hinv.setRec hio ho
  have hy := run_yield (P := P) (args := cargs.toArray) k1 (by rw [k4, ← hlen, ← hl]; simp)
  rw [k4, k5, k6] at hy
  refine ⟨_, _, _, _, hy, roundIn_of_wpIn trivial ?_⟩
  have hp : ∀ p, p ∈ ps.toList → p < N := fun p hp => by simpa using List.all_eq_true.1 hps p hp
  obtain ⟨j1, j2⟩ := argsT_rel (tk := σ.toks) ps.toList args cargs T rc.tmps hl k7 hp hargs k8
  have hz : (ps.zip cargs.toArray).foldl (fun tmps (t, a) => tmps.setIfInBounds t a) rc.tmps = (ps.toList.zip cargs).foldl (fun tmps (p : Tmp × Value) => tmps.setIfInBounds p.1 p.2) rc.tmps := by
    rw [← Array.foldl_toList, Array.toList_zip]
  rw [hz]
  have hrel : RelG g σ w N g ⟨argsT ps.toList args T, [], σ⟩ { tmps := (ps.toList.zip cargs).foldl (fun tmps (p : Tmp × Value) => tmps.setIfInBounds p.1 p.2) rc.tmps, defers := [] } w :=
    ⟨Ext.refl hinv, hinv, j1, Marks.nil, j2⟩
  refine wpIn_mono (F := wF (some b)) (h g w _ w ⟨g, hrel⟩) ?_
  rintro e a1 w1 ⟨s1, q, g1, r1⟩
  cases e with
  | normal =>
    obtain ⟨pe1, T1, M1, ps1, asg1, bd1, ho1, hb⟩ := q
    obtain ⟨_, rc1, m1, m2, m3, m4⟩ := r1.setRec (r1.1.le.io o b hio) ho1
    refine ⟨_, run_beginRound m1 m2, ?_⟩
    have hrc : ({ rc1 with state := .busy } : Loop) = { rc1 with state := .busy, pending := pe1 } := by rw [← m3]
    rw [hrc]
    refine wpIn_mono (F := wF (some b)) (hb g w a1 _ ⟨g1, m4 .busy pe1⟩) ?_
    rintro e2 a2 w2 ⟨s2, ⟨pe2, T2, M2, ps2, asg2, bd2, ho2, hR⟩, g2, r2⟩
    obtain ⟨_, rc2, n1, n2, n3, n4⟩ := r2.setRec (r2.1.le.io o b hio) ho2
    have fin : ∀ (jump : Option Code), R (.pv (.bool jump.isNone)) (s2.σ.rec_ o b (if jump.isNone then .ready else .done) jump T2 M2 ps2 asg2 bd2) →
        ∃ v w', (Instr.endRound b jump).run P w2 = .ok v w' ∧ ∃ v' r σ' g', Ending.returned v = .returned v' ∧ R r σ' ∧ Inv g' σ' [] w' ∧ Ext g σ w g' σ' w' ∧ RA g' σ'.toks w' r v' := by
      intro jump hR
      have r3 := n4 (if jump.isNone then .ready else .done) jump
      refine ⟨_, _, run_endRound jump n1, _, _, _, { g2 with lam := [] }, rfl, hR, r3.2.1.noPriv, ⟨⟨r3.1.le.B, r3.1.le.keeps, r3.1.le.io, r3.1.le.tok⟩, r3.1.gl, r3.1.K, r3.1.blk, r3.1.size, r3.1.os, r3.1.tape, r3.1.output, r3.1.io0, r3.1.clo0⟩, .pv .bool⟩
    cases e2 with
    | normal => exact fin none hR
    | ret => exact fin (some .ret) hR
    | exit id => exact fin (some (.exit id)) hR
    | goto t => exact fin (some (.goto t)) hR
    | panic => exact hR.elim
    | outgrown => exact hR.elim
  | ret => exact q.elim
  | exit id => exact q.elim
  | goto t => exact q.elim
  | panic => exact q.elim
  | outgrown => exact q.elim

theorem aop_yield {next : St → Prop} {o : Oper} {c : Call} {fo : Operand} {l : Nat} {caps : List AV} (ho : o.op = .call c) (hc : c.callee = .value fo) (hf : ev s fo = .func (.yield l) caps) (hnl : AV.noLs (c.args.toList.map (ev s)) = true) (hd : dstOk N o.dst = true)
    (h : ACallsY P l (c.args.toList.map (ev s)) s.σ fun r σ' => next (({ s with σ := σ' } : St).put o.dst r)) : AOp P σ0 N o next s := by
  rintro g0 w0 a w nx Q ⟨g, r⟩ hnext
  have hfv := r.ev fo
  rw [hf] at hfv
  generalize hv : a.eval fo = fv at hfv
  cases hfv with
  | func hl hr =>
    rename_i vs
    have hnl' := AV.noLs_iff.1 hnl
    obtain ⟨fn, tmps, asg, body, k1, k2⟩ := h _ w (c.args.toList.map a.eval) r.2.1.toCallee (by simp) (fun i x v hx hv => (r.evs c.args.toList i x v hx hv).toCallee (hnl' x (List.mem_of_getElem? hx)) _ _)
    have hargs : (c.args.toList.map a.eval).toArray = c.args.map a.eval := Array.ext' (by simp)
    rw [hargs] at k1
    have hrun : (execOp a.eval o).run P w = .ok (.round l fn tmps asg body) w := by
      simp only [execOp, ho, resolve, hc, hv, Deferred.ofValue, Sem.run_bind, Sem.run_pure, Result.andThen_ok, invoke]
      simpa using k1
    unfold opW
    rw [hrun]
    refine RoundIn.mono k2 ?_
    rintro e w' ⟨v, rr, σ', g', rfl, hR, hinv, hext, hra⟩
    obtain ⟨i1, le1⟩ := r.2.1.fromCallee hinv hext
    have r' := r.later (σ' := σ') (L' := s.L) le1 (fun _ _ h => h) i1 rfl hext.gl (fun b hb => hext.blk b (.inl hb)) hext.size hext.os hext.tape hext.output
    have hg : g' = { g' with lam := [] } := by
      have : g'.lam = [] := List.eq_nil_of_length_eq_zero (by rw [hinv.llam]; rfl)
      cases g'; simp_all
    rw [hg] at hra
    exact hnext _ _ _ hR ⟨_, r'.put (hra.noLam _ _) hd⟩

theorem al_yield {ops : Array Oper} {os : List Oper} {o : Oper} {K : St → Prop} {c : Call} {fo : Operand} {l : Nat} {xs args caps : List AV} {R : AV → Store → Prop} (hg : o.guard = none) (ho : o.op = .call c) (hc : c.callee = .value fo) (hf : ev s fo = .func (.yield l) caps) (h : ACallsY P l args s.σ R)
    (hargs : c.args.toList.map (ev s) = xs) (hw : WAs xs args) (hnl : AV.noLs xs = true) (hd : dstOk N o.dst = true) (k : ∀ r σ', R r σ' → AOpsL P σ0 N ops os K (({ s with σ := σ' } : St).put o.dst r)) : AOpsL P σ0 N ops (o :: os) K s := by
  subst hargs
  exact al_cons hg (aop_yield ho hc hf hnl hd ((h.args hw).mono k))

/-- What a loop's rounds begin with: these slots. -/
def keepT (T : List (Nat × AV)) (slots : List Nat) : List (Nat × AV) := slots.map fun t => (t, get T t)
theorem get_keepT (T : List (Nat × AV)) (t : Nat) : ∀ slots : List Nat, get (keepT T slots) t = if t ∈ slots then get T t else .junk
  | [] => rfl
  | x :: r => by
    have ih := get_keepT T t r
    simp only [keepT, List.map_cons, get] at ih ⊢
    by_cases h : x = t
    · subst h; simp
    · rw [if_neg h, ih]
      simp [Ne.symm h]

/-- How the function that is ranged over may end. -/
def RangeEnds (P : Program) (σ0 : Store) (N : Nat) (o l : Nat) (Q : Exit → St → Prop) (s : St) (σ' : Store) : Prop :=
  ∃ st pe T M ps asg body, σ'.objs[o]? = some (.loop l st pe T M ps asg body) ∧ st ≠ .busy ∧
    match pe with
    | none => Q .normal { s with σ := σ'.rec_ o l .exhausted none T M ps asg body }
    | some c => AWp P σ0 N c Q { s with σ := σ'.rec_ o l .exhausted (some c) T M ps asg body }

theorem Inv.addK (h : Inv g σ L w) {D : Nat} (f : Fresh g w D) : Inv { g with K := fun b => g.K b ∨ b = D } σ L w ∧ Le g σ.toks w { g with K := fun b => g.K b ∨ b = D } σ.toks w := by
  have le : Le g σ.toks w { g with K := fun b => g.K b ∨ b = D } σ.toks w := ⟨rfl, Keeps.refl _ _ _, fun _ _ h => h, fun _ t h => ⟨t, h, rfl, rfl, Nat.le_refl _, fun _ => rfl⟩⟩
  refine ⟨⟨h.lio, h.llam, h.ltb, h.glob, h.nodup, fun b hb => ⟨(h.low b hb).1, (h.low b hb).2.1, ?_⟩, fun b hb => ?_, h.base, h.cells, fun o ob b ho hio => (h.objs o ob b ho hio).mono le (fun _ _ h => h) rfl, fun i cs b hL hl => (h.priv i cs b hL hl).mono le (fun _ _ h => h) rfl, h.toks⟩, le⟩
  · rintro (hK | rfl)
    · exact (h.low b hb).2.2 hK
    · exact f.own hb
  · rcases hb with hb | rfl
    · exact h.kept b hb
    · exact ⟨f.lt, f.S⟩

theorem awp_rangeFunc {Q : Exit → St → Prop} {gop : Operand} {ps : Array Tmp} {asg body : Code} {gf : FuncId} {caps : List AV} (slots : List Nat) (hg : ev s gop = .func (.func gf) caps) (hca : Callable P gf) (hnl : AV.noLs caps = true) (hT : (keepT s.T slots).all (fun p => p.2.noL) = true) (hnd : slots.Nodup)
    (h : ∀ l : Nat, ACalls P gf (.func (.yield l) [] :: caps) { s.σ with objs := s.σ.objs ++ [.loop l .ready none (keepT s.T slots) N ps asg body] } fun _ σ' => RangeEnds P σ0 N s.σ.objs.length l Q s σ') :
    AWp P σ0 N (.rangeFunc gop ps asg body) Q s := by
  rintro g0 w0 a w ⟨g, r⟩
  have hgv := r.ev gop
  rw [hg] at hgv
  generalize hv : a.eval gop = gv at hgv
  obtain ⟨D, hD⟩ : ∃ D, D = w.heap.size := ⟨_, rfl⟩
  obtain ⟨r1, f1⟩ := r.alloc (.deferred (some []))
  rw [← hD] at f1
  obtain ⟨i2, le2⟩ := r1.2.1.addK f1
  have hDn : ¬ g.K D := f1.K
  obtain ⟨Ds, d1, d2, d3⟩ := r1.2.2.2.1
  have hDh : (w.alloc (.deferred (some []))).heap[D]? = some (.deferred (some [])) := by rw [hD]; exact heap_alloc_at w _
  have r2 : RelG g0 σ0 w0 N { g with K := fun b => g.K b ∨ b = D } s { a with defers := { target := .collected D, args := #[] } :: a.defers } (w.alloc (.deferred (some []))) := by
    refine ⟨⟨r1.1.le.trans le2, r1.1.gl, fun b hb => .inl (r1.1.K b hb), r1.1.blk, r1.1.size, r1.1.os, r1.1.tape, r1.1.output, r1.1.io0, r1.1.clo0⟩, i2, r1.2.2.1, ⟨D :: Ds, by simp [d1], List.nodup_cons.2 ⟨fun hm => hDn (d3 D hm).1, d2⟩, fun D' hD' => ?_⟩, fun t => (r1.2.2.2.2 t).mono le2 fun _ _ h => h⟩
    rcases List.mem_cons.1 hD' with rfl | hD'
    · exact ⟨.inr rfl, fun h0 => hDn (r1.1.K _ h0), f1.low, hDh⟩
    · have := d3 D' hD'
      exact ⟨.inl this.1, this.2⟩
  obtain ⟨l, hl⟩ : ∃ l, l = w.heap.size + 1 := ⟨_, rfl⟩
  have hl1 : l = (w.alloc (.deferred (some []))).heap.size := by rw [hl]; simp
  refine wpIn_rangeFunc (F := wF none) ?_
  intro fn _
  obtain ⟨rec, hrec⟩ : ∃ rec : Loop, rec = { state := .ready, pending := none, fn, tmps := a.tmps, params := ps, assign := asg, body, defers := w.heap.size } := ⟨_, rfl⟩
  obtain ⟨r3, f3⟩ := r2.alloc (.loop rec)
  rw [← hl1] at f3
  have hTn : ∀ x, x ∈ (keepT s.T slots).map (·.2) → x.noL = true := by
    intro x hx
    obtain ⟨p, hp, rfl⟩ := List.mem_map.1 hx
    exact List.all_eq_true.1 hT p hp
  have hob : RObj { g with K := fun b => g.K b ∨ b = D } s.σ.toks ((w.alloc (.deferred (some []))).alloc (.loop rec)) l (.loop l .ready none (keepT s.T slots) N ps asg body) := by
    refine ⟨⟨rfl, hTn, by simpa [keepT, List.map_map, Function.comp_def] using hnd⟩, fn, a.tmps, w.heap.size, by rw [hl1, ← hrec]; exact heap_alloc_at _ _, r.2.2.1, fun t => ?_⟩
    rw [get_keepT]
    split
    · exact r3.2.2.2.2 t
    · exact .junk
  have r4 := r3.addObj f3 hob
  obtain ⟨W1, hW1⟩ : ∃ W1, W1 = (w.alloc (.deferred (some []))).alloc (.loop rec) := ⟨_, rfl⟩
  cases hgv with
  | func hl' hr' =>
    rename_i vs
    obtain ⟨fn', h1, h2, h3⟩ := hca
    have hargs : #[Value.func (.yield l) #[] #[]] ++ vs.toArray = (Value.func (.yield l) #[] #[] :: vs).toArray := Array.ext' (by simp)
    refine ⟨l, [{ target := .collected w.heap.size, args := #[] }], W1, { target := .fn (.func gf) vs.toArray, args := #[.func (.yield l) #[] #[]] }, W1, gf, #[.func (.yield l) #[] #[]] ++ vs.toArray, W1, by rw [hl, hW1, hrec]; exact run_enterLoop_outer _ _ _ _ _, ?_, fun _ _ => trivial, ?_, fun hh => (by cases hh), ?_⟩
    · simp only [resolve, rangeCall, hv, Deferred.ofValue, Sem.run_bind, Sem.run_pure, Result.andThen_ok]
      simp [go_sem]
    · simp only [invoke, callFunc, Sem.run_bind, Sem.run_pure, Result.andThen_ok, run_program, h1, h2, h3]
      simp
    · rw [← hD, hargs, hW1]
      have hnl' := AV.noLs_iff.1 hnl
      have hle : Le g s.σ.toks w { g with K := fun b => g.K b ∨ b = D, io := g.io ++ [l] } (s.σ.toks) ((w.alloc (.deferred (some []))).alloc (.loop rec)) := by
        have e1 := (r.2.1.alloc (.deferred (some []))).2
        have e2 := (r2.2.1.alloc (.loop rec)).2
        exact (e1.trans le2).trans (e2.trans (r3.2.1.addObj f3 hob).2)
      refine CallsIn.mono (F := wF none) (show CallsIn Fence.wide (0 - 1) P gf _ _ _ from callsIn_wide.2 (h l _ _ (Value.func (.yield l) #[] #[] :: vs) r4.2.1.toCallee (by simp [hl']) (fun i x v hx hv => ?_))) ?_
      · cases i with
        | zero => simp at hx hv; subst hx; subst hv; exact .func (vs := []) rfl (fun i x v hx hv => by simp at hx)
        | succ i =>
          simp only [List.getElem?_cons_succ] at hx hv
          exact ((hr' i x v hx hv).mono hle (fun _ _ h => h)).toCallee (hnl' x (List.mem_of_getElem? hx)) _ _
      · rintro e w' ⟨v, rr, σ', g', rfl, ⟨st, pe, T', M', ps', asg', body', ho, hst, hk⟩, hinv, hext, hra⟩
        obtain ⟨i1, le1⟩ := r4.2.1.fromCallee hinv hext
        have r5 := r4.later (σ' := σ') (L' := s.L) le1 (fun _ _ h => h) i1 rfl hext.gl (fun b hb => hext.blk b (.inl hb)) hext.size hext.os hext.tape hext.output
        have hio : g'.io[s.σ.objs.length]? = some l := by
          refine hext.le.io _ _ ?_
          show (g.io ++ [l])[s.σ.objs.length]? = some l
          rw [← r.2.1.lio]; simp
        obtain ⟨_, rc, n1, n2, n3, n4⟩ := r5.setRec (s := { s with σ := σ' }) hio ho
        have hend := run_endLoop (P := P) n1 (by rw [n2]; exact hst)
        rw [n3] at hend
        have r6 := n4 .exhausted pe
        refine ⟨pe, _, hend, ?_⟩
        cases pe with
        | none => exact ⟨_, hk, _, r6⟩
        | some c => exact hk g0 w0 _ _ ⟨_, r6⟩

/-! ### loops whose store is told by what holds of it -/
structure WeakJ (s s2 : St) : Prop where
  σ : s2.σ = s.σ
  L : s2.L = s.L
  T : ∀ p, p ∈ s2.T → WA (get s.T p.1) p.2

theorem get_wa {T T2 : List (Nat × AV)} {a : Act} (h : ∀ t, RA g tk w (get T t) (a.tmps.getD t undef)) (hw : ∀ p, p ∈ T2 → WA (get T p.1) p.2) : ∀ t, RA g tk w (get T2 t) (a.tmps.getD t undef) := by
  intro t
  induction T2 with
  | nil => exact .junk
  | cons q r ih =>
    obtain ⟨d, v⟩ := q
    simp only [get]
    by_cases hd : d = t
    · subst hd
      rw [if_pos rfl]
      exact (h d).wa (hw (d, v) (by simp))
    · rw [if_neg hd]
      exact ih (fun p hp => hw p (by simp [hp]))

theorem WeakJ.rel {s2 : St} (h : WeakJ s s2) (r : RelG g0 σ0 w0 N g s a w) : RelG g0 σ0 w0 N g s2 a w := by
  obtain ⟨T2, L2, σ2⟩ := s2
  obtain ⟨h1, h2, h3⟩ := h
  simp only at h1 h2 h3
  subst h1 h2
  exact ⟨r.1, r.2.1, r.2.2.1, r.2.2.2.1, get_wa r.2.2.2.2 h3⟩

def NextJ {ι : Type} (S : ι → St) (I : ι → Prop) (μ : ι → Nat) (i : ι) (s' : St) : Prop := ∃ j, I j ∧ μ j < μ i ∧ WeakJ s' (S j)

theorem awp_loop_famJ {c : Code} {Q : Exit → St → Prop} {ι : Type} (S : ι → St) (I : ι → Prop) (μ : ι → Nat) (i0 : ι) (hi0 : I i0) (h0 : WeakJ s (S i0))
    (round : ∀ i, I i → AWpR ρ P σ0 N c (Then (NextJ S I μ i) Q) (S i)) : AWpR ρ P σ0 N (.loop c) Q s := by
  rintro g0 w0 a w ⟨g, r⟩ b k cs hro hb hr
  have key : ∀ n i, μ i = n → I i → ∀ a w, Rel g0 σ0 w0 N (S i) a w →
      ∃ e a' w', lift g0 σ0 w0 N Q e a' w' ∧ ArrivesIn (Machine.fenced P (wF ρ)) P (lone (b.atR a (.code c :: .inLoop c :: k)) cs w) b k cs e a' w' := by
    intro n
    induction n using Nat.strongRecOn with
    | _ n ih =>
      intro i hn hI a w r
      obtain ⟨e, a₁, w₁, ⟨s₁, hq, r₁⟩, harr⟩ := round i hI g0 w0 a w r b (.inLoop c :: k) cs hro hb hr
      cases e with
      | normal =>
        obtain ⟨j, hj, hlt, hw⟩ := hq
        obtain ⟨g₁, r₁⟩ := r₁
        obtain ⟨e₂, a₂, w₂, hq₂, harr₂⟩ := ih (μ j) (hn ▸ hlt) j rfl hj a₁ w₁ ⟨_, hw.rel r₁⟩
        exact ⟨e₂, a₂, w₂, hq₂, .of_steps (StepsIn.trans harr (.one (fenced_calm hb hr rfl) stepR_inLoop)) harr₂⟩
      | exit id => exact ⟨_, a₁, w₁, ⟨s₁, hq, r₁⟩, .pass (x := .inLoop c) rfl (fun _ _ => .inl (by simp)) harr⟩
      | goto l => exact ⟨_, a₁, w₁, ⟨s₁, hq, r₁⟩, .pass (x := .inLoop c) rfl (fun _ _ => .inl (by simp)) harr⟩
      | ret => exact ⟨_, a₁, w₁, ⟨s₁, hq, r₁⟩, .pass (x := .inLoop c) rfl (fun _ _ => .inl (by simp)) harr⟩
      | panic ch => exact ⟨_, a₁, w₁, ⟨s₁, hq, r₁⟩, .pass (x := .inLoop c) rfl (fun _ _ => .inl (by simp)) harr⟩
      | outgrown => exact ⟨_, a₁, w₁, ⟨s₁, hq, r₁⟩, .pass (x := .inLoop c) rfl (fun _ _ => .inl (by simp)) harr⟩
  obtain ⟨e, a', w', hq, harr⟩ := key _ i0 rfl hi0 a w ⟨_, h0.rel r⟩
  exact ⟨e, a', w', hq, .of_steps (.one (fenced_calm hb hr rfl) stepR_loop) harr⟩

theorem awp_loop_headJ {c : Code} {Q : Exit → St → Prop} {ι : Type} (keep : List Nat) (m : ι → List (Nat × AV)) (σf : ι → Store) (I : ι → Prop) (μ : ι → Nat) (i0 : ι) (hi0 : I i0) (h0 : WeakJ s (headK s keep (m i0) s.L (σf i0)))
    (round : ∀ i, I i → AWpR ρ P σ0 N c (Then (NextJ (fun i => headK s keep (m i) s.L (σf i)) I μ i) Q) (headK s keep (m i) s.L (σf i))) : AWpR ρ P σ0 N (.loop c) Q s :=
  awp_loop_famJ (fun i => headK s keep (m i) s.L (σf i)) I μ i0 hi0 h0 round

attribute [go_sem] argsT Store.rec_
end
end Go.Aw

/- Layer 17 (four): what Main, Labels, Def, Calls, Same give. No program is named. -/
namespace Go.Aw
open Go
def pars (d : D) : List ByteArray := textsL (d1 d.kids).kids
theorem namesGo_texts : ∀ {l : List D} {acc ns : List ByteArray}, namesGo acc l = some ns → ns = acc ++ textsL l
  | [], acc, ns, h => by simp [namesGo] at h; subst h; simp [textsL]
  | x :: l, acc, ns, h => by
    rw [namesGo] at h
    split at h
    · cases h
    · split at h
      · cases h
      · rw [namesGo_texts h]; simp [textsL]
theorem names_texts {d : D} {ns : List ByteArray} (h : names d = some ns) : ns = textsL d.kids := by
  unfold names at h
  split at h
  · cases h
  · have := namesGo_texts h
    simpa using this
theorem dlist_kids (l : List D) : (dlist l).kids = l := rfl
end Go.Aw

/- Layer 17 (five): the program's answers and the specification's. No program is named. -/
namespace Go.Aw
open Go
section
variable {p d : D} (R : Right p)
include R
theorem Right.no : (fcheck p != 0) = false := by rw [R.chk]; rfl
theorem Right.rdefs : rdefs p = p.kids.map toDf := by unfold Aw.rdefs; rw [if_neg (by rw [R.no]; decide)]
theorem Right.df (hd : d ∈ p.kids) : ∃ x0 x1 x2 ns, d.kids = [x0, x1, x2] ∧ names x1 = some ns ∧ toDf d = ⟨x0, ns, x2⟩ ∧ d.head = x0 ∧ pars d = ns ∧ d2 d.kids = x2 ∧ ns.length ≤ 8 := by
  obtain ⟨x0, x1, x2, ns, hk, _, _, hn, h8⟩ := R.def hd
  refine ⟨x0, x1, x2, ns, hk, hn, toDf_of hk hn, head_cons hk, ?_, by rw [hk]; rfl, h8⟩
  unfold pars
  rw [show d1 d.kids = x1 by rw [hk]; rfl, names_texts hn]
theorem Right.len : (Aw.rdefs p).length ≤ 4000 := by rw [R.rdefs, List.length_map]; exact (heads_ok R.heads).2.2.2.1
theorem Right.size : (fSize p).1 = ((((Aw.rdefs p).map fun d => fsize d.bod).sum : Nat) : Int) := by
  unfold fSize
  rw [if_neg (by rw [R.no]; decide), R.rdefs, List.map_map]
  rfl
end
end Go.Aw

/- Layer 17's specification (six): calls, what is reached. No program is named. -/
namespace Go.Aw
open Go
theorem deq_kq {a b : D} (ha : isLabel a = true) (hb : isLabel b = true) (fa : formed a = true) (fb : formed b = true) : deq a b = kq b a := by
  cases hq : kq b a with
  | true => rw [label_eq hb ha fb fa hq, deq_refl]
  | false =>
    cases hd : deq a b with
    | false => rfl
    | true => rw [deq_of hd, kq_refl] at hq; cases hq

/-! ### calls -/
def cstep (out : List D) (e : D) : List D := if (isCall e && !(out.any fun y => deq y (d1 e.kids))) = true then out ++ [d1 e.kids] else out
def crK (d : D) (k : Nat) : List D := ((exprsL d).take k).foldl cstep []
theorem crK_all {d : D} : crK d (exprsL d).length = (exprsL d).foldl cstep [] := by unfold crK; rw [List.take_length]
structure CI (st : CS) : Prop where
  lab : ∀ y, y ∈ st.1 → isLabel y = true ∧ formed y = true
  seen : ∀ f, isLabel f = true → formed f = true → seenB st.2 f = st.1.any fun y => deq y f
theorem callStep_ci {d : D} (hg : GoodE d) {st : CS} (h : CI st) : (callStep d st).1 = cstep st.1 d ∧ CI (callStep d st) := by
  unfold callStep cstep
  cases hc : isCall d with
  | false => simp only [Bool.false_and, Bool.false_eq_true, if_false]; exact ⟨trivial, h⟩
  | true =>
    obtain ⟨_, hl, hf⟩ := hg.label hc
    rw [h.seen _ hl hf]
    cases hs : st.1.any fun y => deq y (d1 d.kids) with
    | true => simp only [Bool.not_true, Bool.and_false, Bool.false_eq_true, if_false]; exact ⟨trivial, h⟩
    | false =>
      simp only [Bool.not_false, Bool.and_self, if_true]
      refine ⟨trivial, ⟨fun y hy => ?_, fun f h1 h2 => ?_⟩⟩
      · simp only [List.mem_append, List.mem_singleton] at hy
        rcases hy with hy | rfl
        · exact h.lab y hy
        · exact ⟨hl, hf⟩
      · rw [seenB_kset, h.seen f h1 h2, List.any_append]
        simp only [List.any_cons, List.any_nil, Bool.or_false]
        rw [deq_kq hl h1 hf h2, Bool.or_comm]
theorem calls_fold : ∀ {d : D} {st : CS}, GoodE d → CI st → (callsD d st).1 = (exprsL d).foldl cstep st.1 ∧ CI (callsD d st) := by
  intro d
  induction d using D.ind with
  | _ k n t l ih =>
    intro st hg hc
    have hf : ∀ (r : List D) (st : CS), (∀ x, x ∈ r → x ∈ parts (.mk k n t l)) → CI st → (r.foldl (fun st x => callsD x st) st).1 = (r.flatMap exprsL).foldl cstep st.1 ∧ CI (r.foldl (fun st x => callsD x st) st) := by
      intro r
      induction r with
      | nil => intro st _ h; exact ⟨rfl, h⟩
      | cons x r ihr =>
        intro st hm h
        have h1 := ih x (parts_mem (hm x (by simp))) (st := st) (hg.part (hm x (by simp))) h
        have h2 := ihr (callsD x st) (fun y hy => hm y (by simp [hy])) h1.2
        rw [List.foldl_cons, List.flatMap_cons, List.foldl_append, ← h1.1]
        exact h2
    have h1 := callStep_ci hg hc
    have h2 := hf (parts (.mk k n t l)) (callStep (.mk k n t l) st) (fun _ h => h) h1.2
    rw [callsD_eq, exprsL_eq, List.foldl_cons, ← h1.1]
    exact h2
theorem ci_nil : CI ([], []) := ⟨fun y hy => by simp at hy, fun f _ _ => rfl⟩
theorem crK_calls {d : D} (hg : GoodE d) : crK d (exprsL d).length = callsOf d := by rw [crK_all]; exact (calls_fold hg ci_nil).1.symm
theorem callsOf_lab {d : D} (hg : GoodE d) : ∀ y, y ∈ callsOf d → isLabel y = true ∧ formed y = true := (calls_fold hg ci_nil).2.lab
section
variable {p x : D} (R : Right p)
include R
theorem Right.findI (hx : x ∈ p.kids) : 0 ≤ findI (Aw.rdefs p) x.head ∧ (Aw.rdefs p)[(Aw.findI (Aw.rdefs p) x.head).toNat]? = some (toDf x) := by
  have hfind : (Aw.rdefs p).find? (fun d => deq d.lab x.head) = some (toDf x) := by
    rw [R.rdefs]
    have hs := find_self R.apart hx
    have key : ∀ l : List D, (∀ d, d ∈ l → d ∈ p.kids) → (l.map toDf).find? (fun d => deq d.lab x.head) = (l.find? fun d => deq d.head x.head).map toDf := by
      intro l
      induction l with
      | nil => intro _; rfl
      | cons y l ih =>
        intro hl
        obtain ⟨x0, x1, x2, ns, hkk, hn, ht, hh, _⟩ := R.df (hl y (by simp))
        rw [List.map_cons, List.find?_cons, List.find?_cons, ih fun d hd => hl d (by simp [hd])]
        have e : deq (toDf y).lab x.head = deq y.head x.head := by rw [ht, hh]
        rw [e]
        cases deq y.head x.head <;> rfl
    rw [key _ fun _ h => h, hs]; rfl
  have hn : ¬ Aw.findI (Aw.rdefs p) x.head < 0 := fun h => by
    have := idxOf_neg h
    rw [hfind] at this; cases this
  obtain ⟨h0, d, h1, h2⟩ := idxOf_get hn
  rw [hfind] at h2
  cases h2
  exact ⟨h0, h1⟩
end
end Go.Aw
namespace Go.Aw
open Go
section
variable {p y0 : D} (R : Right p)
include R
theorem Right.first : ∃ y0, (Aw.rdefs p)[0]? = some (toDf y0) ∧ rst p 0 = ([y0], [(y0.head, true)]) ∧ (toDf y0).lab = y0.head := by
  obtain ⟨y, r, hk⟩ := kids_cons R.ne
  obtain ⟨x0, x1, x2, ns, hkk, hns, htd, hxh, _⟩ := R.df (d := y) (by rw [hk]; simp)
  refine ⟨y, by rw [R.rdefs, hk]; rfl, ?_, by rw [htd, hxh]⟩
  show ([p.head], [(p.head.head, true)]) = _
  rw [head_cons hk]
end
end Go.Aw

/- Layer 17 (seven): definitions by their labels, what the program says of them and what the specification. No program is named. -/
namespace Go.Aw
open Go
section
variable {p f : D}
variable (R : Right p)
include R
theorem Right.find_map : (Aw.rdefs p).find? (fun d => deq d.lab f) = (p.kids.find? fun d => deq d.head f).map toDf := by
  rw [R.rdefs]
  have key : ∀ l : List D, (∀ d, d ∈ l → d ∈ p.kids) → (l.map toDf).find? (fun d => deq d.lab f) = (l.find? fun d => deq d.head f).map toDf := by
    intro l
    induction l with
    | nil => intro _; rfl
    | cons y l ih =>
      intro hl
      obtain ⟨x0, x1, x2, ns, hkk, hn, ht, hh, _⟩ := R.df (hl y (by simp))
      rw [List.map_cons, List.find?_cons, List.find?_cons, ih fun d hd => hl d (by simp [hd])]
      have e : deq (toDf y).lab f = deq y.head f := by rw [ht, hh]
      rw [e]
      cases deq y.head f <;> rfl
  exact key _ fun _ h => h
theorem Right.find_none (h : Aw.findI (Aw.rdefs p) f < 0) : (findD p.kids f).2 = false := by
  have h1 := idxOf_neg h
  rw [R.find_map] at h1
  unfold findD
  cases he : p.kids.find? fun d => deq d.head f with
  | none => rfl
  | some y => rw [he] at h1; cases h1
end
end Go.Aw

/- Layer 17's specification (eight): other labels, canonical forms, programs as data. No program is named. -/
namespace Go.Aw
open Go
/-! ### the index of a label -/
end Go.Aw

/- Layer 17 (nine): joined programs, by the specification. No program is named. -/
namespace Go.Aw
open Go
/-! ### definitions as data are themselves -/
theorem formed_list {d : D} (h : formed d = true) (hk : d.kind = 3) : d.num = 0 ∧ d.text = es := by
  rw [formed_eq, if_neg (by rw [hk]; decide), if_neg (by rw [hk]; decide), if_pos (by rw [hk]; rfl)] at h
  simp only [Bool.and_eq_true, beq_iff_eq, decide_eq_true_eq] at h
  exact ⟨h.1.1, h.1.2⟩
theorem namesGo_kinds : ∀ {l : List D} {acc ns : List ByteArray}, namesGo acc l = some ns → ∀ x, x ∈ l → isName x = true
  | [], acc, ns, _, x, hx => by simp at hx
  | y :: l, acc, ns, h, x, hx => by
    rw [namesGo] at h
    split at h
    · cases h
    · rename_i hy
      split at h
      · cases h
      · rcases List.mem_cons.1 hx with rfl | hx
        · simpa using hy
        · exact namesGo_kinds h x hx
theorem names_some {d : D} {ns : List ByteArray} (h : names d = some ns) : d.kind = 3 ∧ (∀ x, x ∈ d.kids → x.kind = 2) := by
  unfold names at h
  split at h
  · cases h
  · rename_i hk
    refine ⟨by simpa using hk, fun x hx => ?_⟩
    have := namesGo_kinds h x hx
    unfold isName at this
    simp only [Bool.and_eq_true, beq_iff_eq] at this
    exact this.1
section
variable {p d : D} (R : Right p)
include R
end
section
variable {p q x : D} {k : Nat} (R : Right p) (S : Right q)
end
end Go.Aw
namespace Go.Aw
open Go
end Go.Aw

/- Layer 17 (ten): what is reached is closed; the specification's canonical form is the program's. No program is named. -/
namespace Go.Aw
open Go
/-! ### what is reached is closed under calls -/
theorem reachStep_prefix {m : List (D × D)} {st : CS} {f : D} : st.1 <+: (reachStep m st f).1 := by
  unfold reachStep; split
  · exact List.prefix_append _ _
  · exact List.prefix_refl _
theorem fold_prefix {m : List (D × D)} : ∀ (fs : List D) (st : CS), st.1 <+: (fs.foldl (reachStep m) st).1
  | [], st => List.prefix_refl _
  | f :: fs, st => by rw [List.foldl_cons]; exact reachStep_prefix.trans (fold_prefix fs _)
theorem rst_prefix1 (p : D) (k : Nat) : (rst p k).1 <+: (rst p (k + 1)).1 := by
  cases h : (rst p k).1[k]? with
  | none =>
    have : rst p (k + 1) = rst p k := by
      unfold rst at h ⊢
      rw [rstK, h]
    rw [this]; exact List.prefix_refl _
  | some x => rw [rst_next h]; exact fold_prefix _ _
theorem rst_prefix (p : D) (k : Nat) : ∀ j, (rst p k).1 <+: (rst p (k + j)).1
  | 0 => List.prefix_refl _
  | j + 1 => (rst_prefix p k j).trans (rst_prefix1 p (k + j))
theorem reachStep_seen {m : List (D × D)} {st : CS} {f g : D} (h : seenB st.2 g = true) : seenB (reachStep m st f).2 g = true := by
  unfold reachStep; split
  · show seenB (kset st.2 f true) g = true
    rw [seenB_kset, h, Bool.or_true]
  · exact h
theorem fold_seen {m : List (D × D)} : ∀ (fs : List D) (st : CS) (g : D), seenB st.2 g = true → seenB (fs.foldl (reachStep m) st).2 g = true
  | [], st, g, h => h
  | f :: fs, st, g, h => by rw [List.foldl_cons]; exact fold_seen fs _ g (reachStep_seen h)
theorem fold_sees {m : List (D × D)} : ∀ (fs : List D) (st : CS) (g : D), g ∈ fs → seenB (fs.foldl (reachStep m) st).2 g = true
  | [], st, g, h => by simp at h
  | f :: fs, st, g, h => by
    rw [List.foldl_cons]
    rcases List.mem_cons.1 h with rfl | h
    · refine fold_seen fs _ g ?_
      unfold reachStep
      split
      · show seenB (kset st.2 g true) g = true
        rw [seenB_kset, kq_refl, Bool.true_or]
      · rename_i hs; simpa using hs
    · exact fold_sees fs _ g h
section
variable {p x f : D} (R : Right p)
include R
theorem Right.reach_apart : Apart (reach p) := (rst_inv R _).apart
theorem Right.closed (hx : x ∈ reach p) (hf : f ∈ callsOf (d2 x.kids)) : ∃ e, e ∈ reach p ∧ kq f e.head = true := by
  obtain ⟨k, hk, hxk⟩ := List.getElem_of_mem hx
  have hlen : (reach p).length ≤ p.kids.length := (rst_inv R _).len
  have hx' : (reach p)[k]? = some x := by rw [List.getElem?_eq_getElem hk, hxk]
  have hkn : k + (p.kids.length - k) = p.kids.length := by omega
  have hlt : k < (rst p k).1.length := by
    refine Decidable.byContradiction fun h => ?_
    have := reach_done (p := p) (k := k) (by omega) (by omega)
    rw [this] at hk; omega
  have hpre := rst_prefix p k (p.kids.length - k)
  rw [hkn] at hpre
  have hxr : (rst p k).1[k]? = some x := by
    obtain ⟨t, ht⟩ := hpre
    have : (reach p)[k]? = ((rst p k).1 ++ t)[k]? := by unfold reach; rw [ht]
    rw [this, List.getElem?_append_left hlt] at hx'
    exact hx'
  have hs := fold_sees (m := defsL p.kids) (callsOf (d2 x.kids)) (rst p k) f hf
  rw [← rst_next hxr, (rst_inv R (k + 1)).seen] at hs
  obtain ⟨e, he, hq⟩ := List.any_eq_true.1 hs
  have hkl : k + 1 ≤ p.kids.length := by omega
  have hpre2 := rst_prefix p (k + 1) (p.kids.length - (k + 1))
  rw [show k + 1 + (p.kids.length - (k + 1)) = p.kids.length by omega] at hpre2
  exact ⟨e, hpre2.subset he, hq⟩
end
/-! ### where labels stand -/
theorem atK_kpar {l : List D} (h : Apart l) : ∀ (k : Nat), k ≤ l.length → ∀ (i : Nat) (e f : D), i < k → l[i]? = some e → kq f e.head = true → kpar (atK l k) f = ((i : Int), true)
  | 0, _, i, e, f, hi, _, _ => by omega
  | k + 1, hk, i, e, f, hi, he, hq => by
    obtain ⟨x, hx, _⟩ := get_lt (l := l) (k := k) (by omega)
    rw [atK_next hx, kpar_kset]
    by_cases hik : i = k
    · subst hik
      rw [hx] at he; cases he
      rw [if_pos hq]
    · have hne : kq f x.head = false := by
        cases hc : kq f x.head with
        | false => rfl
        | true =>
          have h1 := List.pairwise_iff_getElem.1 h i k (by omega) (by omega) (by omega)
          have e1 : l[i]'(by omega) = e := (List.getElem?_eq_some_iff.1 he).2
          have e2 : l[k]'(by omega) = x := (List.getElem?_eq_some_iff.1 hx).2
          rw [e1, e2] at h1
          rw [kq_trans (kq_symm hq) hc] at h1; cases h1
      rw [if_neg (by rw [hne]; decide)]
      exact atK_kpar h k (by omega) i e f (by omega) he hq
theorem atL_kpar {l : List D} (h : Apart l) {i : Nat} {e f : D} (he : l[i]? = some e) (hq : kq f e.head = true) : kpar (atL l) f = ((i : Int), true) := by
  rw [← atK_all]
  exact atK_kpar h l.length (Nat.le_refl _) i e f (List.getElem?_eq_some_iff.1 he).1 he hq

/-! ### the same labels, the same expression -/
theorem cstep_mem {f : D} : ∀ {l : List D} {out : List D}, f ∈ out → f ∈ l.foldl cstep out
  | [], _, h => h
  | e :: l, out, h => by
    rw [List.foldl_cons]
    refine cstep_mem ?_
    unfold cstep; split
    · exact List.mem_append_left _ h
    · exact h
theorem cstep_call {y : D} : ∀ {l : List D} {out : List D}, y ∈ l → isCall y = true → d1 y.kids ∈ l.foldl cstep out
  | [], _, h, _ => by simp at h
  | e :: l, out, h, hc => by
    rw [List.foldl_cons]
    rcases List.mem_cons.1 h with rfl | h
    · refine cstep_mem ?_
      unfold cstep
      rw [hc, Bool.true_and]
      split
      · simp
      · rename_i hs
        simp only [Bool.not_eq_true', Bool.not_eq_false] at hs
        obtain ⟨z, hz, hq⟩ := List.any_eq_true.1 hs
        rw [← deq_of hq]; exact hz
    · exact cstep_call h hc
theorem callsOf_call {d y : D} (hg : GoodE d) (hy : y ∈ exprsL d) (hc : isCall y = true) : d1 y.kids ∈ callsOf d := by
  rw [← crK_calls hg, crK_all]; exact cstep_call hy hc
section
variable {p x : D} (R : Right p)
include R
end
end Go.Aw
namespace Go.Aw
open Go
section
variable {p : D} (R : Right p)
include R
end
end Go.Aw

/- Programs of layer 17 whose labels are renamed: their expressions, what they call, what is reached, that they are right, and that their canonical form is the same. No program is named. -/
namespace Go.Aw
open Go
/-- An expression with other labels. -/
abbrev rnE (L : D → D) (d : D) : D := rexpr L id false d

/-- The shape of a list that is an expression, and of the same with other labels. -/
theorem rexpr_shape {d : D} (lab nm : D → D) (bare : Bool) (hok : okE d = true) (hk : d.kind = 3) :
    (d.head.text = sQuote ∧ parts d = [] ∧ rexpr lab nm bare d = d) ∨
    (∃ x r, d.head.text = sLet ∧ d.kids = d.head :: x :: r ∧ parts d = r ∧ rexpr lab nm bare d = dlist (d.head :: nm x :: r.map (rexpr lab nm bare))) ∨
    (∃ x r, d.head.text = sCall ∧ d.kids = d.head :: x :: r ∧ parts d = r ∧ rexpr lab nm bare d = dlist ((if bare = true then [lab x] else [d.head, lab x]) ++ r.map (rexpr lab nm bare))) ∨
    (∃ r, d.head.text ≠ sQuote ∧ d.head.text ≠ sLet ∧ d.head.text ≠ sCall ∧ d.kids = d.head :: r ∧ parts d = r ∧ rexpr lab nm bare d = dlist (d.head :: r.map (rexpr lab nm bare))) := by
  obtain ⟨hne, h2, _⟩ := okE_list hok hk
  obtain ⟨x0, r, hx⟩ := kids_cons hne
  have hh := head_cons hx
  have e3 : (d.kind != 3) = false := by rw [hk]; rfl
  have e1 : (d.kind == 1) = false := by rw [hk]; rfl
  have e2 : (d.kind == 2) = false := by rw [hk]; rfl
  have hpp : parts d = if decide (d.head.text = sQuote) = true then [] else if decide (d.head.text = sLet) = true then d.kids.drop 2 else if decide (d.head.text = sCall) = true then d.kids.drop 2 else d.kids.drop 1 := by
    unfold parts; rw [if_neg (by rw [e3]; decide)]
  by_cases hq : d.head.text = sQuote
  · exact .inl ⟨hq, by rw [hpp, if_pos (by simpa using hq)], rexpr_quote e1 e2 (by simpa using hq)⟩
  have hq' : decide (d.head.text = sQuote) = false := by simpa using hq
  rw [if_neg (by simpa using hq)] at hpp
  by_cases hL : d.head.text = sLet
  · have h2l := h2 (.inl hL)
    rw [hx] at h2l
    match r, h2l, hx with
    | x1 :: r, _, hx =>
      rw [if_pos (by simpa using hL), hx] at hpp
      have h1 : d1 d.kids = x1 := by rw [hx]; rfl
      refine .inr (.inl ⟨x1, r, hL, by rw [hh]; exact hx, hpp, ?_⟩)
      rw [rexpr_let e1 e2 hq' (by simpa using hL), h1, hpp]; rfl
  have hL' : decide (d.head.text = sLet) = false := by simpa using hL
  rw [if_neg (by simpa using hL)] at hpp
  by_cases hC : d.head.text = sCall
  · have h2l := h2 (.inr hC)
    rw [hx] at h2l
    match r, h2l, hx with
    | x1 :: r, _, hx =>
      rw [if_pos (by simpa using hC), hx] at hpp
      have h1 : d1 d.kids = x1 := by rw [hx]; rfl
      refine .inr (.inr (.inl ⟨x1, r, hC, by rw [hh]; exact hx, hpp, ?_⟩))
      rw [rexpr_call e1 e2 hq' hL' (by simpa using hC), h1, hpp]; rfl
  have hC' : decide (d.head.text = sCall) = false := by simpa using hC
  rw [if_neg (by simpa using hC), hx] at hpp
  refine .inr (.inr (.inr ⟨r, hq, hL, hC, by rw [hh]; exact hx, hpp, ?_⟩))
  rw [rexpr_other e1 e2 hq' hL' hC', hpp]; rfl

theorem head_dlist (x : D) (l : List D) : (dlist (x :: l)).head = x := rfl
theorem parts_list {d : D} (hk : d.kind = 3) : parts d = if decide (d.head.text = sQuote) = true then [] else if decide (d.head.text = sLet) = true then d.kids.drop 2 else if decide (d.head.text = sCall) = true then d.kids.drop 2 else d.kids.drop 1 := by
  unfold parts; rw [if_neg (by rw [hk]; decide)]

section
variable {L : D → D} {d : D}
/-- With other labels an expression has the parts that it had, with other labels. -/
theorem rnE_parts (hok : okE d = true) : parts (rnE L d) = (parts d).map (rnE L) := by
  rcases okE_kind hok with h | h | h
  · rw [show rnE L d = d from rexpr_num (by rw [h]; rfl), parts_nil (by omega)]; rfl
  · rw [show rnE L d = d from rexpr_sym (by rw [h]; rfl) (by rw [h]; rfl), parts_nil (by omega)]; rfl
  · rcases rexpr_shape L id false hok h with ⟨h1, h2, h3⟩ | ⟨x, r, h1, h2, h3, h4⟩ | ⟨x, r, h1, h2, h3, h4⟩ | ⟨r, h1, h2, h3, h4, h5, h6⟩
    · rw [show rnE L d = d from h3, h2]; rfl
    · rw [show rnE L d = _ from h4, h3, parts_list rfl, head_dlist, if_neg (by rw [h1]; decide), if_pos (by rw [h1]; decide)]; rfl
    · rw [show rnE L d = _ from h4, h3, if_neg (by decide), parts_list rfl]
      have hd : (dlist ([d.head, L x] ++ r.map (rexpr L id false))).head = d.head := rfl
      rw [hd, if_neg (by rw [h1]; decide), if_neg (by rw [h1]; decide), if_pos (by rw [h1]; decide)]; rfl
    · rw [show rnE L d = _ from h6, h5, parts_list rfl, head_dlist, if_neg (by simpa using h1), if_neg (by simpa using h2), if_neg (by simpa using h3)]; rfl
theorem rnE_kind (hok : okE d = true) : (rnE L d).kind = d.kind := by
  rcases okE_kind hok with h | h | h
  · rw [show rnE L d = d from rexpr_num (by rw [h]; rfl)]
  · rw [show rnE L d = d from rexpr_sym (by rw [h]; rfl) (by rw [h]; rfl)]
  · rw [h]
    rcases rexpr_shape L id false hok h with ⟨h1, h2, h3⟩ | ⟨x, r, h1, h2, h3, h4⟩ | ⟨x, r, h1, h2, h3, h4⟩ | ⟨r, h1, h2, h3, h4, h5, h6⟩
    · rw [show rnE L d = d from h3]; exact h
    · rw [show rnE L d = _ from h4]; rfl
    · rw [show rnE L d = _ from h4]; rfl
    · rw [show rnE L d = _ from h6]; rfl
theorem rnE_head (hok : okE d = true) (h : d.kind = 3) : (rnE L d).head = d.head := by
  rcases rexpr_shape L id false hok h with ⟨h1, h2, h3⟩ | ⟨x, r, h1, h2, h3, h4⟩ | ⟨x, r, h1, h2, h3, h4⟩ | ⟨r, h1, h2, h3, h4, h5, h6⟩
  · rw [show rnE L d = d from h3]
  · rw [show rnE L d = _ from h4]; rfl
  · rw [show rnE L d = _ from h4]; rfl
  · rw [show rnE L d = _ from h6]; rfl
theorem rnE_call (hok : okE d = true) (h : isCall d = true) : d1 (rnE L d).kids = L (d1 d.kids) := by
  obtain ⟨hk, ht⟩ := isCall_iff.1 h
  rcases rexpr_shape L id false hok hk with ⟨h1, h2, h3⟩ | ⟨x, r, h1, h2, h3, h4⟩ | ⟨x, r, h1, h2, h3, h4⟩ | ⟨r, h1, h2, h3, h4, h5, h6⟩
  · exact absurd (ht.symm.trans h1) sC_ne_Q
  · exact absurd (ht.symm.trans h1) sC_ne_L
  · rw [show rnE L d = _ from h4, h2]; rfl
  · exact absurd ht h3
theorem rnE_isCall (hok : okE d = true) : isCall (rnE L d) = isCall d := by
  unfold isCall
  rw [rnE_kind hok]
  by_cases hk : d.kind = 3
  · rw [rnE_head hok hk]
  · rw [show (d.kind == 3) = false by simpa using hk]; rfl
end
/-! ### what is called -/
section
variable {L : D → D} {S : D → Prop} (hS : ∀ f g, S f → S g → kq (L f) (L g) = kq f g)
include hS
/-- The seen ones, when all are renamed. -/
def SeenL (L : D → D) (S : D → Prop) (st st' : CS) : Prop := st'.1 = st.1.map L ∧ ∀ f, S f → seenB st'.2 (L f) = seenB st.2 f
omit hS in
theorem seenL_nil : SeenL L S ([], []) ([], []) := ⟨rfl, fun f _ => rfl⟩
theorem callStep_rn {d : D} (hok : okE d = true) (hc : isCall d = true → S (d1 d.kids)) {st st' : CS} (h : SeenL L S st st') : SeenL L S (callStep d st) (callStep (rnE L d) st') := by
  unfold callStep
  rw [rnE_isCall hok]
  cases hi : isCall d with
  | false => simpa using h
  | true =>
    have hs := hc hi
    rw [rnE_call hok hi, h.2 _ hs]
    cases hb : seenB st.2 (d1 d.kids) with
    | true => simpa using h
    | false =>
      refine ⟨by simp [h.1], fun f hf => ?_⟩
      show seenB (kset st'.2 (L (d1 d.kids)) true) (L f) = seenB (kset st.2 (d1 d.kids) true) f
      rw [seenB_kset, seenB_kset, h.2 f hf, hS f _ hf hs]
theorem callsD_rn : ∀ {d : D}, okE d = true → (∀ y, y ∈ exprsL d → isCall y = true → S (d1 y.kids)) → ∀ {st st' : CS}, SeenL L S st st' → SeenL L S (callsD d st) (callsD (rnE L d) st') := by
  intro d
  induction d using D.ind with
  | _ k n t l ih =>
    intro hok hc st st' h
    have hpm : ∀ x, x ∈ parts (D.mk k n t l) → ∀ {st st' : CS}, SeenL L S st st' → SeenL L S (callsD x st) (callsD (rnE L x) st') := fun x hx => ih x (parts_mem hx) (okE_parts hok x hx) fun y hy hi => hc y (by rw [exprsL_eq]; exact List.mem_cons_of_mem _ (List.mem_flatMap.2 ⟨x, hx, hy⟩)) hi
    have h0 : SeenL L S (callStep (D.mk k n t l) st) (callStep (rnE L (D.mk k n t l)) st') := callStep_rn hS hok (fun hi => hc _ (by rw [exprsL_eq]; simp) hi) h
    rw [callsD_eq, callsD_eq, rnE_parts hok]
    generalize parts (D.mk k n t l) = r at *
    clear hc hok
    generalize callStep (D.mk k n t l) st = a at *
    generalize callStep (rnE L (D.mk k n t l)) st' = a' at *
    induction r generalizing a a' with
    | nil => exact h0
    | cons x r ihr =>
      rw [List.map_cons, List.foldl_cons, List.foldl_cons]
      exact ihr (fun y hy => hpm y (by simp [hy])) _ _ (hpm x (by simp) h0)
theorem callsOf_rn {d : D} (hok : okE d = true) (hc : ∀ y, y ∈ exprsL d → isCall y = true → S (d1 y.kids)) : callsOf (rnE L d) = (callsOf d).map L := (callsD_rn hS hok hc seenL_nil).1
end
end Go.Aw

/- Programs of layer 17 whose labels are renamed (two): what is reached, the canonical form. No program is named. -/
namespace Go.Aw
open Go
/-- A definition with other labels. -/
abbrev rnF (L : D → D) (d : D) : D := rdef L id false d
theorem rnF_d1 {L : D → D} {d : D} : d1 (rnF L d).kids = dlist ((d1 d.kids).kids.map id) := rfl
theorem rnF_d2 {L : D → D} {d : D} : d2 (rnF L d).kids = rnE L (d2 d.kids) := rfl

theorem find_kq {l : List D} {e f : D} (h : Apart l) (he : e ∈ l) (hq : kq f e.head = true) : l.find? (fun d => kq f d.head) = some e := by
  induction l with
  | nil => simp at he
  | cons y l ih =>
    have hl := List.pairwise_cons.1 h
    rw [List.find?_cons]
    rcases List.mem_cons.1 he with rfl | hm
    · rw [hq]
    · have : kq f y.head = false := by
        cases hy : kq f y.head with
        | false => rfl
        | true => have := hl.1 e hm; rw [kq_trans (kq_symm hy) hq] at this; cases this
      rw [this]; exact ih hl.2 hm

/-- Definitions of a program, the first one among them, that call none but themselves; renamed, they are among those of another one. -/
structure Renames (p q : D) (L : D → D) (K : List D) : Prop where
  sub : ∀ e, e ∈ K → e ∈ p.kids
  main : p.head ∈ K
  closed : ∀ x f, x ∈ K → f ∈ callsOf (d2 x.kids) → ∃ e, e ∈ K ∧ kq f e.head = true
  inj : ∀ a b, a ∈ K → b ∈ K → kq (L a.head) (L b.head) = kq a.head b.head
  into : ∀ e, e ∈ K → rnF L e ∈ q.kids
  first : q.head = rnF L p.head

section
variable {p q : D} {L : D → D} {K : List D} (R : Right p) (S : Right q) (H : Renames p q L K)
include R H
/-- What is called is a label of one of them. -/
theorem Renames.label {x f : D} (hx : x ∈ K) (hf : f ∈ callsOf (d2 x.kids)) : ∃ e, e ∈ K ∧ f = e.head := by
  obtain ⟨e, he, hq⟩ := H.closed x f hx hf
  obtain ⟨h1, h2⟩ := callsOf_lab (R.good (H.sub x hx)) f hf
  obtain ⟨h3, h4⟩ := R.label (H.sub e he)
  exact ⟨e, he, label_eq h1 h3 h2 h4 hq⟩
theorem Renames.calls {x : D} (hx : x ∈ K) : callsOf (rnE L (d2 x.kids)) = (callsOf (d2 x.kids)).map L := by
  have hg := R.good (H.sub x hx)
  refine callsOf_rn (S := fun f => ∃ e, e ∈ K ∧ f = e.head) ?_ hg.ok fun y hy hc => ?_
  · rintro f g ⟨a, ha, rfl⟩ ⟨b, hb, rfl⟩; exact H.inj a b ha hb
  · exact H.label R hx (callsOf_call hg hy hc)
include S
theorem Renames.fold {x : D} (hx : x ∈ K) : ∀ (fs : List D) (st st' : CS), (∀ f, f ∈ fs → f ∈ callsOf (d2 x.kids)) → RI p st → RI q st' → st'.1 = st.1.map (rnF L) → (∀ d, d ∈ st.1 → d ∈ K) →
    RI p (fs.foldl (reachStep (defsL p.kids)) st) ∧ RI q ((fs.map L).foldl (reachStep (defsL q.kids)) st') ∧ ((fs.map L).foldl (reachStep (defsL q.kids)) st').1 = (fs.foldl (reachStep (defsL p.kids)) st).1.map (rnF L) ∧ ∀ d, d ∈ (fs.foldl (reachStep (defsL p.kids)) st).1 → d ∈ K
  | [], st, st', _, i1, i2, i3, i4 => ⟨i1, i2, i3, i4⟩
  | f :: fs, st, st', hf, i1, i2, i3, i4 => by
    rw [List.map_cons, List.foldl_cons, List.foldl_cons]
    obtain ⟨e, he, rfl⟩ := H.label R hx (hf f (by simp))
    have hep := H.sub e he
    have g1 : kget (defsL p.kids) e.head = some e := by rw [defsL_get R.apart]; exact find_kq R.apart hep (kq_refl _)
    have g2 : kget (defsL q.kids) (L e.head) = some (rnF L e) := by rw [defsL_get S.apart]; exact find_kq S.apart (H.into e he) (kq_refl _)
    have hs : seenB st'.2 (L e.head) = seenB st.2 e.head := by
      rw [i2.seen, i1.seen, i3, List.any_map]
      have key : ∀ l : List D, (∀ d, d ∈ l → d ∈ K) → l.any ((fun d => kq (L e.head) d.head) ∘ rnF L) = l.any fun d => kq e.head d.head := by
        intro l
        induction l with
        | nil => intro _; rfl
        | cons y l ih =>
          intro h
          rw [List.any_cons, List.any_cons, ih fun d hd => h d (by simp [hd])]
          congr 1
          exact H.inj e y he (h y (by simp))
      exact key _ i4
    have j1 : RI p (reachStep (defsL p.kids) st e.head) := i1.step hep (kq_refl _) g1
    have j2 : RI q (reachStep (defsL q.kids) st' (L e.head)) := i2.step (H.into e he) (kq_refl _) g2
    refine Renames.fold hx fs _ _ (fun g hg => hf g (by simp [hg])) j1 j2 ?_ ?_
    · cases hb : seenB st.2 e.head with
      | true => rw [reachStep_old hb, reachStep_old (by rw [hs]; exact hb)]; exact i3
      | false => rw [reachStep_new hb g1, reachStep_new (by rw [hs]; exact hb) g2]; simp [i3]
    · cases hb : seenB st.2 e.head with
      | true => rw [reachStep_old hb]; exact i4
      | false =>
        rw [reachStep_new hb g1]
        intro d hd
        simp only [List.mem_append, List.mem_singleton] at hd
        rcases hd with hd | rfl
        · exact i4 d hd
        · exact he
theorem Renames.rst : ∀ k, (Aw.rst q k).1 = (Aw.rst p k).1.map (rnF L) ∧ ∀ d, d ∈ (Aw.rst p k).1 → d ∈ K
  | 0 => by
    refine ⟨?_, ?_⟩
    · show [q.head] = [p.head].map _; rw [H.first]; rfl
    · intro d hd
      have hd : d ∈ [p.head] := hd
      simp only [List.mem_singleton] at hd
      subst hd; exact H.main
  | k + 1 => by
    obtain ⟨h1, h2⟩ := Renames.rst k
    cases hx : (Aw.rst p k).1[k]? with
    | none =>
      have e1 : Aw.rst p (k + 1) = Aw.rst p k := by unfold Aw.rst at hx ⊢; rw [rstK, hx]
      have hx' : (Aw.rst q k).1[k]? = none := by rw [h1, List.getElem?_map, hx]; rfl
      have e2 : Aw.rst q (k + 1) = Aw.rst q k := by unfold Aw.rst at hx' ⊢; rw [rstK, hx']
      rw [e1, e2]; exact ⟨h1, h2⟩
    | some x =>
      have hx' : (Aw.rst q k).1[k]? = some (rnF L x) := by rw [h1, List.getElem?_map, hx]; rfl
      have hxK := h2 x (List.mem_of_getElem? hx)
      rw [rst_next hx, rst_next hx', rnF_d2, H.calls R hxK]
      obtain ⟨_, _, k3, k4⟩ := H.fold R S hxK (callsOf (d2 x.kids)) (Aw.rst p k) (Aw.rst q k) (fun _ h => h) (rst_inv R k) (rst_inv S k) h1 h2
      exact ⟨k3, k4⟩
/-- The renamed definitions are reached in the same order. -/
theorem Renames.reach : Aw.reach q = (Aw.reach p).map (rnF L) ∧ ∀ d, d ∈ Aw.reach p → d ∈ K := by
  have h1 : (Aw.rst p p.kids.length).1.length ≤ p.kids.length := (rst_inv R _).len
  have h2 : (Aw.rst q q.kids.length).1.length ≤ q.kids.length := (rst_inv S _).len
  have e1 := rst_stable h1 q.kids.length
  have e2 := rst_stable h2 p.kids.length
  rw [Nat.add_comm] at e2
  obtain ⟨h3, h4⟩ := H.rst R S (p.kids.length + q.kids.length)
  rw [e1, e2] at h3
  rw [e1] at h4
  exact ⟨h3, h4⟩
end
end Go.Aw

/- Programs of layer 17 whose labels are renamed (three): that they are right. No program is named. -/
namespace Go.Aw
open Go
/-! ### what makes an expression right -/
theorem ccall_mk {ps : List (D × Int)} {b : List ByteArray} {l : List D} (h1 : 2 ≤ l.length) (h2 : isLabel (d1 l) = true) (h3 : (kpar ps (d1 l)).2 = true) (h4 : (kpar ps (d1 l)).1 = (l.length : Int) - 2) (h5 : cll ps b (l.drop 2) = 0) : ccall ps b l = 0 := by
  unfold ccall
  have g1 : l.getD 1 dnone = d1 l := rfl
  rw [g1, if_neg (by simp only [h2, Bool.not_true, Bool.or_false, decide_eq_true_eq]; omega), if_neg (by rw [h3]; simp), if_neg (by rw [h4]; simp)]
  exact h5
theorem cexpr_mk {ps : List (D × Int)} {b : List ByteArray} {d : D} (hk : d.kind = 3) (hne : d.kids ≠ []) (hh : d.head.kind = 2)
    (h : (d.head.text = sQuote ∧ d.kids.length = 2) ∨ (d.head.text = sIf ∧ d.kids.length = 4 ∧ cll ps b (d.kids.drop 1) = 0) ∨
      (d.head.text = sLet ∧ d.kids.length = 4 ∧ isName (d1 d.kids) = true ∧ cexpr ps b (d2 d.kids) = 0 ∧ cexpr ps (b ++ [(d1 d.kids).text]) (d.kids.getD 3 dnone) = 0) ∨
      (d.head.text = sCall ∧ ccall ps b d.kids = 0) ∨
      (d.head.text ≠ sQuote ∧ d.head.text ≠ sIf ∧ d.head.text ≠ sLet ∧ d.head.text ≠ sCall ∧ (arity d.head.text).2 = true ∧ (arity d.head.text).1 = (d.kids.length : Int) - 1 ∧ cll ps b (d.kids.drop 1) = 0)) : cexpr ps b d = 0 := by
  rw [cexpr_eq]
  have e1 : (d.kind == 1) = false := by rw [hk]; rfl
  have e2 : (d.kind == 2) = false := by rw [hk]; rfl
  have hl : d.kids.length ≠ 0 := fun e => hne (List.eq_nil_of_length_eq_zero e)
  have e4 : ((d.kids.length : Int) == 0) = false := by rw [beq_eq_false_iff_ne]; omega
  simp only [e1, e2, e4, hh, bne_self_eq_false, Bool.or_false, Bool.false_and, Bool.false_eq_true, if_false]
  rcases h with ⟨h1, h2⟩ | ⟨h1, h2, h3⟩ | ⟨h1, h2, h3, h4, h5⟩ | ⟨h1, h2⟩ | ⟨h1, h2, h3, h4, h5, h6, h7⟩
  · rw [if_pos (by simpa using h1), if_neg (by rw [h2]; decide)]
  · rw [if_neg (by rw [h1]; decide), if_pos (by simpa using h1), if_neg (by rw [h2]; decide)]; exact h3
  · have g2 : cnth ps b 2 d.kids = cexpr ps b (d2 d.kids) := cnth_get ps b 2 d.kids _ (by simp [d2, List.getD, h2])
    have g3 : cnth ps (b ++ [(d.kids.getD 1 dnone).text]) 3 d.kids = cexpr ps (b ++ [(d.kids.getD 1 dnone).text]) (d.kids.getD 3 dnone) := cnth_get ps _ 3 d.kids _ (by simp [List.getD, h2])
    have g1 : d.kids.getD 1 dnone = d1 d.kids := rfl
    rw [if_neg (by rw [h1]; decide), if_neg (by rw [h1]; decide), if_pos (by simpa using h1), g2, g3, g1, if_neg (by rw [h2, h3]; decide), if_neg (by rw [h4]; decide)]; exact h5
  · rw [if_neg (by rw [h1]; decide), if_neg (by rw [h1]; decide), if_neg (by rw [h1]; decide), if_pos (by simpa using h1)]; exact h2
  · rw [if_neg (by simpa using h1), if_neg (by simpa using h2), if_neg (by simpa using h3), if_neg (by simpa using h4), if_neg (by rw [h5]; decide), if_neg (by rw [h6]; simp)]; exact h7

section
variable {L : D → D} {ps ps' : List (D × Int)}
/-- An expression with other labels is right if these are known, as functions of as many names. -/
theorem cexpr_rn : ∀ (d : D) (b : List ByteArray), cexpr ps b d = 0 → formed d = true → (∀ y, y ∈ exprsL d → isCall y = true → isLabel (L (d1 y.kids)) = true ∧ kpar ps' (L (d1 y.kids)) = kpar ps (d1 y.kids)) → cexpr ps' b (rnE L d) = 0 := by
  intro d
  induction d using D.ind with
  | _ k n t l ih =>
    intro b h hf hc
    have hok := okE_of _ _ h hf
    have hpm : ∀ x, x ∈ parts (D.mk k n t l) → ∀ b, cexpr ps b x = 0 → cexpr ps' b (rnE L x) = 0 := fun x hx b hb => ih x (parts_mem hx) b hb (formed_kids hf (parts_mem hx)) fun y hy hi => hc y (by rw [exprsL_eq]; exact List.mem_cons_of_mem _ (List.mem_flatMap.2 ⟨x, hx, hy⟩)) hi
    have hc0 := hc (D.mk k n t l) (by rw [exprsL_eq]; simp)
    clear hc ih
    generalize D.mk k n t l = d at *
    have hcl : ∀ r, parts d = r → cll ps b r = 0 → cll ps' b (r.map (rnE L)) = 0 := fun r hr h0 => cll_zero.2 fun x hx => by
      obtain ⟨y, hy, rfl⟩ := List.mem_map.1 hx
      exact hpm y (by rw [hr]; exact hy) b (cll_zero.1 h0 y hy)
    rcases okE_kind hok with e | e | e
    · rw [show rnE L d = d from rexpr_num (by rw [e]; rfl), cexpr_eq, if_pos (by rw [e]; rfl)]
    · rw [show rnE L d = d from rexpr_sym (by rw [e]; rfl) (by rw [e]; rfl)]
      rw [cexpr_eq] at h ⊢
      rw [if_neg (by rw [e]; decide)] at h ⊢
      split at h
      · cases h
      · rename_i h1
        rw [if_neg h1]
        split at h
        · cases h
        · rename_i h2
          rw [if_neg h2, if_pos (by rw [e]; rfl)]
    · obtain ⟨hne, hh, hcs⟩ := cexpr_list h e
      rcases rexpr_shape L id false hok e with ⟨h1, h2, h3⟩ | ⟨x, r, h1, h2, h3, h4⟩ | ⟨x, r, h1, h2, h3, h4⟩ | ⟨r, h1, h2, h3, h4, h5, h6⟩
      · rw [show rnE L d = d from h3]
        refine cexpr_mk e hne hh (.inl ⟨h1, ?_⟩)
        rcases hcs with ⟨_, g⟩ | ⟨g, _⟩ | ⟨g, _⟩ | ⟨g, _⟩ | ⟨g, _⟩
        · exact g
        · exact absurd (g.symm.trans h1) sI_ne_Q
        · exact absurd (g.symm.trans h1) sL_ne_Q
        · exact absurd (g.symm.trans h1) sC_ne_Q
        · exact absurd h1 g
      · rw [show rnE L d = _ from h4]
        refine cexpr_mk rfl (by simp [dlist_kids]) hh (.inr (.inr (.inl ⟨h1, ?_⟩)))
        rcases hcs with ⟨g, _⟩ | ⟨g, _⟩ | ⟨_, g1, g2, g3, g4⟩ | ⟨g, _⟩ | ⟨_, _, g, _⟩
        · exact absurd (g.symm.trans h1) sQ_ne_L
        · exact absurd (g.symm.trans h1) sI_ne_L
        · rw [h2] at g1 g2 g3 g4
          match r, g1, g2, g3, g4, h3 with
          | [a, c], _, g2, g3, g4, h3 => exact ⟨rfl, g2, hpm a (by rw [h3]; simp) b g3, hpm c (by rw [h3]; simp) _ g4⟩
        · exact absurd (g.symm.trans h1) sC_ne_L
        · exact absurd h1 g
      · rw [show rnE L d = _ from h4, if_neg (by decide)]
        refine cexpr_mk rfl (by simp [dlist_kids]) hh (.inr (.inr (.inr (.inl ⟨h1, ?_⟩))))
        have hi := hc0 (isCall_iff.2 ⟨e, h1⟩)
        have e1 : d1 d.kids = x := by rw [h2]; rfl
        rw [e1] at hi
        rcases hcs with ⟨g, _⟩ | ⟨g, _⟩ | ⟨g, _⟩ | ⟨_, g⟩ | ⟨_, _, _, g, _⟩
        · exact absurd (g.symm.trans h1) sQ_ne_C
        · exact absurd (g.symm.trans h1) sI_ne_C
        · exact absurd (g.symm.trans h1) sL_ne_C
        · obtain ⟨c1, c2, c3, c4, c5⟩ := ccall_zero g
          rw [e1] at c2 c3 c4
          rw [h2] at c1 c4 c5
          refine ccall_mk (by simp [dlist_kids]) hi.1 (by rw [show d1 (dlist ([d.head, L x] ++ r.map (rexpr L id false))).kids = L x from rfl, hi.2]; exact c3) ?_ (hcl r h3 c5)
          rw [show d1 (dlist ([d.head, L x] ++ r.map (rexpr L id false))).kids = L x from rfl, hi.2, c4]
          simp [dlist_kids]
        · exact absurd h1 g
      · rw [show rnE L d = _ from h6]
        have hlen : (dlist (d.head :: r.map (rexpr L id false))).kids.length = d.kids.length := by rw [h4]; simp [dlist_kids]
        refine cexpr_mk rfl (by simp [dlist_kids]) hh ?_
        rw [hlen]
        rcases hcs with ⟨g, _⟩ | ⟨g, g1, g2⟩ | ⟨g, _⟩ | ⟨g, _⟩ | ⟨g1, g2, g3, g4, g5, g6, g7⟩
        · exact absurd g h1
        · rw [h4] at g2
          exact .inr (.inl ⟨g, g1, hcl r h5 g2⟩)
        · exact absurd g h2
        · exact absurd g h3
        · rw [h4] at g7
          exact .inr (.inr (.inr (.inr ⟨g1, g2, g3, g4, g5, g6, hcl r h5 g7⟩)))
end
/-! ### right data -/
section
variable {L : D → D}
end
/-! ### what makes a program right -/
theorem bodies_mk {ps : List (D × Int)} : ∀ {l : List D}, (∀ d, d ∈ l → cexpr ps (nlist (names (d1 d.kids))) (d2 d.kids) = 0) → bodies ps l = 0
  | [], _ => rfl
  | y :: l, h => by
    rw [bodies, if_neg (by rw [h y (by simp)]; decide)]
    exact bodies_mk fun d hd => h d (by simp [hd])
theorem right_mk {q : D} (hd : dcheck q = 0) (hk : q.kind = 3) (hn : q.kids ≠ []) (hl : q.kids.length ≤ 4000) (hdef : ∀ d, d ∈ q.kids → DefOk d) (ha : Apart q.kids)
    (hb : ∀ d, d ∈ q.kids → cexpr (headsGo [] q.kids).2 (nlist (names (d1 d.kids))) (d2 d.kids) = 0) (hs : q.size ≤ 900000000) : Right q := by
  refine ⟨?_, hs⟩
  have h0 : (headsGo [] q.kids).1 = 0 := headsGo_zero ha fun d hd => ⟨hdef d hd, rfl⟩
  have hn0 : q.kids.length ≠ 0 := fun e => hn (List.eq_nil_of_length_eq_zero e)
  have hh : heads q = headsGo [] q.kids := by
    unfold heads
    rw [if_neg (by rw [hd]; decide), if_neg (by rw [hk]; simp only [bne_self_eq_false, Bool.false_or, beq_iff_eq]; omega), if_neg (by simp; omega)]
  unfold fcheck
  rw [hh, if_neg (by rw [h0]; decide)]
  exact bodies_mk hb
theorem par_mk {l : List D} (hdef : ∀ d, d ∈ l → DefOk d) (ha : Apart l) (f : D) : kpar (headsGo [] l).2 f = (match l.find? fun d => kq f d.head with | some d => ((nlist (names (d1 d.kids))).length, true) | none => (0, false)) :=
  (headsGo_apart (headsGo_zero ha fun d hd => ⟨hdef d hd, rfl⟩)).2.2 f
theorem names_dlist {x : D} (h : x.kind = 3) : names (dlist (x.kids.map id)) = names x := by
  unfold names
  rw [dlist_kids, List.map_id, h]; rfl

/-- A definition whose body is a number. -/
def Extra (d : D) : Prop := DefOk d ∧ (d2 d.kids).kind = 1
/-- A program made of renamed definitions, and of others that do nothing, is right. -/
theorem Renames.right {p q : D} {L : D → D} {K : List D} (R : Right p) (H : Renames p q L K) (hlab : ∀ e, e ∈ K → isLabel (L e.head) = true)
    (hd : dcheck q = 0) (hk : q.kind = 3) (hl : q.kids.length ≤ 4000) (ha : Apart q.kids) (hq : ∀ d, d ∈ q.kids → (∃ e, e ∈ K ∧ d = rnF L e) ∨ Extra d) (hs : q.size ≤ 900000000) : Right q := by
  have hdef : ∀ d, d ∈ q.kids → DefOk d := by
    intro d hd
    rcases hq d hd with ⟨e, he, rfl⟩ | h
    · obtain ⟨x0, x1, x2, ns, hk, hk3, hlx, hns, h8⟩ := R.def (H.sub e he)
      have e1 : d1 e.kids = x1 := by rw [hk]; rfl
      refine ⟨_, _, _, ns, rfl, rfl, hlab e he, ?_, h8⟩
      rw [e1, names_dlist (names_some hns).1]; exact hns
    · exact h.1
  refine right_mk hd hk (fun e => ?_) hl hdef ha (fun d hd => ?_) hs
  · have := H.into _ H.main
    rw [e] at this; simp at this
  · rcases hq d hd with ⟨e, he, rfl⟩ | h
    · have hep := H.sub e he
      obtain ⟨x0, x1, x2, ns, hk, hk3, hlx, hns, h8⟩ := R.def hep
      have e1 : d1 e.kids = x1 := by rw [hk]; rfl
      have hg := R.good hep
      rw [rnF_d1, rnF_d2, e1, names_dlist (names_some hns).1]
      refine cexpr_rn _ _ (by rw [← e1]; exact R.body hep) (R.bodyF hep) fun y hy hc => ?_
      obtain ⟨a, haK, hfa⟩ := H.label R he (callsOf_call hg hy hc)
      rw [hfa]
      refine ⟨hlab a haK, ?_⟩
      have hap := H.sub a haK
      obtain ⟨y0, y1, y2, ms, hk', _, _, hms, _⟩ := R.def hap
      have e1' : d1 a.kids = y1 := by rw [hk']; rfl
      rw [par_mk hdef ha, show q.kids.find? (fun d => kq (L a.head) d.head) = some (rnF L a) from find_kq ha (H.into a haK) (kq_refl _), R.par, find_kq R.apart hap (kq_refl _)]
      show (((nlist (names (d1 (rnF L a).kids))).length : Int), true) = (((nlist (names (d1 a.kids))).length : Int), true)
      rw [rnF_d1, e1', names_dlist (names_some hms).1]
    · rw [cexpr_eq, if_pos (by rw [h.2]; rfl)]
end Go.Aw

/- Programs of layer 17 whose labels are renamed (four): a canonical form is a right program, and its own canonical form. No program is named. -/
namespace Go.Aw
open Go
/-- The number of a label among what is reached. -/
def posL (p : D) (f : D) : D := dnum (kpar (atL (reach p)) f).1
section
variable {p : D} (R : Right p)
include R
theorem Right.pos {e : D} {i : Nat} (h : (reach p)[i]? = some e) : posL p e.head = dnum i := by unfold posL; rw [atL_kpar R.reach_apart h (kq_refl _)]
end
end Go.Aw

/- Layer 17 (eleven): a program with arguments as an expression, by the program and by the specification. No program is named. -/
namespace Go.Aw
open Go
theorem itoaB_size {n : Int} (h0 : -9223372036854775808 ≤ n) (h1 : n ≤ 9223372036854775807) : (itoaB n).size ≤ 21 := by
  have := Lib.itoa_length_le n h0 h1
  show ((Lib.itoa n).toArray).size ≤ 21
  simpa using this

@[go_sem] theorem modify_app2 {l : List Tok} {t u : Tok} {f : Tok → Tok} : (l ++ [t, u]).modify (l.length + 1) f = l ++ [t, f u] := by
  induction l with
  | nil => rfl
  | cons a l ih => simp [ih]
@[go_sem] theorem take_app2 {α : Type} {l : List α} {a b : α} : (l ++ [a, b]).take (l.length + 2) = l ++ [a, b] := List.take_of_length_le (by simp)

/-! ### sizes -/
section
variable {p : D} (R : Right p)
include R
end
end Go.Aw
namespace Go.Aw
open Go
end Go.Aw

/- Terms of layer 25 (three): a term told by what its parts give; free names, parts, renaming, mapping. No program is named. -/
namespace Go.Aw
open Go
mutual
/-- A term, told by what the terms in it give. -/
def mcata {β : Type} (f : D → List β → β) : D → β
  | .mk k n t l => f (.mk k n t l) (mcatas f (idrop (.mk k n t l)) l)
def mcatas {β : Type} (f : D → List β → β) : Nat → List D → List β
  | _, [] => []
  | 0, x :: l => mcata f x :: mcatas f 0 l
  | i + 1, _ :: l => mcatas f i l
end
theorem mcatas_drop {β : Type} (f : D → List β → β) : ∀ (i : Nat) (l : List D), mcatas f i l = (l.drop i).map (mcata f)
  | 0, [] => rfl
  | 0, x :: l => by rw [mcatas, mcatas_drop f 0 l]; rfl
  | i + 1, [] => rfl
  | i + 1, x :: l => by rw [mcatas, mcatas_drop f i l]; rfl
theorem mcata_eq {β : Type} (f : D → List β → β) (d : D) : mcata f d = f d ((inner d).map (mcata f)) := by
  unfold inner
  rw [← mcatas_drop]
  cases d
  rw [mcata]
  rfl

/-- A list gone through with the places. -/
def foldI {α β : Type} (f : Nat → β → α → α) : Nat → List β → α → α
  | _, [], a => a
  | i, x :: r, a => foldI f (i + 1) r (f i x a)
theorem foldI_snoc {α β : Type} (f : Nat → β → α → α) (x : β) : ∀ (l : List β) (i : Nat) (a : α), foldI f i (l ++ [x]) a = f (i + l.length) x (foldI f i l a)
  | [], i, a => rfl
  | y :: l, i, a => by
    simp only [List.cons_append, foldI, foldI_snoc f x l]
    rw [List.length_cons, show i + 1 + l.length = i + (l.length + 1) by omega]
theorem foldI_map {α β γ : Type} (f : Nat → β → α → α) (g : γ → β) : ∀ (l : List γ) (i : Nat) (a : α), foldI f i (l.map g) a = foldI (fun i x a => f i (g x) a) i l a
  | [], i, a => rfl
  | y :: l, i, a => by simp only [List.map_cons, foldI, foldI_map f g l]
theorem foldI_next {α β : Type} {f : Nat → β → α → α} {l : List β} {k : Nat} {x : β} {a : α} (h : l[k]? = some x) : foldI f 0 (l.take (k + 1)) a = f k x (foldI f 0 (l.take k) a) := by
  rw [take_next h, foldI_snoc]
  have : (l.take k).length = k := by rw [List.length_take]; have := (List.getElem?_eq_some_iff.1 h).1; omega
  rw [this, Nat.zero_add]
def memB (l : List ByteArray) (s : ByteArray) : Bool := l.any fun x => decide (s = x)
theorem memB_iff {l : List ByteArray} {s : ByteArray} : memB l s = true ↔ s ∈ l := by simp [memB]
abbrev FB := List ByteArray → List ByteArray → List ByteArray
def freeStep (d : D) (rs : List FB) : FB := fun l out =>
  if ((d.kind == 2 && !memB l d.text) && !memB out d.text) = true then out ++ [d.text] else foldI (fun i r out => r (l ++ bnd d i) out) 0 rs out
/-- The free names, more of them. -/
def mfree (d : D) : FB := mcata freeStep d
theorem mfree_eq (d : D) (l out : List ByteArray) : mfree d l out =
    if ((d.kind == 2 && !memB l d.text) && !memB out d.text) = true then out ++ [d.text] else foldI (fun i x out => mfree x (l ++ bnd d i) out) 0 (inner d) out := by
  unfold mfree
  rw [mcata_eq]
  unfold freeStep
  rw [foldI_map]
def mfreeK (d : D) (l out : List ByteArray) (k : Nat) : List ByteArray := foldI (fun i x out => mfree x (l ++ bnd d i) out) 0 ((inner d).take k) out
theorem mfreeK_zero {d : D} {l out : List ByteArray} : mfreeK d l out 0 = out := rfl
theorem mfreeK_next {d x : D} {l out : List ByteArray} {k : Nat} (h : (inner d)[k]? = some x) : mfreeK d l out (k + 1) = mfree x (l ++ bnd d k) (mfreeK d l out k) := foldI_next h
theorem mfreeK_all {d : D} {l out : List ByteArray} (h : ((d.kind == 2 && !memB l d.text) && !memB out d.text) = false) : mfreeK d l out (inner d).length = mfree d l out := by
  rw [mfree_eq, if_neg (by rw [h]; decide)]
  unfold mfreeK; rw [List.take_length]
/-- All terms in a term, in order. -/
def mall (d : D) : List D := mcata (fun d rs => d :: rs.flatten) d
theorem mall_eq (d : D) : mall d = d :: (inner d).flatMap mall := by
  unfold mall
  rw [mcata_eq]
  rfl
def mcount (p : D → Bool) (d : D) : Nat := (mall d).countP p
theorem mcount_eq (p : D → Bool) (d : D) : mcount p d = (if p d = true then 1 else 0) + ((inner d).map (mcount p)).sum := by
  unfold mcount
  rw [mall_eq, List.countP_cons]
  have : ∀ l : List D, (l.flatMap mall).countP p = (l.map fun x => (mall x).countP p).sum := by
    intro l
    induction l with
    | nil => rfl
    | cons x l ih => simp [List.flatMap_cons, List.countP_append, ih]
  rw [this]; omega
def mcountK (p : D → Bool) (d : D) (k : Nat) : Nat := (if p d = true then 1 else 0) + (((inner d).take k).map (mcount p)).sum
theorem mcountK_zero {p : D → Bool} {d : D} : mcountK p d 0 = if p d = true then 1 else 0 := by simp [mcountK]
theorem mcountK_next {p : D → Bool} {d x : D} {k : Nat} (h : (inner d)[k]? = some x) : mcountK p d (k + 1) = mcountK p d k + mcount p x := by
  unfold mcountK; rw [take_next h]; simp [Nat.add_assoc]
theorem mcountK_all {p : D → Bool} {d : D} : mcountK p d (inner d).length = mcount p d := by unfold mcountK; rw [List.take_length, ← mcount_eq]
theorem inner_sizes (d : D) : D.sizes (inner d) ≤ D.sizes d.kids := by
  unfold inner
  have : ∀ (n : Nat) (l : List D), D.sizes (l.drop n) ≤ D.sizes l := by
    intro n
    induction n with
    | zero => intro l; simp
    | succ n ih => intro l; cases l with
      | nil => simp
      | cons x l => have := ih l; simp only [List.drop_succ_cons, D.sizes]; omega
  exact this _ _
theorem mall_len (d : D) : (mall d).length ≤ d.size := by
  induction d using D.ind with
  | _ k n t l ih =>
    generalize hd : D.mk k n t l = d at *
    have hl : d.kids = l := by rw [← hd]; rfl
    subst hl
    clear hd
    rw [mall_eq, D.size_kids]
    have h1 := inner_sizes d
    have h2 : ∀ l : List D, (∀ x, x ∈ l → x ∈ d.kids) → (l.flatMap mall).length ≤ D.sizes l := by
      intro l
      induction l with
      | nil => intro _; simp
      | cons x l ih2 =>
        intro hx
        have := ih x (hx x (by simp))
        have := ih2 fun y hy => hx y (by simp [hy])
        simp only [List.flatMap_cons, List.length_append, D.sizes]; omega
    have := h2 (inner d) fun x hx => inner_mem hx
    simp only [List.length_cons]; omega
theorem mcount_le {p : D → Bool} {d : D} : mcount p d ≤ d.size := Nat.le_trans List.countP_le_length (mall_len d)
theorem mcountK_le {p : D → Bool} {d : D} {k : Nat} : mcountK p d k ≤ mcount p d := by
  rw [mcount_eq]
  unfold mcountK
  have : ((inner d).map (mcount p)).sum = (((inner d).take k).map (mcount p)).sum + (((inner d).drop k).map (mcount p)).sum := by
    rw [← List.sum_append, ← List.map_append, List.take_append_drop]
  omega
theorem mfree_len (d : D) : ∀ l out, (mfree d l out).length ≤ out.length + d.size := by
  induction d using D.ind with
  | _ k n t l ih =>
    generalize hd : D.mk k n t l = d at *
    have hl : d.kids = l := by rw [← hd]; rfl
    subst hl
    clear hd
    intro l out
    rw [mfree_eq]
    have hs := D.size_kids d
    split
    · simp; omega
    · have h1 := inner_sizes d
      have h2 : ∀ (r : List D) (i : Nat) (out : List ByteArray), (∀ x, x ∈ r → x ∈ d.kids) → (foldI (fun i x out => mfree x (l ++ bnd d i) out) i r out).length ≤ out.length + D.sizes r := by
        intro r
        induction r with
        | nil => intro i out _; simp [foldI, D.sizes]
        | cons x r ih2 =>
          intro i out hx
          have e1 := ih x (hx x (by simp)) (l ++ bnd d i) out
          have e2 := ih2 (i + 1) (mfree x (l ++ bnd d i) out) fun y hy => hx y (by simp [hy])
          simp only [foldI, D.sizes]; omega
      have := h2 (inner d) 0 out fun x hx => inner_mem hx
      omega
theorem mfreeK_len {d : D} {l out : List ByteArray} {k : Nat} : (mfreeK d l out k).length ≤ out.length + D.sizes ((inner d).take k) := by
  have h2 : ∀ (r : List D) (i : Nat) (out : List ByteArray), (foldI (fun i x out => mfree x (l ++ bnd d i) out) i r out).length ≤ out.length + D.sizes r := by
    intro r
    induction r with
    | nil => intro i out; simp [foldI, D.sizes]
    | cons x r ih2 =>
      intro i out
      have e1 := mfree_len x (l ++ bnd d i) out
      have e2 := ih2 (i + 1) (mfree x (l ++ bnd d i) out)
      simp only [foldI, D.sizes]; omega
  exact h2 _ _ _
theorem bnd_len (d : D) (i : Nat) : (bnd d i).length ≤ 2 := by unfold bnd; split <;> (try split) <;> simp

/-! ### what a word says of the list -/
section
variable {d : D} (h : GoodM d)
include h
theorem GoodM.ne : d.kind = 3 → d.kids ≠ [] := fun hk => (h.list hk).1
theorem GoodM.n : d.kind = 3 → d.head.text ≠ sQuote → 1 + shN d.head.text ≤ d.kids.length := by
  intro hk hq
  rcases (h.list hk).2.2.2.2 with ⟨e, _⟩ | ⟨e, f, x, b, k, _⟩ | ⟨e, x, a, b, k, _⟩ | ⟨_, k, _, hf, hl, _⟩
  · exact absurd e hq
  · rw [k, e, show shN sFn = 2 from rfl]; simp
  · rw [k, e, show shN sLet = 1 from rfl]; simp
  · have : shN d.head.text = 0 := by
      rcases shp_cases d.head.text with ⟨e, s⟩ | ⟨e, s⟩ | ⟨e, s⟩ | ⟨e, s⟩ | ⟨e, s⟩ | ⟨e, s⟩ | ⟨e, s⟩ | ⟨e, s⟩ | ⟨s, _⟩
      all_goals first | (exact shN_of s) | (exact shN_none s) | (exact absurd e hf) | (exact absurd e hl)
    rw [this, k]; simp
omit h in
theorem isW_iff {w : ByteArray} : isW d w = true ↔ d.kind = 3 ∧ d.head.text = w := by simp [isW]
theorem GoodM.fn (hw : isW d sFn = true) : ∃ f x b, d.kids[1]? = some f ∧ d.kids[2]? = some x ∧ d.kids = [d.head, f, x, b] ∧ d1 d.kids = f ∧ d2 d.kids = x ∧ inner d = [b] ∧ mName f = true ∧ mName x = true ∧ d.kind = 3 ∧ d.head.text = sFn := by
  obtain ⟨hk, ht⟩ := isW_iff.1 hw
  rcases (h.list hk).2.2.2.2 with ⟨e, _⟩ | ⟨e, f, x, b, k, i, hf, hx⟩ | ⟨e, x, a, b, k, _⟩ | ⟨_, k, _, hf, hl, _⟩
  · rw [e] at ht; exact absurd ht (by decide)
  · exact ⟨f, x, b, by rw [k]; rfl, by rw [k]; rfl, k, by rw [k]; rfl, by rw [k]; rfl, i, hf, hx, hk, ht⟩
  · rw [e] at ht; exact absurd ht (by decide)
  · exact absurd ht hf
theorem GoodM.lett (hw : isW d sLet = true) : ∃ x a b, d.kids[1]? = some x ∧ d.kids = [d.head, x, a, b] ∧ d1 d.kids = x ∧ inner d = [a, b] ∧ mName x = true ∧ d.kind = 3 ∧ d.head.text = sLet := by
  obtain ⟨hk, ht⟩ := isW_iff.1 hw
  rcases (h.list hk).2.2.2.2 with ⟨e, _⟩ | ⟨e, f, x, b, k, _⟩ | ⟨e, x, a, b, k, i, hx⟩ | ⟨_, k, _, hf, hl, _⟩
  · rw [e] at ht; exact absurd ht (by decide)
  · rw [e] at ht; exact absurd ht (by decide)
  · exact ⟨x, a, b, by rw [k]; rfl, k, by rw [k]; rfl, i, hx, hk, ht⟩
  · exact absurd ht hl
end
theorem mchkL_none {l : List D} (h : NotYet (fun x => mchk x != 0) l l.length) : mchkL l = 0 := mchkL_zero.2 fun x hx => by simpa using h.all x hx
theorem mchkL_at : ∀ {l : List D} {k : Nat} {x : D}, NotYet (fun x => mchk x != 0) l k → l[k]? = some x → (mchk x != 0) = true → mchkL l = mchk x
  | [], k, x, h, hx, hc => by simp at hx
  | y :: l, 0, x, h, hx, hc => by
    simp only [List.getElem?_cons_zero, Option.some.injEq] at hx
    subst hx
    rw [mchkL_cons, if_pos hc]
  | y :: l, k + 1, x, h, hx, hc => by
    have h0 := h 0 y (by omega) rfl
    simp only at h0
    rw [mchkL_cons, h0, if_neg (by decide)]
    exact mchkL_at (l := l) (k := k) (fun j z hj hz => h (j + 1) z (Nat.succ_lt_succ hj) (by simpa using hz)) (by simpa using hx) hc
theorem shp_lt {s : ByteArray} {a b : Nat} (h : shp s = some (a, b)) : 1 + a ≤ b ∧ b ≤ 4 := by
  rcases shp_cases s with ⟨_, k⟩ | ⟨_, k⟩ | ⟨_, k⟩ | ⟨_, k⟩ | ⟨_, k⟩ | ⟨_, k⟩ | ⟨_, k⟩ | ⟨_, k⟩ | ⟨k, _⟩ <;> rw [k] at h <;> cases h <;> omega
theorem inner_good {d x0 : D} {r : List D} (hk : d.kids = x0 :: r) {a b : Nat} (hs : shp x0.text = some (a, b)) (hl : ((d.kids.length : Int) != (b : Int)) = false) : d.kind = 3 → d.head.text ≠ sQuote → 1 + shN d.head.text ≤ d.kids.length := by
  intro _ _
  rw [head_cons hk, shN_of hs]
  have := (shp_lt hs).1
  simp only [bne_eq_false_iff_eq] at hl
  omega
theorem inner_good0 {d x0 : D} {r : List D} (hk : d.kids = x0 :: r) (hs : shp x0.text = none) : d.kind = 3 → d.head.text ≠ sQuote → 1 + shN d.head.text ≤ d.kids.length := by
  intro _ _
  rw [head_cons hk, shN_none hs, hk]; simp
/-- The program's look, once the list has a word. -/
theorem mchk_list {d x0 : D} {r : List D} (h1 : (d.kind == 1) = false) (hm : mName d = false) (h3 : (d.kind != 3) = false) (hk : d.kids = x0 :: r) (hx : (x0.kind != 2) = false) : mchk d = match shp x0.text with
    | some (nm, sz) => if ((d.kids.length : Int) != sz || ((d.kids.drop 1).take nm).any fun x => !mName x) = true then 4 else mchkL (inner d)
    | none => if (!(arity x0.text).2) = true then 4 else if ((arity x0.text).1 != (d.kids.length : Int) - 1) = true then 11 else mchkL (inner d) := by
  rw [mchk_eq, h1, hm, if_neg (by decide), head_cons hk, h3, hx]
  have : ((d.kids.length : Int) == 0) = false := by rw [hk]; simp; omega
  rw [this]
  refine (if_neg (by decide)).trans ?_
  cases shp x0.text with
  | none => rfl
  | some p => rfl

theorem take_tail {α β : Type} (f : α → β) (l : List α) (n : Nat) : (List.take (1 + n) (l.map f)).tail = ((l.drop 1).take n).map f := by
  rw [Nat.add_comm]
  cases l <;> simp

theorem cut_full (σ : Store) : σ.cut σ.objs.length σ.toks.length = σ := by simp [Store.cut]
theorem tok_cutA {σ : Store} {kt a b : Nat} {t : Tok} (h : kt < σ.toks.length) : (({ σ.tok kt a with toks := (σ.tok kt a).toks ++ [t] } : Store).tok kt b).cut σ.objs.length σ.toks.length = σ.tok kt b := by
  simp only [Store.cut, Store.tok, List.take_length]
  congr 1
  apply List.ext_getElem?
  intro j
  rw [List.getElem?_take]
  split
  · rename_i hj
    rw [List.getElem?_modify, List.getElem?_append_left (by simpa using hj), List.getElem?_modify, List.getElem?_modify]
    by_cases e : kt = j
    · subst e
      rw [List.getElem?_eq_getElem h]; simp
    · simp [e]
  · rename_i hj
    rw [List.getElem?_eq_none (by simp; omega)]

theorem sizes_take : ∀ {l : List D} {k : Nat} {x : D}, l[k]? = some x → D.sizes (l.take k) + x.size ≤ D.sizes l
  | [], k, x, h => by simp at h
  | y :: l, 0, x, h => by
    simp only [List.getElem?_cons_zero, Option.some.injEq] at h
    subst h
    simp only [List.take_zero, D.sizes]; omega
  | y :: l, k + 1, x, h => by
    have := sizes_take (l := l) (k := k) (x := x) (by simpa using h)
    simp only [List.take_succ_cons, D.sizes]; omega
theorem tok_get_app {σ : Store} {kt n a : Nat} {e : TypeId} {sz : Nat} {t : Tok} (h : σ.toks[kt]? = some ⟨n, e, sz⟩) : ((σ.tok kt a).toks ++ [t])[kt]? = some ⟨a, e, sz⟩ := by
  have hl := (List.getElem?_eq_some_iff.1 h).1
  rw [List.getElem?_append_left (by simpa [Store.tok] using hl)]
  simp only [Store.tok, List.getElem?_modify, h]
  simp

theorem mall_good {d : D} : GoodM d → ∀ x, x ∈ mall d → GoodM x := by
  induction d using D.ind with
  | _ k n t l ih =>
    generalize hd : D.mk k n t l = d at *
    have hl : d.kids = l := by rw [← hd]; rfl
    subst hl
    clear hd
    intro hg x hx
    rw [mall_eq] at hx
    rcases List.mem_cons.1 hx with rfl | hx
    · exact hg
    · obtain ⟨y, hy, hxy⟩ := List.mem_flatMap.1 hx
      exact ih y (inner_mem hy) (hg.part hy) x hxy
def pOne (d : D) : Bool := isW d sLift || isW d sRun
def mone (d : D) : Bool := ((mcount pOne d : Nat) : Int) == 0
end Go.Aw

/- Numbers out of strings: a call that leaves the world but for new blocks; what a number spells is read back. No program is named. -/
namespace Go.Aw
open Go Go.RowKit
theorem pur_of_below {P : Program} {G : List (Nat × PV)} {f : FuncId} {ps : List PV} {r : AV} (l : List KA) (hps : fitsAll l ps = true)
    (h : ∀ w, (∀ n p, (n, p) ∈ G → ∃ B S, RP B S w p (.pointer (some ⟨n, 0, none⟩))) → Calls P f (ps.map atomV).toArray w fun e w' => ∃ v, e = .returned v ∧ Below w.heap.size w w' ∧ ∀ g tk w, RA g tk w r v) : Pur P G f (ps.map .pv) r := by
  intro σ hgl g w cargs hinv hlen hargs
  have hc : cargs = ps.map atomV := by
    refine fitsAll_val (B := g.B) (S := g.S) (w := w) hps (by simpa using hlen) (fun i x v hx hv => ?_)
    exact (hargs i (.pv x) v (by simp [hx]) hv).pv_inv
  subst hc
  refine (h w (fun n p hm => ⟨_, _, hinv.glob n p (by rw [hgl]; exact hm)⟩)).mono ?_
  rintro e w' ⟨v, rfl, hb, hr⟩
  obtain ⟨h1, h2⟩ := hinv.step hb.size (fun b hlt => hb.block b hlt)
  exact ⟨v, r, σ, g, rfl, ⟨rfl, rfl⟩, h1, ⟨h2, rfl, fun _ h => h, fun b hK => hb.block b (hinv.kept b hK).1, hb.size, hb.os, hb.tape, hb.output, hinv.lio, hinv.clo⟩, hr g _ w'⟩

/-- A variable that holds an error. -/
theorem rp_err {B : Nat} {S : Nat → Nat → Prop} {w : World} {t : TypeId} {n : Nat} (h : RP B S w (.ptr [.iface t (.ptr [])]) (.pointer (some ⟨n, 0, none⟩))) : ∃ ev, w.cell? ⟨n, 0, none⟩ = some ev ∧ ∃ te pe, ev = .iface te pe := by
  cases h with
  | ptr hl hc hr =>
    rename_i vs
    match vs, hl, hc, hr with
    | [v], _, hc, hr =>
      have h1 := (hc 0 v rfl).2.1
      have h2 := hr 0 _ v rfl rfl
      cases h2 with
      | iface h3 => exact ⟨_, by simpa using h1, _, _, rfl⟩

/-- What Atoi gives. -/
def atoiR (s : ByteArray) : Int × Bool := match Lib.atoiAll s.data.toList with
  | .ok v => (v, true)
  | .range => (Lib.atoiSat s.data.toList, false)
  | _ => (0, false)

theorem fold_ge : ∀ (l : List UInt8) (a : Nat), a ≤ l.foldl (fun a c => a * 10 + (c.toNat - 48)) a
  | [], a => Nat.le_refl a
  | c :: r, a => by
    have := fold_ge r (a * 10 + (c.toNat - 48))
    simp only [List.foldl_cons]; omega
theorem parse_fold : ∀ (l : List UInt8) (a : Nat), (∀ c, c ∈ l → 48 ≤ c.toNat ∧ c.toNat ≤ 57) → l.foldl (fun a c => a * 10 + (c.toNat - 48)) a < 9223372036854775808 → Lib.parseUint10 a l = .ok (l.foldl (fun a c => a * 10 + (c.toNat - 48)) a)
  | [], a, _, _ => rfl
  | c :: r, a, h, hb => by
    simp only [List.foldl_cons] at hb ⊢
    have h1 := fold_ge r (a * 10 + (c.toNat - 48))
    rw [Lib.parseUint10, if_pos (h c (by simp)), if_neg (by omega), if_neg (by omega)]
    exact parse_fold r _ (fun x hx => h x (by simp [hx])) hb
theorem dec_digits : ∀ (u : Nat) c, c ∈ Lib.decDigits u → 48 ≤ c.toNat ∧ c.toNat ≤ 57 := by
  intro u
  induction u using Nat.strongRecOn with
  | _ u ih =>
    intro c hc
    rw [Lib.decDigits] at hc
    split at hc
    · rename_i h
      simp only [List.mem_singleton] at hc
      subst hc
      rw [digit_nat h]; omega
    · rcases List.mem_append.1 hc with hc | hc
      · exact ih (u / 10) (by omega) c hc
      · simp only [List.mem_singleton] at hc
        subst hc
        rw [digit_nat (Nat.mod_lt u (by omega : 10 > 0))]; omega
theorem atoi_itoa {n : Int} (h0 : 0 ≤ n) (h1 : n ≤ 9223372036854775807) : Lib.atoiAll (Lib.itoa n) = .ok n := by
  rw [itoa_nat h0]
  obtain ⟨c, r, hd, hc1, hc2⟩ := dec_head n.toNat
  have hall := dec_digits n.toNat
  have hval := dval_dec n.toNat
  rw [hd] at hall hval ⊢
  unfold dval at hval
  have hp : Lib.parseMag (c :: r) = .ok n.toNat := by
    unfold Lib.parseMag
    rw [if_neg (by simp), parse_fold _ 0 hall (by rw [hval]; omega), hval]
  unfold Lib.atoiAll
  simp only
  rw [if_neg (by omega), hp]
  simp only
  have hne : ¬ c.toNat = 45 := by omega
  rw [if_neg (by omega), if_neg (by omega), if_neg hne]
  congr 1
  omega
theorem atoiR_itoa {n : Int} (h0 : 0 ≤ n) (h1 : n ≤ 9223372036854775807) : atoiR (itoaB n) = (n, true) := by
  unfold atoiR itoaB
  simp only
  rw [atoi_itoa h0 h1]

theorem atoi_range {l : List UInt8} {v : Int} (h : Lib.atoiAll l = .ok v) : -9223372036854775808 ≤ v ∧ v ≤ 9223372036854775807 := by
  unfold Lib.atoiAll at h
  split at h
  · cases h
  · simp only at h
    split at h
    · cases h
    · cases h
    · split at h
      · cases h
      · split at h
        · cases h
        · injection h with h
          subst h
          split <;> omega
theorem atoiR_range (s : ByteArray) : -9223372036854775808 ≤ (atoiR (s.extract 2 s.size)).1 ∧ (atoiR (s.extract 2 s.size)).1 ≤ 9223372036854775807 := by
  unfold atoiR
  split
  · rename_i v h; exact atoi_range h
  · simp only [Lib.atoiSat]; split <;> omega
  · simp
/-- The plain name with a number. -/
def namedB (n : Int) : ByteArray := ⟨#[120, 46]⟩ ++ itoaB n
/-- One of the plain names. -/
def pname (s : ByteArray) : Bool :=
  if (decide ((s.size : Int) < 3) || !decide (s.extract 0 2 = ⟨#[120, 46]⟩)) = true then false else
  ((atoiR (s.extract 2 s.size)).2 && decide (0 ≤ (atoiR (s.extract 2 s.size)).1)) && decide (namedB (atoiR (s.extract 2 s.size)).1 = s)
end Go.Aw

/- Terms of layer 25 (four): renaming, what is bound, mapping. No program is named. -/
namespace Go.Aw
open Go
/-- A list told by its places. -/
def mapI {α β : Type} (f : Nat → α → β) (l : List α) : List β := l.zipIdx.map fun p => f p.2 p.1
theorem mapI_get {α β : Type} (f : Nat → α → β) (l : List α) (i : Nat) : (mapI f l)[i]? = l[i]?.map (f i) := by
  unfold mapI
  rw [List.getElem?_map, List.getElem?_zipIdx]
  cases l[i]? <;> simp
theorem mapI_length {α β : Type} (f : Nat → α → β) (l : List α) : (mapI f l).length = l.length := by simp [mapI]
theorem mapI_map {α β γ : Type} (f : Nat → β → γ) (g : α → β) (l : List α) : mapI f (l.map g) = mapI (fun i x => f i (g x)) l := by
  apply List.ext_getElem?
  intro i
  simp only [mapI_get, List.getElem?_map, Option.map_map]
  rfl
theorem mapI_next {α β : Type} {f : Nat → α → β} {l : List α} {k : Nat} {x : α} (h : l[k]? = some x) : (mapI f l).take (k + 1) = (mapI f l).take k ++ [f k x] := take_next (by rw [mapI_get, h]; rfl)
theorem mapI_mem {α β : Type} {f : Nat → α → β} {l : List α} {y : β} (h : y ∈ mapI f l) : ∃ i x, l[i]? = some x ∧ y = f i x := by
  obtain ⟨i, hi, rfl⟩ := List.getElem_of_mem h
  have h2 : (mapI f l)[i]? = some (mapI f l)[i] := List.getElem?_eq_getElem hi
  rw [mapI_get] at h2
  obtain ⟨x, h3, h4⟩ := Option.map_eq_some_iff.1 h2
  exact ⟨i, x, h3, h4.symm⟩

/-- The last place of a name. -/
def lastI : List ByteArray → ByteArray → Option Nat
  | [], _ => none
  | x :: r, s => match lastI r s with
    | some i => some (i + 1)
    | none => if decide (x = s) = true then some 0 else none
theorem lastI_spec : ∀ (l : List ByteArray) (s : ByteArray), (∀ i : Nat, lastI l s = some i → l[i]? = some s ∧ ∀ j : Nat, i < j → l[j]? ≠ some s) ∧ (lastI l s = none → ∀ j : Nat, l[j]? ≠ some s)
  | [], s => ⟨fun i h => (by cases h), fun _ j => (by simp)⟩
  | x :: r, s => by
    obtain ⟨h1, h2⟩ := lastI_spec r s
    simp only [lastI]
    cases hr : lastI r s with
    | some i =>
      obtain ⟨k1, k2⟩ := h1 i hr
      refine ⟨fun j h => ?_, fun h => (by cases h)⟩
      cases h
      refine ⟨by simpa using k1, fun m hm => ?_⟩
      cases m with
      | zero => omega
      | succ m => simpa using k2 m (by omega)
    | none =>
      have k := h2 hr
      by_cases hx : x = s
      · refine ⟨fun j h => ?_, fun h => (by simp [hx] at h)⟩
        simp only [hx, decide_true, if_true, Option.some.injEq] at h
        subst h
        refine ⟨by simp [hx], fun m hm => ?_⟩
        cases m with
        | zero => omega
        | succ m => simpa using k m
      · refine ⟨fun j h => (by simp [hx] at h), fun _ m => ?_⟩
        cases m with
        | zero => simpa using hx
        | succ m => simpa using k m
/-- None of the last k names. -/
def NoneLast (l : List ByteArray) (s : ByteArray) (k : Nat) : Prop := ∀ j : Nat, j < k → l[l.length - 1 - j]? ≠ some s
theorem lastI_found {l : List ByteArray} {s : ByteArray} {k : Nat} (h : NoneLast l s k) (hk : k < l.length) (hx : l[l.length - 1 - k]? = some s) : lastI l s = some (l.length - 1 - k) := by
  obtain ⟨h1, h2⟩ := lastI_spec l s
  cases hr : lastI l s with
  | none => exact absurd hx (h2 hr _)
  | some i =>
    obtain ⟨k1, k2⟩ := h1 i hr
    have hi := (List.getElem?_eq_some_iff.1 k1).1
    rcases Nat.lt_trichotomy i (l.length - 1 - k) with h3 | h3 | h3
    · exact absurd hx (k2 _ h3)
    · rw [h3]
    · have := h (l.length - 1 - i) (by omega)
      rw [show l.length - 1 - (l.length - 1 - i) = i by omega] at this
      exact absurd k1 this
theorem lastI_none {l : List ByteArray} {s : ByteArray} (h : NoneLast l s l.length) : lastI l s = none := by
  obtain ⟨h1, _⟩ := lastI_spec l s
  cases hr : lastI l s with
  | none => rfl
  | some i =>
    obtain ⟨k1, _⟩ := h1 i hr
    have hi := (List.getElem?_eq_some_iff.1 k1).1
    have := h (l.length - 1 - i) (by omega)
    rw [show l.length - 1 - (l.length - 1 - i) = i by omega] at this
    exact absurd k1 this
/-- What old names become. -/
def envP (env : List ByteArray) : List (ByteArray × ByteArray) := mapI (fun (i : Nat) x => (x, namedB i)) env
theorem envP_length (env : List ByteArray) : (envP env).length = env.length := mapI_length _ _
theorem envP_get {env : List ByteArray} {i : Nat} : (envP env)[i]? = env[i]?.map fun x => (x, namedB i) := mapI_get _ _ _
theorem envP_snoc (env : List ByteArray) (x : ByteArray) : envP (env ++ [x]) = envP env ++ [(x, namedB (env.length : Nat))] := by
  have h := mapI_next (f := fun (i : Nat) x => (x, namedB i)) (l := env ++ [x]) (k := env.length) (x := x) (by simp)
  unfold envP
  rw [show (mapI (fun (i : Nat) x => (x, namedB i)) (env ++ [x])).take (env.length + 1) = mapI (fun (i : Nat) x => (x, namedB i)) (env ++ [x]) from List.take_of_length_le (by simp [mapI_length])] at h
  rw [h]
  congr 1
  apply List.ext_getElem?
  intro i
  rw [List.getElem?_take, mapI_get, mapI_get]
  split
  · rename_i hi; rw [List.getElem?_append_left hi]
  · rename_i hi; rw [List.getElem?_eq_none (by omega)]; rfl

/-- The names that a term binds, and what they become. -/
def nmsD (d : D) : List ByteArray := ((d.kids.drop 1).take (shN d.head.text)).map D.text
def newN (d : D) (n : Nat) : List ByteArray := (List.range (shN d.head.text)).map fun j => namedB ((n + j : Nat) : Int)
abbrev FD := List ByteArray → D
def renStep (d : D) (rs : List FD) : FD := fun env =>
  if (d.kind == 2) = true then (match lastI env d.text with | some i => dsym (namedB (i : Nat)) | none => d)
  else if (d.kind != 3) = true then d else if decide (d.head.text = sQuote) = true then d else
  dlist (d.head :: (newN d env.length).map dsym ++ mapI (fun i r => r (env ++ bnd d i)) rs)
/-- A term with its plain names. -/
def mren (d : D) : FD := mcata renStep d
theorem mren_eq (d : D) (env : List ByteArray) : mren d env =
    if (d.kind == 2) = true then (match lastI env d.text with | some i => dsym (namedB (i : Nat)) | none => d)
    else if (d.kind != 3) = true then d else if decide (d.head.text = sQuote) = true then d else
    dlist (d.head :: (newN d env.length).map dsym ++ mapI (fun i x => mren x (env ++ bnd d i)) (inner d)) := by
  unfold mren
  rw [mcata_eq]
  unfold renStep
  rw [mapI_map]
/-- The names that are bound in a term. -/
def mbnd (d : D) : List ByteArray := mcata (fun d rs => (if (d.kind == 3 && !decide (d.head.text = sQuote)) = true then nmsD d else []) ++ rs.flatten) d
theorem mbnd_eq (d : D) : mbnd d = (if (d.kind == 3 && !decide (d.head.text = sQuote)) = true then nmsD d else []) ++ (inner d).flatMap mbnd := by
  unfold mbnd
  rw [mcata_eq]
  rfl
/-- A term in which each becomes another one, those in it first. -/
def mapStep (f : D → D) (d : D) (rs : List D) : D := if (d.kind != 3) = true then f d else if decide (d.head.text = sQuote) = true then f d else f (dlist (d.head :: (nmsD d).map dsym ++ rs))
def mmap (f : D → D) (d : D) : D := mcata (mapStep f) d
theorem mmap_eq (f : D → D) (d : D) : mmap f d = if (d.kind != 3) = true then f d else if decide (d.head.text = sQuote) = true then f d else f (dlist (d.head :: (nmsD d).map dsym ++ (inner d).map (mmap f))) := by
  unfold mmap
  rw [mcata_eq]
  rfl
section
variable {d : D} (h : GoodM d)
include h
theorem GoodM.nms (hk : d.kind = 3) (hq : d.head.text ≠ sQuote) : (nmsD d).length = shN d.head.text := by
  unfold nmsD
  have := h.n hk hq
  simp; omega
theorem GoodM.bnd_nms (hk : d.kind = 3) (i : Nat) : bnd d i = [] ∨ bnd d i = nmsD d := by
  unfold bnd
  split
  · rename_i hw
    obtain ⟨f, x, b, _, _, hks, h1, h2, _, _, _, _, ht⟩ := h.fn hw
    right
    unfold nmsD
    rw [ht, show shN sFn = 2 from rfl, h1, h2, hks]; rfl
  · split
    · rename_i hw
      simp only [Bool.and_eq_true] at hw
      obtain ⟨x, a, b, _, hks, h1, _, _, _, ht⟩ := h.lett hw.1
      right
      unfold nmsD
      rw [ht, show shN sLet = 1 from rfl, h1, hks]; rfl
    · exact .inl rfl
end
/-- What going through a term needs of it. -/
def okT (d : D) : Prop := d.kind = 3 → d.kids ≠ [] ∧ (d.head.text ≠ sQuote → 1 + shN d.head.text ≤ d.kids.length)
def OkM (d : D) : Prop := ∀ x, x ∈ mall d → okT x
theorem GoodM.okT {d : D} (h : GoodM d) : Aw.okT d := fun hk => ⟨h.ne hk, h.n hk⟩
theorem GoodM.okM {d : D} (h : GoodM d) : OkM d := fun x hx => (mall_good h x hx).okT
theorem OkM.part {d x : D} (h : OkM d) (hx : x ∈ inner d) : OkM x := fun y hy => h y (by rw [mall_eq]; exact List.mem_cons_of_mem _ (List.mem_flatMap.2 ⟨x, hx, hy⟩))
theorem OkM.self {d : D} (h : OkM d) : okT d := h d (by rw [mall_eq]; simp)
theorem newN_len (d : D) (n : Nat) : (newN d n).length = shN d.head.text := by simp [newN]
/-- A list made of a head, names and terms, as a term. -/
theorem inner_made {h : D} {ns : List ByteArray} {l : List D} (hq : h.text ≠ sQuote) (hn : ns.length = shN h.text) : inner (dlist (h :: ns.map dsym ++ l)) = l := by
  rw [inner_eq]
  show (if ((3 : Int) != 3) = true then [] else if decide (h.text = sQuote) = true then [] else ((h :: ns.map dsym) ++ l).drop (1 + shN h.text)) = l
  rw [if_neg (by decide), if_neg (by simpa using hq), List.drop_left' (by simp [hn]; omega)]
theorem okT_made {h : D} {ns : List ByteArray} {l : List D} (hn : ns.length = shN h.text) : okT (dlist (h :: ns.map dsym ++ l)) := by
  intro _
  refine ⟨by simp [dlist, D.kids], fun _ => ?_⟩
  show 1 + shN h.text ≤ ((h :: ns.map dsym) ++ l).length
  simp [hn]; omega
theorem okM_leaf {d : D} (h : d.kind ≠ 3) : OkM d := by
  intro x hx
  rw [mall_eq, inner_none h] at hx
  simp only [List.flatMap_nil, List.mem_singleton] at hx
  subst hx
  exact fun hk => absurd hk h
theorem mren_ok {d : D} : GoodM d → ∀ env, OkM (mren d env) := by
  induction d using D.ind with
  | _ k n t l ih =>
    generalize hd : D.mk k n t l = d at *
    have hl : d.kids = l := by rw [← hd]; rfl
    subst hl
    clear hd
    intro hg env
    rw [mren_eq]
    split
    · split
      · exact okM_leaf (show (2 : Int) ≠ 3 by decide)
      · exact hg.okM
    · split
      · exact hg.okM
      · split
        · exact hg.okM
        · rename_i hq
          have hq' : d.head.text ≠ sQuote := by simpa using hq
          intro x hx
          rw [mall_eq, inner_made hq' (newN_len d _)] at hx
          rcases List.mem_cons.1 hx with rfl | hx
          · exact okT_made (newN_len d _)
          · obtain ⟨y, hy, hxy⟩ := List.mem_flatMap.1 hx
            obtain ⟨i, z, hz, rfl⟩ := mapI_mem hy
            have hzm := List.mem_of_getElem? hz
            exact ih z (inner_mem hzm) (hg.part hzm) _ x hxy

/-- What the last step of mapping needs. -/
def okF (d : D) : Prop := okT d ∧ (isW d sLift = true → d.kids.length = 2) ∧ (isW d sRun = true → d.kids.length = 3)
theorem GoodM.len {d : D} (h : GoodM d) : (isW d sLift = true → d.kids.length = 2) ∧ (isW d sRun = true → d.kids.length = 3) := by
  constructor
  · intro hw
    obtain ⟨hk, ht⟩ := isW_iff.1 hw
    rcases (h.list hk).2.2.2.2 with ⟨e, _⟩ | ⟨e, _⟩ | ⟨e, _⟩ | ⟨_, k, _, _, _, hn⟩
    · rw [e] at ht; exact absurd ht (by decide)
    · rw [e] at ht; exact absurd ht (by decide)
    · rw [e] at ht; exact absurd ht (by decide)
    · rw [ht, if_neg (by decide), if_neg (by decide), if_pos (.inr rfl)] at hn
      rw [k]; simp; omega
  · intro hw
    obtain ⟨hk, ht⟩ := isW_iff.1 hw
    rcases (h.list hk).2.2.2.2 with ⟨e, _⟩ | ⟨e, _⟩ | ⟨e, _⟩ | ⟨_, k, _, _, _, hn⟩
    · rw [e] at ht; exact absurd ht (by decide)
    · rw [e] at ht; exact absurd ht (by decide)
    · rw [e] at ht; exact absurd ht (by decide)
    · rw [ht, if_neg (by decide), if_pos (.inr rfl)] at hn
      rw [k]; simp; omega
theorem GoodM.okF {d : D} (h : GoodM d) : Aw.okF d := ⟨h.okT, h.len.1, h.len.2⟩
theorem GoodM.inner_length {d : D} (h : GoodM d) (hk : d.kind = 3) (hq : d.head.text ≠ sQuote) : d.kids.length = 1 + shN d.head.text + (inner d).length := by
  have := h.n hk hq
  rw [inner_eq, if_neg (by rw [hk]; decide), if_neg (by simpa using hq), List.length_drop]; omega
theorem GoodM.okF_made {d : D} (h : GoodM d) (hk : d.kind = 3) (hq : d.head.text ≠ sQuote) {ns : List ByteArray} {l : List D} (hn : ns.length = shN d.head.text) (hl : l.length = (inner d).length) : Aw.okF (dlist (d.head :: ns.map dsym ++ l)) := by
  have hlen := h.inner_length hk hq
  have e : ∀ w, isW (dlist (d.head :: ns.map dsym ++ l)) w = true → isW d w = true := by
    intro w hw
    obtain ⟨_, ht⟩ := isW_iff.1 hw
    exact isW_iff.2 ⟨hk, ht⟩
  have e2 : (dlist (d.head :: ns.map dsym ++ l)).kids.length = d.kids.length := by
    show ((d.head :: ns.map dsym) ++ l).length = _
    simp; omega
  exact ⟨okT_made hn, fun hw => by rw [e2]; exact h.len.1 (e _ hw), fun hw => by rw [e2]; exact h.len.2 (e _ hw)⟩
theorem nmsD_head {d x0 : D} {r : List D} (h : d.kids = x0 :: r) : nmsD d = ((d.kids.drop 1).take (shN x0.text)).map D.text := by unfold nmsD; rw [head_cons h]
end Go.Aw
