/- Part of the proof that the statement holds for every input that its row lets in: an own logic of abstract values over the given model, and laws of data and programs; no program is named in it. -/
import Derived.Test.YtnibcmaaehkhlaaGreatDoorZA2
import Derived.Lib.ItoaNum
import Derived.KernelRfl
import Derived.Lib.ItoaLen
import Derived.Lib.AtoiAll
import Derived.Lib.ConvBytes
import Derived.Lib.LaidTab
import Derived.Sort.Grow
import Derived.Deep.Draws
set_option linter.unusedSimpArgs false
set_option linter.unusedVariables false
namespace Go.Aw
open Go
/-! ### expressions that may be gone through -/
mutual
def okE : D → Bool
  | .mk k n t l => k == 1 || k == 2 || (k == 3 && !l.isEmpty && (decide (2 ≤ l.length) || !(decide ((l.headD dnone).text = sLet) || decide ((l.headD dnone).text = sCall))) && okEs (pdrop (.mk k n t l)) l)
def okEs : Nat → List D → Bool
  | _, [] => true
  | 0, x :: l => okE x && okEs 0 l
  | i + 1, _ :: l => okEs i l
end
theorem okEs_drop : ∀ (i : Nat) (l : List D), okEs i l = (l.drop i).all okE
  | 0, [] => rfl
  | i + 1, [] => rfl
  | 0, x :: l => by rw [okEs, okEs_drop 0 l]; rfl
  | i + 1, x :: l => by rw [okEs, okEs_drop i l]; rfl
theorem parts_nil {d : D} (hk : d.kind ≠ 3) : parts d = [] := by unfold parts; rw [if_pos (by simpa using hk)]
theorem isCall_iff {d : D} : isCall d = true ↔ d.kind = 3 ∧ d.head.text = sCall := by simp [isCall]
theorem parts_mem {d x : D} (h : x ∈ parts d) : x ∈ d.kids := by rw [parts_drop] at h; exact List.mem_of_mem_drop h

def pbool (b : Bool) : PV := .bool b
theorem sizes_append : ∀ (l r : List D), D.sizes (l ++ r) = D.sizes l + D.sizes r
  | [], r => by simp [D.sizes]
  | x :: l, r => by simp only [List.cons_append, D.sizes, sizes_append l r]; omega
@[go_sem high] theorem seq_enc (x : D) : seqPV 4 0 [(0, AV.pv (enc x))] = some [enc x] := by simp [seqPV, toPV, atomToPV, nrm_enc, enc_cells]

@[go_sem] theorem snoc1_get {α : Type} {l : List α} {a : α} : (l ++ [a])[l.length]? = some a := by simp
@[go_sem] theorem snoc2_get0 {α : Type} {l : List α} {a b : α} : (l ++ [a, b])[l.length]? = some a := by simp
@[go_sem] theorem snoc2_get {α : Type} {l : List α} {a b : α} : (l ++ [a, b])[l.length + 1]? = some b := by simp
@[go_sem] theorem snoc3_get {α : Type} {l : List α} {a b c : α} : (l ++ [a, b, c])[l.length + 2]? = some c := by simp

/-! ### a map and a list that grow -/
structure CMAt (σ : Store) (om kt : Nat) (e : TypeId) (st : CS) : Prop where
  ob : σ.objs[om]? = some (.map (mapK st.2) (mapV pbool st.2))
  tk : σ.toks[kt]? = some ⟨st.1.length, e, 4⟩
section
variable {σ : Store} {om kt : Nat} {e : TypeId} {st st' : CS}
theorem tok_self {k n : Nat} {t : Tok} (h : σ.toks[k]? = some t) (hn : t.n = n) : σ.tok k n = σ := by
  unfold Store.tok
  have : (σ.toks.modify k fun t => { t with n := n }) = σ.toks := by
    apply List.ext_getElem?
    intro j
    rw [getElem?_modify']
    split
    · subst_vars; rw [h]; rfl
    · rfl
  rw [this]
end
theorem head_cons {d x : D} {r : List D} (h : d.kids = x :: r) : d.head = x := by unfold D.head; rw [h]; rfl
end Go.Aw

namespace Go.Aw
open Go
/-! ### keys -/
theorem kq_iff {a b : D} : kq a b = true ↔ a.num = b.num ∧ a.text = b.text := by simp [kq]
theorem kq_refl (a : D) : kq a a = true := kq_iff.2 ⟨rfl, rfl⟩
theorem kq_symm {a b : D} (h : kq a b = true) : kq b a = true := kq_iff.2 ⟨(kq_iff.1 h).1.symm, (kq_iff.1 h).2.symm⟩
theorem kq_trans {a b c : D} (h : kq a b = true) (k : kq b c = true) : kq a c = true := kq_iff.2 ⟨(kq_iff.1 h).1.trans (kq_iff.1 k).1, (kq_iff.1 h).2.trans (kq_iff.1 k).2⟩
theorem kq_comm (a b : D) : kq a b = kq b a := by
  cases h : kq a b
  · cases h' : kq b a
    · rfl
    · rw [kq_symm h'] at h; cases h
  · exact (kq_symm h).symm
theorem kq_congr {a b : D} (h : kq a b = true) (c : D) : kq a c = kq b c := by
  cases h' : kq b c
  · cases h2 : kq a c
    · rfl
    · rw [kq_trans (kq_symm h) h2] at h'; cases h'
  · exact kq_trans h h'
section
variable {α : Type}
theorem kget_kset (m : List (D × α)) (d e : D) (v : α) : kget (kset m d v) e = if kq e d then some v else kget m e := by
  induction m with
  | nil => simp only [kset, kget, List.find?_cons, List.find?_nil]; cases kq e d <;> rfl
  | cons p r ih =>
    simp only [kset]
    by_cases h : kq d p.1 = true
    · rw [if_pos h]
      simp only [kget, List.find?_cons]
      rw [show kq e p.1 = kq e d by rw [kq_comm e p.1, kq_comm e d]; exact (kq_congr h e).symm]
      cases kq e d <;> rfl
    · rw [if_neg h]
      simp only [kget, List.find?_cons] at ih ⊢
      by_cases h2 : kq e p.1 = true
      · have h3 : kq e d = false := by
          cases h3 : kq e d
          · rfl
          · exact absurd (kq_trans (kq_symm h3) h2) h
        simp only [h2, h3]; rfl
      · simp only [h2]; exact ih
end
theorem seenB_kset (m : List (D × Bool)) (d e : D) : seenB (kset m d true) e = (kq e d || seenB m e) := by
  unfold seenB; rw [kget_kset]; cases kq e d <;> rfl
theorem kpar_kset (m : List (D × Int)) (d e : D) (v : Int) : kpar (kset m d v) e = if kq e d then (v, true) else kpar m e := by
  unfold kpar; rw [kget_kset]; cases kq e d <;> rfl
/-- Definitions with labels that are all different. -/
def Apart (l : List D) : Prop := l.Pairwise fun a b => kq a.head b.head = false

theorem headsGo_apart : ∀ {l : List D} {ps : List (D × Int)}, (headsGo ps l).1 = 0 → Apart l ∧ (∀ d, d ∈ l → (kpar ps d.head).2 = false) ∧
    ∀ f, kpar (headsGo ps l).2 f = (match l.find? fun d => kq f d.head with | some d => ((nlist (names (d1 d.kids))).length, true) | none => kpar ps f)
  | [], ps, _ => ⟨.nil, fun d hd => by simp at hd, fun f => rfl⟩
  | y :: l, ps, h => by
    rw [headsGo] at h
    by_cases hc : ((chead ps y).1 != 0) = true
    · rw [if_pos hc] at h; rw [h] at hc; simp at hc
    · rw [if_neg hc] at h
      have h0 : (chead ps y).1 = 0 := by simpa using hc
      obtain ⟨x0, x1, x2, ns, k1, k2, k3, k4, k5, k6, k7⟩ := chead_ok h0
      have hy : y.head = x0 := head_cons k1
      have hy1 : d1 y.kids = x1 := by rw [k1]; rfl
      obtain ⟨i1, i2, i3⟩ := headsGo_apart h
      rw [k7] at i2 i3
      have i4 : ∀ d, d ∈ l → kq d.head x0 = false ∧ (kpar ps d.head).2 = false := by
        intro d hd
        have := i2 d hd
        rw [kpar_kset] at this
        cases hk : kq d.head x0 with
        | true => rw [hk] at this; simp at this
        | false => rw [hk] at this; exact ⟨rfl, by simpa using this⟩
      refine ⟨List.pairwise_cons.2 ⟨fun d hd => by rw [hy, kq_comm]; exact (i4 d hd).1, i1⟩, fun d hd => ?_, fun f => ?_⟩
      · rcases List.mem_cons.1 hd with rfl | hd
        · rw [hy]; exact k4
        · exact (i4 d hd).2
      · rw [headsGo, if_neg hc, k7, i3 f, List.find?_cons, hy, kpar_kset]
        cases hf : kq f x0 with
        | false => rfl
        | true =>
          have : l.find? (fun d => kq f d.head) = none := by
            rw [List.find?_eq_none]
            intro d hd he
            have := (i4 d hd).1
            rw [kq_trans (kq_symm he) hf] at this
            cases this
          rw [this]
          show ((ns.length : Int), true) = (((nlist (names (d1 y.kids))).length : Int), true)
          rw [hy1, k5]; rfl

theorem defsL_get {l : List D} (h : Apart l) (f : D) : kget (defsL l) f = l.find? fun d => kq f d.head := by
  have key : ∀ (l : List D) (m : List (D × D)), Apart l → (∀ d, d ∈ l → kget m d.head = none) → kget (l.foldl (fun m d => kset m d.head d) m) f = (match l.find? fun d => kq f d.head with | some d => some d | none => kget m f) := by
    intro l
    induction l with
    | nil => intro m _ _; rfl
    | cons y l ih =>
      intro m ha hm
      have ha := List.pairwise_cons.1 ha
      rw [List.foldl_cons, ih _ ha.2 (fun d hd => by
        rw [kget_kset, show kq d.head y.head = false by rw [kq_comm]; exact ha.1 d hd]
        exact hm d (by simp [hd])), List.find?_cons, kget_kset]
      cases hf : kq f y.head with
      | false => rfl
      | true =>
        have : l.find? (fun d => kq f d.head) = none := by
          rw [List.find?_eq_none]
          intro d hd he
          have := ha.1 d hd
          rw [kq_trans (kq_symm hf) he] at this
          cases this
        rw [this]; rfl
  rw [defsL, key l [] h (fun _ _ => rfl)]
  cases l.find? fun d => kq f d.head <;> rfl

theorem bodies_ok {ps : List (D × Int)} : ∀ {l : List D}, bodies ps l = 0 → ∀ d, d ∈ l → cexpr ps (nlist (names (d1 d.kids))) (d2 d.kids) = 0
  | [], _, d, hd => by simp at hd
  | y :: l, h, d, hd => by
    rw [bodies] at h
    by_cases hc : (cexpr ps (nlist (names (d1 y.kids))) (d2 y.kids) != 0) = true
    · rw [if_pos hc] at h; rw [h] at hc; simp at hc
    · rw [if_neg hc] at h
      rcases List.mem_cons.1 hd with rfl | hd
      · simpa using hc
      · exact bodies_ok h d hd

theorem cll_zero {ps : List (D × Int)} {b : List ByteArray} : ∀ {l : List D}, cll ps b l = 0 ↔ ∀ x, x ∈ l → cexpr ps b x = 0
  | [] => by simp [cll, call]
  | x :: l => by
    rw [cll_cons]
    by_cases hc : (cexpr ps b x != 0) = true
    · rw [if_pos hc]
      simp at hc
      constructor
      · intro h; exact absurd h hc
      · intro h; exact absurd (h x (by simp)) hc
    · rw [if_neg hc, cll_zero]
      simp at hc
      simp [hc]

/-- An expression that has been checked, of right data. -/
theorem cexpr_list {ps : List (D × Int)} {b : List ByteArray} {d : D} (h : cexpr ps b d = 0) (hk : d.kind = 3) :
    d.kids ≠ [] ∧ d.head.kind = 2 ∧ ((d.head.text = sQuote ∧ d.kids.length = 2) ∨ (d.head.text = sIf ∧ d.kids.length = 4 ∧ cll ps b (d.kids.drop 1) = 0) ∨
      (d.head.text = sLet ∧ d.kids.length = 4 ∧ isName (d1 d.kids) = true ∧ cexpr ps b (d2 d.kids) = 0 ∧ cexpr ps (b ++ [(d1 d.kids).text]) (d.kids.getD 3 dnone) = 0) ∨
      (d.head.text = sCall ∧ ccall ps b d.kids = 0) ∨
      (d.head.text ≠ sQuote ∧ d.head.text ≠ sIf ∧ d.head.text ≠ sLet ∧ d.head.text ≠ sCall ∧ (arity d.head.text).2 = true ∧ (arity d.head.text).1 = (d.kids.length : Int) - 1 ∧ cll ps b (d.kids.drop 1) = 0)) := by
  rw [cexpr_eq] at h
  have e1 : (d.kind == 1) = false := by rw [hk]; rfl
  have e2 : (d.kind == 2) = false := by rw [hk]; rfl
  simp only [e1, e2, Bool.false_and, Bool.false_eq_true, if_false] at h
  by_cases h1 : ((d.kids.length : Int) == 0 || d.head.kind != 2) = true
  · rw [if_pos h1] at h; cases h
  rw [if_neg h1] at h
  simp only [Bool.or_eq_true, beq_iff_eq, bne_iff_ne, not_or, Decidable.not_not] at h1
  refine ⟨by intro e; rw [e] at h1; simp at h1, h1.2, ?_⟩
  by_cases h2 : d.head.text = sQuote
  · rw [if_pos (by simpa using h2)] at h
    split at h
    · cases h
    · rename_i h3; exact .inl ⟨h2, by simp at h3; omega⟩
  rw [if_neg (by simpa using h2)] at h
  by_cases h3 : d.head.text = sIf
  · rw [if_pos (by simpa using h3)] at h
    split at h
    · cases h
    · rename_i h4; exact .inr (.inl ⟨h3, by simp at h4; omega, h⟩)
  rw [if_neg (by simpa using h3)] at h
  by_cases h4 : d.head.text = sLet
  · rw [if_pos (by simpa using h4)] at h
    split at h
    · cases h
    · rename_i h5
      simp only [Bool.or_eq_true, bne_iff_ne, Bool.not_eq_true', not_or, Decidable.not_not, Bool.not_eq_false] at h5
      have h5l : d.kids.length = 4 := by omega
      have g2 : cnth ps b 2 d.kids = cexpr ps b (d2 d.kids) := cnth_get ps b 2 d.kids _ (by simp [d2, List.getD, h5l])
      have g3 : cnth ps (b ++ [(d.kids.getD 1 dnone).text]) 3 d.kids = cexpr ps (b ++ [(d.kids.getD 1 dnone).text]) (d.kids.getD 3 dnone) := cnth_get ps _ 3 d.kids _ (by simp [List.getD, h5l])
      rw [g2, g3] at h
      split at h
      · rename_i h6; rw [h] at h6; simp at h6
      · rename_i h6
        exact .inr (.inr (.inl ⟨h4, h5l, h5.2, by simpa using h6, h⟩))
  rw [if_neg (by simpa using h4)] at h
  by_cases h5 : d.head.text = sCall
  · rw [if_pos (by simpa using h5)] at h
    exact .inr (.inr (.inr (.inl ⟨h5, h⟩)))
  rw [if_neg (by simpa using h5)] at h
  split at h
  · cases h
  · rename_i h6
    split at h
    · cases h
    · rename_i h7
      exact .inr (.inr (.inr (.inr ⟨h2, h3, h4, h5, by simpa using h6, by simpa using h7, h⟩)))

theorem ccall_zero {ps : List (D × Int)} {b : List ByteArray} {l : List D} (h : ccall ps b l = 0) : 2 ≤ l.length ∧ isLabel (d1 l) = true ∧ (kpar ps (d1 l)).2 = true ∧ (kpar ps (d1 l)).1 = (l.length : Int) - 2 ∧ cll ps b (l.drop 2) = 0 := by
  unfold ccall at h
  by_cases h1 : (decide ((l.length : Int) < 2) || !isLabel (l.getD 1 dnone)) = true
  · rw [if_pos h1] at h; cases h
  rw [if_neg h1] at h
  split at h
  · cases h
  · rename_i h2
    split at h
    · cases h
    · rename_i h3
      simp only [Bool.or_eq_true, decide_eq_true_eq, Bool.not_eq_true', not_or, Bool.not_eq_false] at h1
      exact ⟨by omega, h1.2, by simp only [Bool.not_eq_true', Bool.not_eq_false] at h2; exact h2, by simp only [bne_iff_ne, Decidable.not_not] at h3; exact h3, h⟩

theorem sQ_ne_L : sQuote ≠ sLet := by decide
theorem sQ_ne_C : sQuote ≠ sCall := by decide
theorem sI_ne_C : sIf ≠ sCall := by decide
theorem sL_ne_C : sLet ≠ sCall := by decide
theorem sC_ne_Q : sCall ≠ sQuote := by decide
theorem sC_ne_L : sCall ≠ sLet := by decide

/-- All parts of a checked expression are checked, with some names. -/
theorem cexpr_parts {ps : List (D × Int)} {b : List ByteArray} {d : D} (h : cexpr ps b d = 0) (hk : d.kind = 3) : ∀ x, x ∈ parts d → ∃ b', cexpr ps b' x = 0 := by
  obtain ⟨hne, _, hc⟩ := cexpr_list h hk
  have e3 : (d.kind != 3) = false := by rw [hk]; rfl
  intro x hx
  unfold parts at hx
  rw [if_neg (by simp [e3])] at hx
  rcases hc with ⟨h1, _⟩ | ⟨h1, h2, h3⟩ | ⟨h1, h2, h3, h4, h5⟩ | ⟨h1, h2⟩ | ⟨h1, h2, h3, h4, h5, h6, h7⟩
  · rw [if_pos (by simpa using h1)] at hx; simp at hx
  · rw [if_neg (by rw [h1]; decide), if_neg (by rw [h1]; decide), if_neg (by rw [h1]; decide)] at hx
    exact ⟨b, cll_zero.1 h3 x hx⟩
  · rw [if_neg (by rw [h1]; decide), if_pos (by simpa using h1)] at hx
    have hd : d.kids.drop 2 = [d2 d.kids, d.kids.getD 3 dnone] := by
      match hkk : d.kids, h2 with
      | [a, b, c, e], _ => rfl
    rw [hd] at hx
    simp only [List.mem_cons, List.not_mem_nil, or_false] at hx
    rcases hx with rfl | rfl
    · exact ⟨b, h4⟩
    · exact ⟨_, h5⟩
  · rw [if_neg (by rw [h1]; decide), if_neg (by rw [h1]; decide), if_pos (by simpa using h1)] at hx
    exact ⟨b, cll_zero.1 (ccall_zero h2).2.2.2.2 x hx⟩
  · rw [if_neg (by simpa using h1), if_neg (by simpa using h3), if_neg (by simpa using h4)] at hx
    exact ⟨b, cll_zero.1 h7 x hx⟩

theorem formed_kids {d x : D} (h : formed d = true) (hx : x ∈ d.kids) : formed x = true := by
  rw [formed_eq] at h
  split at h
  · simp only [Bool.and_eq_true, beq_iff_eq] at h
    have : d.kids = [] := by cases hk : d.kids with
      | nil => rfl
      | cons a r => rw [hk] at h; simp at h; omega
    rw [this] at hx; simp at hx
  · split at h
    · simp only [Bool.and_eq_true, beq_iff_eq] at h
      have : d.kids = [] := by cases hk : d.kids with
        | nil => rfl
        | cons a r => rw [hk] at h; simp at h; omega
      rw [this] at hx; simp at hx
    · split at h
      · simp only [Bool.and_eq_true, Bool.not_eq_true', List.any_eq_false] at h
        simpa using h.2 x hx
      · cases h
theorem formed_kind {d : D} (h : formed d = true) : d.kind = 1 ∨ d.kind = 2 ∨ d.kind = 3 := by
  rw [formed_eq] at h
  split at h
  · rename_i h1; exact .inl (by simpa using h1)
  · split at h
    · rename_i h1; exact .inr (.inl (by simpa using h1))
    · split at h
      · rename_i h1; exact .inr (.inr (by simpa using h1))
      · cases h

/-- What has been checked may be gone through, and calls what is known. -/
theorem okE_of {ps : List (D × Int)} : ∀ (d : D) (b : List ByteArray), cexpr ps b d = 0 → formed d = true → okE d = true := by
  intro d
  induction d using D.ind with
  | _ k n t l ih =>
    intro b h hf
    rcases formed_kind hf with hk | hk | hk
    · simp only [D.kind] at hk; subst hk; rfl
    · simp only [D.kind] at hk; subst hk; rfl
    · have hp := cexpr_parts h hk
      obtain ⟨hne, _, hc⟩ := cexpr_list h hk
      have h2l : (D.mk k n t l).head.text = sLet ∨ (D.mk k n t l).head.text = sCall → 2 ≤ l.length := by
        intro ht
        rcases hc with ⟨h1, _⟩ | ⟨h1, h2, h3⟩ | ⟨h1, h2, h3, h4, h5⟩ | ⟨h1, h2⟩ | ⟨h1, h2, h3, h4, h5, h6, h7⟩
        · rw [h1] at ht; rcases ht with ht | ht
          · exact absurd ht sQ_ne_L
          · exact absurd ht sQ_ne_C
        · simp only [D.kids] at h2; omega
        · simp only [D.kids] at h2; omega
        · exact (ccall_zero h2).1
        · rcases ht with ht | ht
          · exact absurd ht h3
          · exact absurd ht h4
      simp only [D.kind] at hk
      subst hk
      rw [okE, okEs_drop]
      simp only [Bool.or_eq_true, Bool.and_eq_true, Bool.not_eq_true', List.all_eq_true, decide_eq_true_eq]
      refine .inr ⟨⟨⟨rfl, ?_⟩, ?_⟩, fun x hx => ?_⟩
      · cases l with
        | nil => exact (hne rfl).elim
        | cons => rfl
      · by_cases h2 : 2 ≤ l.length
        · exact .inl h2
        · refine .inr ?_
          simp only [Bool.or_eq_false_iff, decide_eq_false_iff_not]
          exact ⟨fun e => h2 (h2l (.inl e)), fun e => h2 (h2l (.inr e))⟩
      · have hx' : x ∈ parts (D.mk 3 n t l) := by rw [parts_drop]; exact hx
        obtain ⟨b', hb'⟩ := hp x hx'
        exact ih x (parts_mem hx') b' hb' (formed_kids hf (parts_mem hx'))

/-- Every label that is called is known. -/
theorem calls_known {ps : List (D × Int)} : ∀ (d : D) (b : List ByteArray), cexpr ps b d = 0 → formed d = true → ∀ st : CS, (∀ f, f ∈ st.1 → (kpar ps f).2 = true) → ∀ f, f ∈ (callsD d st).1 → (kpar ps f).2 = true := by
  intro d
  induction d using D.ind with
  | _ k n t l ih =>
    intro b h hf st hst f hm
    rw [callsD_eq] at hm
    have h0 : ∀ f, f ∈ (callStep (D.mk k n t l) st).1 → (kpar ps f).2 = true := by
      intro f hf
      unfold callStep at hf
      split at hf
      · rename_i hc
        simp only [List.mem_append, List.mem_singleton] at hf
        rcases hf with hf | rfl
        · exact hst f hf
        · simp only [Bool.and_eq_true] at hc
          have hi := isCall_iff.1 hc.1
          obtain ⟨hne, _, hcc⟩ := cexpr_list h hi.1
          rcases hcc with ⟨h1, _⟩ | ⟨h1, h2, h3⟩ | ⟨h1, h2, h3, h4, h5⟩ | ⟨h1, h2⟩ | ⟨h1, h2, h3, h4, h5, h6, h7⟩
          · exact absurd (h1.symm.trans hi.2) sQ_ne_C
          · exact absurd (h1.symm.trans hi.2) sI_ne_C
          · exact absurd (h1.symm.trans hi.2) sL_ne_C
          · exact (ccall_zero h2).2.2.1
          · exact absurd hi.2 h4
      · exact hst f hf
    have key : ∀ (r : List D), (∀ x, x ∈ r → x ∈ parts (D.mk k n t l)) → ∀ st : CS, (∀ f, f ∈ st.1 → (kpar ps f).2 = true) → ∀ f, f ∈ (r.foldl (fun st x => callsD x st) st).1 → (kpar ps f).2 = true := by
      intro r
      induction r with
      | nil => intro _ st hs f hf; exact hs f hf
      | cons x r ihr =>
        intro hr st hs f hf
        rw [List.foldl_cons] at hf
        have hx := hr x (by simp)
        by_cases hk : (D.mk k n t l).kind = 3
        · obtain ⟨b', hb'⟩ := cexpr_parts h hk x hx
          exact ihr (fun y hy => hr y (by simp [hy])) _ (fun f hf => ih x (parts_mem hx) b' hb' (formed_kids ‹_› (parts_mem hx)) st hs f hf) f hf
        · rw [parts_nil hk] at hx; simp at hx
    exact key _ (fun _ h => h) _ h0 f hm

/-! ### a right program -/
structure Right (p : D) : Prop where
  chk : fcheck p = 0
  sz : p.size ≤ 900000000

theorem dcheck_formed {p : D} (h : dcheck p = 0) : formed p = true := by
  unfold dcheck at h
  split at h
  · cases h
  · rename_i h1; simpa using h1

section
variable {p d f : D} (R : Right p)
include R
theorem Right.heads : (heads p).1 = 0 := (fcheck_heads R.chk).1
theorem Right.formed : formed p = true := dcheck_formed (heads_ok R.heads).1
theorem Right.def (hd : d ∈ p.kids) : ∃ x0 x1 x2 ns, d.kids = [x0, x1, x2] ∧ d.kind = 3 ∧ isLabel x0 = true ∧ names x1 = some ns ∧ ns.length ≤ 8 := def_ok R.heads hd
theorem Right.apart : Apart p.kids := by
  have h := R.heads
  rw [(heads_ok R.heads).2.2.2.2] at h
  exact (headsGo_apart h).1
theorem Right.par (f : D) : kpar (Aw.heads p).2 f = (match p.kids.find? fun d => kq f d.head with | some d => ((nlist (names (d1 d.kids))).length, true) | none => (0, false)) := by
  have h := R.heads
  rw [(heads_ok R.heads).2.2.2.2] at h ⊢
  exact (headsGo_apart h).2.2 f
theorem Right.body (hd : d ∈ p.kids) : cexpr (Aw.heads p).2 (nlist (names (d1 d.kids))) (d2 d.kids) = 0 := bodies_ok (fcheck_heads R.chk).2 d hd
theorem Right.bodyF (hd : d ∈ p.kids) : Aw.formed (d2 d.kids) = true := by
  obtain ⟨x0, x1, x2, ns, hk, _⟩ := R.def hd
  have : d2 d.kids = x2 := by rw [hk]; rfl
  rw [this]
  exact formed_kids (formed_kids R.formed hd) (by rw [hk]; simp)
theorem Right.ok (hd : d ∈ p.kids) : okE (d2 d.kids) = true := okE_of _ _ (R.body hd) (R.bodyF hd)
theorem Right.known (hd : d ∈ p.kids) (hf : f ∈ callsOf (d2 d.kids)) : ∃ e, e ∈ p.kids ∧ kq f e.head = true ∧ kget (defsL p.kids) f = some e := by
  have h := calls_known _ _ (R.body hd) (R.bodyF hd) ([], []) (fun f hf => by simp at hf) f hf
  rw [R.par f] at h
  rw [defsL_get R.apart]
  cases he : p.kids.find? fun d => kq f d.head with
  | none => rw [he] at h; cases h
  | some e => exact ⟨e, List.mem_of_find?_eq_some he, by have := List.find?_some he; simpa using this, rfl⟩
theorem Right.ne : p.kids ≠ [] := (heads_ok R.heads).2.2.1
theorem Right.head_mem : p.head ∈ p.kids := by
  obtain ⟨x, r, h⟩ := kids_cons R.ne
  rw [head_cons h, h]; simp
end
/-! ### what is reached -/
structure RI (p : D) (st : CS) : Prop where
  mem : ∀ d, d ∈ st.1 → d ∈ p.kids
  apart : Apart st.1
  seen : ∀ f, seenB st.2 f = st.1.any fun d => kq f d.head

theorem nodup_len {α : Type} : ∀ {l r : List α}, l.Nodup → (∀ x, x ∈ l → x ∈ r) → l.length ≤ r.length
  | [], r, _, _ => Nat.zero_le _
  | x :: l, r, hn, hs => by
    obtain ⟨a, b, rfl⟩ := List.append_of_mem (hs x (by simp))
    have hn := List.nodup_cons.1 hn
    have := nodup_len (l := l) (r := a ++ b) hn.2 (fun y hy => by
      have h := hs y (by simp [hy])
      simp only [List.mem_append, List.mem_cons] at h ⊢
      rcases h with h | rfl | h
      · exact .inl h
      · exact (hn.1 hy).elim
      · exact .inr h)
    simp only [List.length_append, List.length_cons] at this ⊢
    omega

theorem RI.len {p : D} {st : CS} (h : RI p st) : st.1.length ≤ p.kids.length := by
  refine nodup_len ?_ h.mem
  refine List.Pairwise.imp ?_ h.apart
  intro a b hab e
  subst e; rw [kq_refl] at hab; cases hab

theorem RI.step {p f e : D} {st : CS} (h : RI p st) (he : e ∈ p.kids) (hq : kq f e.head = true) (hg : kget (defsL p.kids) f = some e) : RI p (reachStep (defsL p.kids) st f) := by
  unfold reachStep
  split
  · rename_i hs
    have hs : seenB st.2 f = false := by simpa using hs
    have hdef : defOf (defsL p.kids) f = e := by unfold defOf; rw [hg]; rfl
    rw [hdef]
    rw [h.seen, List.any_eq_false] at hs
    refine ⟨fun d hd => ?_, ?_, fun g => ?_⟩
    · simp only [List.mem_append, List.mem_singleton] at hd
      rcases hd with hd | rfl
      · exact h.mem d hd
      · exact he
    · refine List.pairwise_append.2 ⟨h.apart, List.pairwise_singleton _ _, fun a ha b hb => ?_⟩
      simp only [List.mem_singleton] at hb
      subst hb
      have := hs a ha
      rw [kq_comm, ← kq_congr hq]
      simpa using this
    · rw [seenB_kset, h.seen, List.any_append, Bool.or_comm]
      simp only [List.any_cons, List.any_nil, Bool.or_false]
      rw [show kq g f = kq g e.head by rw [kq_comm g f, kq_comm g e.head]; exact kq_congr hq g]
  · exact h

theorem RI.fold {p : D} : ∀ {fs : List D} {st : CS}, RI p st → (∀ f, f ∈ fs → ∃ e, e ∈ p.kids ∧ kq f e.head = true ∧ kget (defsL p.kids) f = some e) → RI p (fs.foldl (reachStep (defsL p.kids)) st)
  | [], st, h, _ => h
  | f :: fs, st, h, hf => by
    rw [List.foldl_cons]
    obtain ⟨e, h1, h2, h3⟩ := hf f (by simp)
    exact RI.fold (h.step h1 h2 h3) (fun g hg => hf g (by simp [hg]))

theorem rst_inv {p : D} (R : Right p) : ∀ k, RI p (rst p k)
  | 0 => by
    refine ⟨fun d hd => ?_, List.pairwise_singleton _ _, fun f => ?_⟩
    · simp only [rst, rstK, List.mem_singleton] at hd
      subst hd; exact R.head_mem
    · simp only [rst, rstK, List.any_cons, List.any_nil, Bool.or_false, seenB, kget, List.find?_cons, List.find?_nil]
      cases kq f p.head.head <;> rfl
  | k + 1 => by
    have ih := rst_inv R k
    unfold rst at ih ⊢
    rw [rstK]
    split
    · exact ih
    · rename_i d hd
      exact ih.fold (fun f hf => R.known (ih.mem d (List.mem_of_getElem? hd)) hf)
theorem rst_stable {p : D} {k : Nat} (h : (rst p k).1.length ≤ k) : ∀ j, rst p (k + j) = rst p k
  | 0 => rfl
  | j + 1 => by
    have ih := rst_stable h j
    have : (rst p (k + j)).1[k + j]? = none := by rw [ih]; exact List.getElem?_eq_none (by omega)
    rw [← Nat.add_assoc, ← ih]
    unfold rst at this ⊢
    rw [rstK, this]
theorem reach_done {p : D} {k : Nat} (h : (rst p k).1.length ≤ k) (hk : k ≤ p.kids.length) : reach p = (rst p k).1 := by
  have := rst_stable h (p.kids.length - k)
  rw [show k + (p.kids.length - k) = p.kids.length by omega] at this
  unfold reach; rw [this]
theorem rst_next {p x : D} {k : Nat} (h : (rst p k).1[k]? = some x) : rst p (k + 1) = (callsOf (d2 x.kids)).foldl (reachStep (defsL p.kids)) (rst p k) := by
  unfold rst at h ⊢
  rw [rstK, h]; rfl

theorem reachStep_new {m : List (D × D)} {st : CS} {f e : D} (hs : seenB st.2 f = false) (hg : kget m f = some e) : reachStep m st f = (st.1 ++ [e], kset st.2 f true) := by
  unfold reachStep defOf; rw [hs, hg]; rfl
theorem reachStep_old {m : List (D × D)} {st : CS} {f : D} (hs : seenB st.2 f = true) : reachStep m st f = st := by
  unfold reachStep; rw [hs]; simp
/-- A nil slice that is handed over may be appended to. -/
theorem ACalls.adoptArg {P : Program} {f : FuncId} {pre post : List AV} {σ : Store} {e : TypeId} {sz : Nat} {R : AV → Store → Prop} (h : ACalls P f (pre ++ .acc [] σ.toks.length :: post) { σ with toks := σ.toks ++ [⟨0, e, sz⟩] } R) : ACalls P f (pre ++ .pv .nils :: post) σ R := by
  intro g w cargs hinv hlen hargs
  obtain ⟨i1, le1⟩ := hinv.adopt ⟨0, e, sz⟩
  refine (h _ w cargs i1 (by simpa using hlen) (fun i x v hx hv => ?_)).mono ?_
  · rcases Nat.lt_trichotomy i pre.length with hi | hi | hi
    · rw [List.getElem?_append_left hi] at hx
      exact (hargs i x v (by rw [List.getElem?_append_left hi]; exact hx) hv).mono le1 (fun _ _ h => h)
    · subst hi
      rw [List.getElem?_append_right (Nat.le_refl _), Nat.sub_self] at hx
      simp only [List.getElem?_cons_zero, Option.some.injEq] at hx
      subst hx
      have := hargs pre.length (.pv .nils) v (by rw [List.getElem?_append_right (Nat.le_refl _), Nat.sub_self]; rfl) hv
      exact this.adopt (xs := []) rfl hinv ⟨0, e, sz⟩ rfl (fun x hx => by simp at hx)
    · have e1 : ∀ (y : AV), (pre ++ y :: post)[i]? = post[i - pre.length - 1]? := by
        intro y
        rw [List.getElem?_append_right (by omega), show i - pre.length = (i - pre.length - 1) + 1 by omega, List.getElem?_cons_succ]
        rfl
      rw [e1] at hx
      exact (hargs i x v (by rw [e1]; exact hx) hv).mono le1 (fun _ _ h => h)
  · rintro e' w' ⟨v, r, σ', g', rfl, hR, hinv', hext, hra⟩
    exact ⟨v, r, σ', g', rfl, hR, hinv', Ext.trans (g' := { g with tb := g.tb ++ [none] }) (σ' := { σ with toks := σ.toks ++ [⟨0, e, sz⟩] }) (w' := w) ⟨le1, rfl, fun _ h => h, fun _ _ => rfl, Nat.le_refl _, rfl, rfl, rfl, hinv.lio, hinv.clo⟩ hext, hra⟩

/-! ### the store while this goes on -/
section
variable {σ : Store} {m : List (D × D)} {e : TypeId} {st : CS}
end
end Go.Aw

namespace Go.Aw
open Go
theorem formed_text {d : D} (h : formed d = true) : d.text.size ≤ 40 := by
  rw [formed_eq] at h
  split at h
  · simp only [Bool.and_eq_true, decide_eq_true_eq] at h
    rw [h.1]; decide
  · split at h
    · simp only [Bool.and_eq_true] at h
      have := h.2
      unfold isSym at this
      simp only [Bool.and_eq_true, Bool.not_eq_true', Bool.or_eq_false_iff, decide_eq_false_iff_not] at this
      have := this.1.1.1.2
      omega
    · split at h
      · simp only [Bool.and_eq_true, decide_eq_true_eq] at h
        rw [h.1.2]; decide
      · cases h
@[go_sem high] theorem seq_enc2 (x y : D) : seqPV 4 0 [(0, AV.pv (enc x)), (1, AV.pv (enc y))] = some [enc x, enc y] := by simp [seqPV, toPV, atomToPV, nrm_enc, enc_cells]
@[go_sem high] theorem seq_enc3 (x y z : D) : seqPV 4 0 [(0, AV.pv (enc x)), (1, AV.pv (enc y)), (2, AV.pv (enc z))] = some [enc x, enc y, enc z] := by simp [seqPV, toPV, atomToPV, nrm_enc, enc_cells]
section
variable {pre l : List D} {h : D → D} {k : Nat} {x : D}
end
section
variable {lab nm : D → D} {bare : Bool} {d : D} (h1 : (d.kind == 1) = false) (h2 : (d.kind == 2) = false)
include h1 h2
end
/-! ### where the labels stand -/
section
variable {σ : Store} {fl : FuncId} {ps ps' : List (D × Int)}
end
section
variable {σ : Store} {fc fl fn : FuncId} {ps : List (D × Int)} {bare : Bool}
end
end Go.Aw

namespace Go.Aw
open Go
/-- The number of expressions of a definition. -/
def bsize (d : D) : Nat := fsize (d2 d.kids)
def fSize (p : D) : Int × Int := if (fcheck p != 0) = true then (0, fcheck p) else (((p.kids.map bsize).sum : Nat), 0)
end Go.Aw

namespace Go.Aw
open Go
section
variable {σ : Store} {e : TypeId} {p : D} {l : List D}
end
end Go.Aw

namespace Go.Aw
open Go
/-! ### a program and itself -/
theorem isSym_es (lt : Int → Bool) : isSym lt es = false := rfl
theorem formed_num {d : D} (h : formed d = true) (hk : d.kind = 1) : d.text = es ∧ d.kids = [] := by
  rw [formed_eq, if_pos (by rw [hk]; rfl)] at h
  simp only [Bool.and_eq_true, beq_iff_eq, decide_eq_true_eq] at h
  exact ⟨h.1, List.eq_nil_of_length_eq_zero (by omega)⟩
theorem formed_sym {d : D} (h : formed d = true) (hk : d.kind = 2) : d.num = 0 ∧ d.kids = [] ∧ isSym isAtom d.text = true := by
  rw [formed_eq, if_neg (by rw [hk]; decide), if_pos (by rw [hk]; rfl)] at h
  simp only [Bool.and_eq_true, beq_iff_eq] at h
  exact ⟨h.1.1, List.eq_nil_of_length_eq_zero (by omega), h.2⟩
theorem isLabel_kind {d : D} (h : isLabel d = true) : d.kind = 1 ∨ d.kind = 2 := by
  unfold isLabel isName at h
  split at h
  · rename_i h1; exact .inl (by simpa using h1)
  · simp only [Bool.and_eq_true, beq_iff_eq] at h; exact .inr h.1
theorem D.ext' {a b : D} (h1 : a.kind = b.kind) (h2 : a.num = b.num) (h3 : a.text = b.text) (h4 : a.kids = b.kids) : a = b := by
  cases a; cases b; simp only [D.kind, D.num, D.text, D.kids] at *; subst h1 h2 h3 h4; rfl
/-- Labels with one key are one label. -/
theorem label_eq {a b : D} (ha : isLabel a = true) (hb : isLabel b = true) (fa : formed a = true) (fb : formed b = true) (h : kq a b = true) : a = b := by
  obtain ⟨hn, ht⟩ := kq_iff.1 h
  rcases isLabel_kind ha with ka | ka <;> rcases isLabel_kind hb with kb | kb
  · exact D.ext' (ka.trans kb.symm) hn ht ((formed_num fa ka).2.trans (formed_num fb kb).2.symm)
  · have h1 := (formed_num fa ka).1
    have h2 := (formed_sym fb kb).2.2
    rw [← ht, h1, isSym_es] at h2; cases h2
  · have h1 := (formed_num fb kb).1
    have h2 := (formed_sym fa ka).2.2
    rw [ht, h1, isSym_es] at h2; cases h2
  · exact D.ext' (ka.trans kb.symm) hn ht ((formed_sym fa ka).2.1.trans (formed_sym fb kb).2.1.symm)

section
variable {p d : D} (R : Right p)
include R
theorem Right.label (hd : d ∈ p.kids) : isLabel d.head = true ∧ Aw.formed d.head = true := by
  obtain ⟨x0, x1, x2, ns, hk, _, hl, _⟩ := R.def hd
  rw [head_cons hk]
  exact ⟨hl, formed_kids (formed_kids R.formed hd) (by rw [hk]; simp)⟩
/-- A right program's definition by its label. -/
theorem Right.found {f : D} (hf : isLabel f = true) (ff : Aw.formed f = true) : (findD p.kids f).2 = (p.kids.find? fun d => kq f d.head).isSome ∧ ∀ e, (p.kids.find? fun d => kq f d.head) = some e → (findD p.kids f).1 = e ∧ e.head = f := by
  have h : p.kids.find? (fun d => deq d.head f) = p.kids.find? fun d => kq f d.head := by
    have key : ∀ l : List D, (∀ d, d ∈ l → d ∈ p.kids) → l.find? (fun d => deq d.head f) = l.find? fun d => kq f d.head := by
      intro l
      induction l with
      | nil => intro _; rfl
      | cons y l ih =>
        intro hl
        have hy := R.label (hl y (by simp))
        have e : deq y.head f = kq f y.head := by
          cases hk : kq f y.head with
          | true => rw [label_eq hf hy.1 ff hy.2 hk, deq_refl]
          | false =>
            cases hq : deq y.head f with
            | false => rfl
            | true => rw [deq_of hq, kq_refl] at hk; cases hk
        rw [List.find?_cons, List.find?_cons, e, ih (fun d hd => hl d (by simp [hd]))]
    exact key _ (fun _ h => h)
  unfold findD
  rw [h]
  cases he : p.kids.find? fun d => kq f d.head with
  | none => exact ⟨rfl, fun e h => by cases h⟩
  | some e =>
    refine ⟨rfl, fun e' h => ?_⟩
    cases h
    have h1 : kq f e.head = true := by have := List.find?_some he; simpa using this
    have hy := R.label (List.mem_of_find?_eq_some he)
    exact ⟨rfl, (label_eq hf hy.1 ff hy.2 h1).symm⟩
end
/-! ### heads of a list that is right -/
section
variable {p q : D} (R : Right p) (S : Right q) (hlen : (joinL p q).1.length ≤ 4000) (hchk : dcheck (joinD p q) = 0) (hap : (joinL p q).2 = false)
include R S
include hlen hchk
include hap
end
end Go.Aw

namespace Go.Aw
open Go
end Go.Aw

namespace Go.Aw
open Go
/-! ### the words, written out (no rewriting by unfolding: the decisions' instances follow) -/
theorem eQuote : sQuote = ⟨#[113, 117, 111, 116, 101]⟩ := Eq.trans rfl rfl
theorem eLet : sLet = ⟨#[108, 101, 116]⟩ := Eq.trans rfl rfl
def words7 : List ByteArray := [⟨#[113, 117, 111, 116, 101]⟩, ⟨#[105, 102]⟩, ⟨#[102, 110]⟩, ⟨#[108, 101, 116]⟩, ⟨#[114, 101, 99]⟩, ⟨#[115, 101, 113]⟩, ⟨#[117, 112]⟩]
def ar2 : List ByteArray := [⟨#[43]⟩, ⟨#[45]⟩, ⟨#[42]⟩, ⟨#[113, 117, 111, 116]⟩, ⟨#[114, 101, 109]⟩, ⟨#[60]⟩, ⟨#[61]⟩, ⟨#[99, 111, 110, 115]⟩, ⟨#[109, 97, 114, 107]⟩]
def ar1 : List ByteArray := [⟨#[102, 105, 114, 115, 116]⟩, ⟨#[114, 101, 115, 116]⟩, ⟨#[99, 111, 117, 110, 116]⟩, ⟨#[108, 105, 115, 116, 63]⟩, ⟨#[110, 117, 109, 63]⟩, ⟨#[115, 121, 109, 63]⟩, ⟨#[115, 116, 111, 112]⟩]
def arityR (s : ByteArray) : Int × Bool := if (ar2.any fun w => decide (s = w)) = true then (2, true) else if (ar1.any fun w => decide (s = w)) = true then (1, true) else (0, false)
theorem arityR_eq (s : ByteArray) : arityR s = arity s := by
  unfold arityR
  split
  · rename_i h
    obtain ⟨w, hw, he⟩ := List.any_eq_true.1 h
    obtain rfl := of_decide_eq_true he
    simp only [ar2, List.mem_cons, List.not_mem_nil, or_false] at hw
    rcases hw with rfl | rfl | rfl | rfl | rfl | rfl | rfl | rfl | rfl <;> rfl
  · split
    · rename_i h
      obtain ⟨w, hw, he⟩ := List.any_eq_true.1 h
      obtain rfl := of_decide_eq_true he
      simp only [ar1, List.mem_cons, List.not_mem_nil, or_false] at hw
      rcases hw with rfl | rfl | rfl | rfl | rfl | rfl | rfl <;> rfl
    · rename_i h2 h1
      unfold arity
      have : primL.find? (fun p => decide (p.1 = s)) = none := by
        rw [List.find?_eq_none]
        intro p hp hq
        have hq := of_decide_eq_true hq
        have hm : p.1 ∈ ar2 ∨ p.1 ∈ ar1 := by
          simp only [primL, List.mem_cons, List.not_mem_nil, or_false] at hp
          rcases hp with rfl | rfl | rfl | rfl | rfl | rfl | rfl | rfl | rfl | rfl | rfl | rfl | rfl | rfl | rfl | rfl <;> simp [ar1, ar2]
        rcases hm with hm | hm
        · exact h2 (List.any_eq_true.2 ⟨p.1, hm, by simp [hq]⟩)
        · exact h1 (List.any_eq_true.2 ⟨p.1, hm, by simp [hq]⟩)
      rw [this]

/-! ### words, forms -/
def word (d : D) : ByteArray := if (d.kind != 3 || (d.kids.length : Int) == 0 || d.head.kind != 2) = true then es else d.head.text
def kidsR (d : D) : List D := if decide (word d = es) = true then [] else if decide (word d = sQuote) = true then [] else if decide (word d = sLet) = true then d.kids.drop 2 else if decide (word d = sCall) = true then d.kids.drop 2 else d.kids.drop 1
theorem word_list {d : D} (hk : d.kind = 3) (hn : d.kids ≠ []) (hh : d.head.kind = 2) : word d = d.head.text := by
  have : d.kids.length ≠ 0 := fun e => hn (List.eq_nil_of_length_eq_zero e)
  unfold word
  rw [if_neg]
  rw [hk, hh]
  simp; omega
theorem word_none {d : D} (h : d.kind ≠ 3 ∨ d.kids = [] ∨ d.head.kind ≠ 2) : word d = es := by
  unfold word
  rw [if_pos]
  rcases h with h | h | h
  · simp [h]
  · simp [h]
  · simp [h]

theorem any_comm (b : List ByteArray) (s : ByteArray) : (b.any fun y => decide (y = s)) = b.any fun y => decide (s = y) := by
  congr 1; funext y; simp [eq_comm]
theorem sEs_ne {s : ByteArray} (h : isSym isAtom s = true) : decide (s = es) = false := by
  rw [decide_eq_false_iff_not]
  rintro rfl
  rw [isSym_es] at h; cases h
/-- A number's digits. -/
def itoaB (n : Int) : ByteArray := ⟨(Lib.itoa n).toArray⟩

/-! ### definitions as structs -/
structure Df where
  lab : D
  ps : List ByteArray
  bod : D
def encDf (d : Df) : PV := .agg [.int .i64 d.lab.kind, .int .i64 d.lab.num, .str d.lab.text, .slice (d.lab.kids.map enc), .slice (d.ps.map .str), .int .i64 d.bod.kind, .int .i64 d.bod.num, .str d.bod.text, .slice (d.bod.kids.map enc)]
@[go_sem] theorem encDf_cells (d : Df) : (encDf d).cells = [.int .i64 d.lab.kind, .int .i64 d.lab.num, .str d.lab.text, .slice (d.lab.kids.map enc), .slice (d.ps.map .str), .int .i64 d.bod.kind, .int .i64 d.bod.num, .str d.bod.text, .slice (d.bod.kids.map enc)] := rfl
@[go_sem] theorem allSz_df (l : List Df) : allSz 9 (l.map encDf) = true := by simp [allSz, encDf_cells]
@[go_sem] theorem nrm_df (d : Df) : (encDf d).nrm = encDf d := rfl
@[go_sem high] theorem seq_df (x : Df) : seqPV 9 0 [(0, AV.pv (encDf x))] = some [encDf x] := by simp [seqPV, toPV, atomToPV, nrm_df, encDf_cells]
def toDf (d : D) : Df := ⟨d0 d.kids, nlist (names (d1 d.kids)), d2 d.kids⟩
def findI (l : List Df) (f : D) : Int := idxOf (fun d => deq d.lab f) l
/-- What is known of labels is what the definitions say. -/
def LP (l : List Df) (ps : List (D × Int)) : Prop := ∀ f, isLabel f = true → formed f = true → kpar ps f = (match l.find? fun d => deq d.lab f with | some d => ((d.ps.length : Int), true) | none => (0, false))
theorem LP.neg {l : List Df} {ps : List (D × Int)} (h : LP l ps) {f : D} (hf : isLabel f = true) (ff : formed f = true) (hn : findI l f < 0) : (kpar ps f).2 = false := by
  rw [h f hf ff, idxOf_neg hn]
end Go.Aw

namespace Go.Aw
open Go
theorem deep_kids (d : D) : d.deep = 1 + D.deeps d.kids := by cases d; rfl
section
variable {α : Type} {l : List α} {h : α → D} {k : Nat} {x : α}
end
def GoodE (d : D) : Prop := formed d = true ∧ ∃ (ps : List (D × Int)) (b : List ByteArray), cexpr ps b d = 0
section
variable {d x : D} (h : GoodE d)
include h
theorem GoodE.ok : okE d = true := by obtain ⟨h1, ps, b, h2⟩ := h; exact okE_of d b h2 h1
theorem GoodE.part (hx : x ∈ parts d) : GoodE x := by
  obtain ⟨h1, ps, b, h2⟩ := h
  by_cases hk : d.kind = 3
  · obtain ⟨b', hb⟩ := cexpr_parts h2 hk x hx
    exact ⟨formed_kids h1 (parts_mem hx), ps, b', hb⟩
  · rw [parts_nil hk] at hx; simp at hx
theorem GoodE.head (hk : d.kind = 3) : d.head.kind = 2 ∧ d.kids ≠ [] := by
  obtain ⟨h1, ps, b, h2⟩ := h
  have := cexpr_list h2 hk
  exact ⟨this.2.1, this.1⟩
theorem GoodE.word (hk : d.kind = 3) : word d = d.head.text ∧ decide (Aw.word d = es) = false := by
  obtain ⟨hh, hn⟩ := h.head hk
  have hw := word_list hk hn hh
  refine ⟨hw, ?_⟩
  obtain ⟨x0, r, hx⟩ := kids_cons hn
  have hf0 : formed d.head = true := by rw [head_cons hx]; exact formed_kids h.1 (by rw [hx]; simp)
  rw [hw]; exact sEs_ne (formed_sym hf0 hh).2.2
theorem GoodE.kids : kidsR d = parts d := by
  by_cases hk : d.kind = 3
  · obtain ⟨hw, he⟩ := h.word hk
    unfold kidsR parts
    have e3 : (d.kind != 3) = false := by rw [hk]; rfl
    simp only [he, e3, Bool.false_eq_true, if_false]
    rw [hw]
  · rw [parts_nil hk]
    unfold kidsR
    rw [if_pos (by rw [word_none (.inl hk)]; rfl)]
theorem GoodE.isCall : decide (Aw.word d = sCall) = Aw.isCall d := by
  unfold Aw.isCall
  by_cases hk : d.kind = 3
  · rw [(h.word hk).1, hk]; simp
  · rw [word_none (.inl hk)]
    have : (d.kind == 3) = false := by rw [beq_eq_false_iff_ne]; exact hk
    rw [this]; rfl
/-- What is called is a label. -/
theorem GoodE.label (hc : Aw.isCall d = true) : 2 ≤ d.kids.length ∧ isLabel (d1 d.kids) = true ∧ formed (d1 d.kids) = true := by
  obtain ⟨hk, ht⟩ := isCall_iff.1 hc
  obtain ⟨h1, ps, b, h2⟩ := h
  obtain ⟨_, _, hc⟩ := cexpr_list h2 hk
  rcases hc with ⟨e, _⟩ | ⟨e, _⟩ | ⟨e, _⟩ | ⟨_, hc⟩ | ⟨_, _, _, e, _⟩
  · rw [ht] at e; exact absurd e sC_ne_Q
  · rw [ht] at e; exact absurd e.symm sI_ne_C
  · rw [ht] at e; exact absurd e sC_ne_L
  · obtain ⟨h3, h4, _⟩ := ccall_zero hc
    refine ⟨h3, h4, formed_kids h1 ?_⟩
    obtain ⟨x1, hx1, hm⟩ := get_lt (l := d.kids) (k := 1) (by omega)
    rw [show d1 d.kids = x1 from getD_of hx1]; exact hm
  · exact absurd ht e
end
theorem Right.good {p d : D} (R : Right p) (hd : d ∈ p.kids) : GoodE (d2 d.kids) := ⟨R.bodyF hd, _, _, R.body hd⟩

/-! ### the expressions in one, in order -/
mutual
def exprsL : D → List D
  | .mk k n t l => .mk k n t l :: exprsLs (pdrop (.mk k n t l)) l
def exprsLs : Nat → List D → List D
  | _, [] => []
  | 0, x :: l => exprsL x ++ exprsLs 0 l
  | i + 1, _ :: l => exprsLs i l
end
theorem exprsLs_drop : ∀ (i : Nat) (l : List D), exprsLs i l = (l.drop i).flatMap exprsL
  | 0, [] => rfl
  | i + 1, [] => rfl
  | 0, x :: l => by rw [exprsLs, exprsLs_drop 0 l]; rfl
  | i + 1, x :: l => by rw [exprsLs, exprsLs_drop i l]; rfl
theorem exprsL_eq (d : D) : exprsL d = d :: (parts d).flatMap exprsL := by
  rw [parts_drop]
  cases d
  rw [exprsL, exprsLs_drop]
  rfl
end Go.Aw
namespace Go.Aw
open Go
section
variable {σ : Store} {k n m : Nat} {e : TypeId} {sz : Nat}
end
end Go.Aw
namespace Go.Aw
open Go
end Go.Aw

namespace Go.Aw
open Go
/-! ### digits -/
section
variable {ty : TyT} {s : St} {t kt et : TypeId} {ti te tk : TyI} {o : Nat} {ps : List (D × Int)}
end
section
variable {σ : Store} {ps ps' : List (D × Int)} {e : TypeId} {n m : Nat}
end
/-! ### the definitions -/
def rdefs (p : D) : List Df := if (fcheck p != 0) = true then [] else p.kids.map toDf
end Go.Aw
namespace Go.Aw
open Go
end Go.Aw

namespace Go.Aw
open Go
def sFn : ByteArray := ⟨#[102, 110]⟩
def sApp : ByteArray := ⟨#[97, 112, 112]⟩
def sSay : ByteArray := ⟨#[115, 97, 121]⟩
def sLift : ByteArray := ⟨#[108, 105, 102, 116]⟩
def sRun : ByteArray := ⟨#[114, 117, 110]⟩
theorem eFn : sFn = ⟨#[102, 110]⟩ := Eq.trans rfl rfl
theorem eLift : sLift = ⟨#[108, 105, 102, 116]⟩ := Eq.trans rfl rfl
theorem eRun : sRun = ⟨#[114, 117, 110]⟩ := Eq.trans rfl rfl

/-- How many names a word binds, and how long its list is. -/
def shapeL : List (ByteArray × (Nat × Nat)) := [(sQuote, 0, 2), (sFn, 2, 4), (sLet, 1, 4), (sIf, 0, 4), (sApp, 0, 3), (sSay, 0, 2), (sLift, 0, 2), (sRun, 0, 3)]
def shp (s : ByteArray) : Option (Nat × Nat) := (shapeL.find? fun p => decide (p.1 = s)).map (·.2)
def shN (s : ByteArray) : Nat := ((shp s).map (·.1)).getD 0

/-- A name. -/
def mName (d : D) : Bool := d.kind == 2 && !(words7.any fun w => decide (w = d.text))
/-- The terms in a term. -/
def idrop (d : D) : Nat := if (d.kind != 3) = true then d.kids.length else if decide (d.head.text = sQuote) = true then d.kids.length else 1 + shN d.head.text
def inner (d : D) : List D := d.kids.drop (idrop d)
theorem inner_eq (d : D) : inner d = if (d.kind != 3) = true then [] else if decide (d.head.text = sQuote) = true then [] else d.kids.drop (1 + shN d.head.text) := by
  unfold inner idrop
  split
  · simp
  · split
    · simp
    · rfl
theorem inner_mem {d x : D} (h : x ∈ inner d) : x ∈ d.kids := List.mem_of_mem_drop h
theorem inner_len (d : D) : (inner d).length ≤ d.kids.length := by unfold inner; rw [List.length_drop]; omega

mutual
/-- What is wrong with a term. -/
def mchk : D → Int
  | .mk k n t l =>
    if (k == 1 || mName (.mk k n t l)) = true then 0 else
    if (k != 3 || (l.length : Int) == 0 || (l.headD dnone).kind != 2) = true then 4 else
    match shp (l.headD dnone).text with
    | some (nm, sz) => if ((l.length : Int) != sz || ((l.drop 1).take nm).any fun x => !mName x) = true then 4 else mchks (idrop (.mk k n t l)) l
    | none => if (!(arity (l.headD dnone).text).2) = true then 4 else if ((arity (l.headD dnone).text).1 != (l.length : Int) - 1) = true then 11 else mchks (idrop (.mk k n t l)) l
def mchks : Nat → List D → Int
  | _, [] => 0
  | 0, x :: l => if (mchk x != 0) = true then mchk x else mchks 0 l
  | i + 1, _ :: l => mchks i l
end
def mchkL (l : List D) : Int := mchks 0 l
theorem mchks_drop : ∀ (i : Nat) (l : List D), mchks i l = mchkL (l.drop i)
  | 0, l => rfl
  | i + 1, [] => by simp [mchks, mchkL]
  | i + 1, x :: l => by rw [mchks, mchks_drop i l]; rfl
theorem mchkL_cons (x : D) (l : List D) : mchkL (x :: l) = if (mchk x != 0) = true then mchk x else mchkL l := rfl
theorem mchkL_zero {l : List D} : mchkL l = 0 ↔ ∀ x, x ∈ l → mchk x = 0 := by
  induction l with
  | nil => simp [mchkL, mchks]
  | cons x l ih =>
    rw [mchkL_cons]
    by_cases h : (mchk x != 0) = true
    · rw [if_pos h]
      simp at h
      exact ⟨fun e => absurd e h, fun e => absurd (e x (by simp)) h⟩
    · rw [if_neg h, ih]
      simp at h
      simp [h]
theorem mchk_eq (d : D) : mchk d = if (d.kind == 1 || mName d) = true then 0 else
    if (d.kind != 3 || (d.kids.length : Int) == 0 || d.head.kind != 2) = true then 4 else
    match shp d.head.text with
    | some (nm, sz) => if ((d.kids.length : Int) != sz || ((d.kids.drop 1).take nm).any fun x => !mName x) = true then 4 else mchkL (inner d)
    | none => if (!(arity d.head.text).2) = true then 4 else if ((arity d.head.text).1 != (d.kids.length : Int) - 1) = true then 11 else mchkL (inner d) := by
  unfold inner
  rw [← mchks_drop]
  cases d
  rw [mchk]
  rfl
/-- What is wrong with a datum as a term. -/
def mcheck (d : D) : Int := if (dcheck d != 0) = true then dcheck d else mchk d

/-! ### by the specification -/
end Go.Aw
namespace Go.Aw
open Go
/-! ### both say the same -/
theorem shp_cases (s : ByteArray) : (s = sQuote ∧ shp s = some (0, 2)) ∨ (s = sFn ∧ shp s = some (2, 4)) ∨ (s = sLet ∧ shp s = some (1, 4)) ∨ (s = sIf ∧ shp s = some (0, 4)) ∨ (s = sApp ∧ shp s = some (0, 3)) ∨ (s = sSay ∧ shp s = some (0, 2)) ∨ (s = sLift ∧ shp s = some (0, 2)) ∨ (s = sRun ∧ shp s = some (0, 3)) ∨
    (shp s = none ∧ s ≠ sQuote ∧ s ≠ sFn ∧ s ≠ sLet ∧ s ≠ sIf ∧ s ≠ sApp ∧ s ≠ sSay ∧ s ≠ sLift ∧ s ≠ sRun) := by
  by_cases h1 : s = sQuote
  · subst h1; exact .inl ⟨rfl, rfl⟩
  by_cases h2 : s = sFn
  · subst h2; exact .inr (.inl ⟨rfl, rfl⟩)
  by_cases h3 : s = sLet
  · subst h3; exact .inr (.inr (.inl ⟨rfl, rfl⟩))
  by_cases h4 : s = sIf
  · subst h4; exact .inr (.inr (.inr (.inl ⟨rfl, rfl⟩)))
  by_cases h5 : s = sApp
  · subst h5; exact .inr (.inr (.inr (.inr (.inl ⟨rfl, rfl⟩))))
  by_cases h6 : s = sSay
  · subst h6; exact .inr (.inr (.inr (.inr (.inr (.inl ⟨rfl, rfl⟩)))))
  by_cases h7 : s = sLift
  · subst h7; exact .inr (.inr (.inr (.inr (.inr (.inr (.inl ⟨rfl, rfl⟩))))))
  by_cases h8 : s = sRun
  · subst h8; exact .inr (.inr (.inr (.inr (.inr (.inr (.inr (.inl ⟨rfl, rfl⟩)))))))
  · refine .inr (.inr (.inr (.inr (.inr (.inr (.inr (.inr ⟨?_, h1, h2, h3, h4, h5, h6, h7, h8⟩)))))))
    unfold shp shapeL
    simp only [List.find?_cons, List.find?_nil, decide_eq_false (Ne.symm h1), decide_eq_false (Ne.symm h2), decide_eq_false (Ne.symm h3), decide_eq_false (Ne.symm h4), decide_eq_false (Ne.symm h5), decide_eq_false (Ne.symm h6), decide_eq_false (Ne.symm h7), decide_eq_false (Ne.symm h8)]
    rfl
end Go.Aw
namespace Go.Aw
open Go
theorem shN_of {s : ByteArray} {a b : Nat} (h : shp s = some (a, b)) : shN s = a := by unfold shN; rw [h]; rfl
theorem shN_none {s : ByteArray} (h : shp s = none) : shN s = 0 := by unfold shN; rw [h]; rfl
theorem inner_none {d : D} (h : d.kind ≠ 3) : inner d = [] := by
  unfold inner idrop
  rw [if_pos (by simpa using h), List.drop_length]
theorem take1 {l : List D} (h : l.length = 4) : (l.drop 1).take 1 = [d1 l] := by
  match l, h with
  | [a, b, c, e], _ => rfl
theorem take2 {l : List D} (h : l.length = 4) : (l.drop 1).take 2 = [d1 l, d2 l] := by
  match l, h with
  | [a, b, c, e], _ => rfl
structure GoodM (d : D) : Prop where
  formed : formed d = true
  ok : mchk d = 0
/-- What a list that is a term begins with. -/
inductive MShape (d : D) : Prop where
  | quote (h : d.head.text = sQuote) (x : D) (hk : d.kids = [d.head, x]) (hi : inner d = [])
  | fn (h : d.head.text = sFn) (f x b : D) (hk : d.kids = [d.head, f, x, b]) (hi : inner d = [b]) (hf : mName f = true) (hx : mName x = true)
  | lett (h : d.head.text = sLet) (x a b : D) (hk : d.kids = [d.head, x, a, b]) (hi : inner d = [a, b]) (hx : mName x = true)
  | op (h : d.head.text = sIf ∨ d.head.text = sApp ∨ d.head.text = sSay ∨ d.head.text = sLift ∨ d.head.text = sRun ∨ shp d.head.text = none ∧ (arity d.head.text).2 = true) (hk : d.kids = d.head :: inner d) (hq : d.head.text ≠ sQuote) (hf : d.head.text ≠ sFn) (hl : d.head.text ≠ sLet)
      (hn : ((inner d).length : Int) = if d.head.text = sIf then 3 else if d.head.text = sApp ∨ d.head.text = sRun then 2 else if d.head.text = sSay ∨ d.head.text = sLift then 1 else (arity d.head.text).1)
section
variable {d x : D} (h : GoodM d)
include h
theorem GoodM.kind : d.kind = 1 ∨ (d.kind = 2 ∧ mName d = true) ∨ d.kind = 3 := by
  rcases formed_kind h.formed with hk | hk | hk
  · exact .inl hk
  · refine .inr (.inl ⟨hk, ?_⟩)
    have := h.ok
    rw [mchk_eq] at this
    cases hm : mName d with
    | true => rfl
    | false =>
      rw [hm, if_neg (by rw [hk]; decide), if_pos (by rw [hk]; rfl)] at this; cases this
  · exact .inr (.inr hk)
theorem GoodM.list (hk : d.kind = 3) : d.kids ≠ [] ∧ d.head.kind = 2 ∧ Aw.formed d.head = true ∧ mchkL (inner d) = 0 ∧ MShape d := by
  have h0 := h.ok
  have k1 : (d.kind == 1) = false := by rw [hk]; rfl
  have k2 : (d.kind == 2) = false := by rw [hk]; rfl
  have km : mName d = false := by unfold mName; rw [k2]; rfl
  rw [mchk_eq, k1, km, if_neg (by decide)] at h0
  by_cases hb : (d.kind != 3 || (d.kids.length : Int) == 0 || d.head.kind != 2) = true
  · rw [if_pos hb] at h0; cases h0
  rw [if_neg hb] at h0
  simp only [Bool.or_eq_true, beq_iff_eq, bne_iff_ne, not_or, Decidable.not_not] at hb
  have hn : d.kids ≠ [] := fun e => hb.1.2 (by rw [e]; rfl)
  obtain ⟨x0, r, hx⟩ := kids_cons hn
  have hh := head_cons hx
  have hf0 : Aw.formed d.head = true := by rw [hh]; exact formed_kids h.formed (by rw [hx]; simp)
  have hi : inner d = if decide (d.head.text = sQuote) = true then [] else d.kids.drop (1 + shN d.head.text) := by
    rw [inner_eq, if_neg (show ¬ (d.kind != 3) = true by rw [hk]; decide)]
  have hop : ∀ sz : Nat, shp d.head.text = some (0, sz) → d.head.text ≠ sQuote → inner d = r ∧ (((d.kids.length : Int) != sz) = true → False) ∧ mchkL (inner d) = 0 := by
    intro sz s hq
    rw [s] at h0
    simp only at h0
    split at h0
    · cases h0
    · rename_i hc
      simp only [Bool.or_eq_true, not_or] at hc
      exact ⟨by rw [hi, if_neg (by simpa using hq), shN_of s, hx]; rfl, fun e => hc.1 e, h0⟩
  have hop2 : ∀ sz : Nat, shp d.head.text = some (0, sz) → d.head.text ≠ sQuote → d.kids = d.head :: inner d ∧ ((inner d).length : Int) = sz - 1 ∧ mchkL (inner d) = 0 := by
    intro sz s hq
    obtain ⟨e1, e2, e3⟩ := hop sz s hq
    have e4 : (d.kids.length : Int) = sz := by
      refine Decidable.byContradiction fun e => e2 ?_
      simpa using e
    rw [hx] at e4
    refine ⟨by rw [hh, e1, hx], ?_, e3⟩
    rw [e1]
    simp only [List.length_cons] at e4
    omega
  refine ⟨hn, hb.2, hf0, ?_⟩
  rcases shp_cases d.head.text with ⟨e, s⟩ | ⟨e, s⟩ | ⟨e, s⟩ | ⟨e, s⟩ | ⟨e, s⟩ | ⟨e, s⟩ | ⟨e, s⟩ | ⟨e, s⟩ | ⟨s, n1, n2, n3, n4, n5, n6, n7, n8⟩
  · rw [s] at h0
    simp only [List.take_zero, List.any_nil, Bool.or_false] at h0
    have hi0 : inner d = [] := by rw [hi, if_pos (by simpa using e)]
    refine ⟨by rw [hi0]; rfl, ?_⟩
    split at h0
    · cases h0
    · rename_i hc
      have hl : d.kids.length = 2 := by simp at hc; omega
      rw [hx] at hl
      match r, hl, hx with
      | [y], _, hx => exact .quote e y (by rw [hh]; exact hx) hi0
  · rw [s] at h0
    simp only at h0
    split at h0
    · cases h0
    · rename_i hc
      simp only [Bool.or_eq_true, not_or, bne_iff_ne, Decidable.not_not] at hc
      have hl : d.kids.length = 4 := by omega
      rw [take2 hl] at hc
      simp only [List.any_cons, List.any_nil, Bool.or_false, Bool.or_eq_true, Bool.not_eq_true', not_or, Bool.not_eq_false] at hc
      refine ⟨h0, ?_⟩
      rw [hx] at hl
      match r, hl, hx with
      | [f, x, b], _, hx =>
        have e1 : d1 d.kids = f := by rw [hx]; rfl
        have e2 : d2 d.kids = x := by rw [hx]; rfl
        rw [e1, e2] at hc
        exact .fn e f x b (by rw [hh]; exact hx) (by rw [hi, if_neg (by rw [e]; decide), shN_of s, hx]; rfl) hc.2.1 hc.2.2
  · rw [s] at h0
    simp only at h0
    split at h0
    · cases h0
    · rename_i hc
      simp only [Bool.or_eq_true, not_or, bne_iff_ne, Decidable.not_not] at hc
      have hl : d.kids.length = 4 := by omega
      rw [take1 hl] at hc
      simp only [List.any_cons, List.any_nil, Bool.or_false, Bool.not_eq_true', Bool.not_eq_false] at hc
      refine ⟨h0, ?_⟩
      rw [hx] at hl
      match r, hl, hx with
      | [x, a, b], _, hx =>
        have e1 : d1 d.kids = x := by rw [hx]; rfl
        rw [e1] at hc
        exact .lett e x a b (by rw [hh]; exact hx) (by rw [hi, if_neg (by rw [e]; decide), shN_of s, hx]; rfl) hc.2
  · obtain ⟨e1, e2, e3⟩ := hop2 4 s (by rw [e]; decide)
    exact ⟨e3, .op (.inl e) e1 (by rw [e]; decide) (by rw [e]; decide) (by rw [e]; decide) (by rw [e2, if_pos e]; rfl)⟩
  · obtain ⟨e1, e2, e3⟩ := hop2 3 s (by rw [e]; decide)
    exact ⟨e3, .op (.inr (.inl e)) e1 (by rw [e]; decide) (by rw [e]; decide) (by rw [e]; decide) (by rw [e2, if_neg (by rw [e]; decide), if_pos (.inl e)]; rfl)⟩
  · obtain ⟨e1, e2, e3⟩ := hop2 2 s (by rw [e]; decide)
    exact ⟨e3, .op (.inr (.inr (.inl e))) e1 (by rw [e]; decide) (by rw [e]; decide) (by rw [e]; decide) (by rw [e2, if_neg (by rw [e]; decide), if_neg (by rw [e]; decide), if_pos (.inl e)]; rfl)⟩
  · obtain ⟨e1, e2, e3⟩ := hop2 2 s (by rw [e]; decide)
    exact ⟨e3, .op (.inr (.inr (.inr (.inl e)))) e1 (by rw [e]; decide) (by rw [e]; decide) (by rw [e]; decide) (by rw [e2, if_neg (by rw [e]; decide), if_neg (by rw [e]; decide), if_pos (.inr e)]; rfl)⟩
  · obtain ⟨e1, e2, e3⟩ := hop2 3 s (by rw [e]; decide)
    exact ⟨e3, .op (.inr (.inr (.inr (.inr (.inl e))))) e1 (by rw [e]; decide) (by rw [e]; decide) (by rw [e]; decide) (by rw [e2, if_neg (by rw [e]; decide), if_pos (.inr e)]; rfl)⟩
  · rw [s] at h0
    simp only at h0
    split at h0
    · cases h0
    · rename_i ha
      split at h0
      · cases h0
      · rename_i hb2
        have e1 : inner d = r := by rw [hi, if_neg (by simpa using n1), shN_none s, hx]; rfl
        simp only [Bool.not_eq_true', Bool.not_eq_false] at ha
        simp only [bne_iff_ne, Decidable.not_not] at hb2
        refine ⟨h0, .op (.inr (.inr (.inr (.inr (.inr ⟨s, ha⟩))))) (by rw [hh, e1, hx]) n1 n2 n3 ?_⟩
        rw [if_neg n4, if_neg (by simp [n5, n8]), if_neg (by simp [n6, n7]), hb2, e1, hx]
        simp
theorem GoodM.part (hx : x ∈ inner d) : GoodM x := by
  refine ⟨formed_kids h.formed (inner_mem hx), ?_⟩
  by_cases hk : d.kind = 3
  · exact mchkL_zero.1 (h.list hk).2.2.2.1 x hx
  · rw [inner_none hk] at hx; simp at hx
end
theorem mcheck_good {d : D} (h : mcheck d = 0) : GoodM d := by
  unfold mcheck at h
  split at h
  · rename_i hc; rw [h] at hc; simp at hc
  · rename_i hc
    exact ⟨dcheck_formed (by simpa using hc), h⟩
end Go.Aw

namespace Go.Aw
open Go
def encSh (p : Nat × Nat) : PV := .agg [.int .i64 p.1, .int .i64 p.2]
/-- The words, in whatever order they lie. -/
structure ShO where
  l : List (ByteArray × (Nat × Nat))
  find : ∀ x : ByteArray, (l.find? fun p => decide (p.1 = x)).map (·.2) = shp x
def shK (S : ShO) : List PV := S.l.map fun p => .str p.1
def shV (S : ShO) : List PV := S.l.map fun p => encSh p.2
theorem kfind_strs {α : Type} (x : ByteArray) : ∀ l : List (ByteArray × α), kfind (.str x) (l.map fun p => .str p.1) = l.findIdx? fun p => decide (p.1 = x)
  | [] => rfl
  | p :: l => by
    have hk : (PV.str x).keq (.str p.1) = decide (p.1 = x) := by simp [PV.keq, pvAtomEq, eq_comm]
    simp only [List.map_cons, kfind, List.findIdx?_cons, hk, kfind_strs x l]
theorem sh_keys (S : ShO) : (shK S).all (KS.fits (.one .str)) = true := by
  unfold shK
  rw [List.all_eq_true]
  intro p hp
  obtain ⟨q, _, rfl⟩ := List.mem_map.1 hp
  rfl
theorem look_sh {S : ShO} {ty : TyT} {s : St} {t : TypeId} {x : ByteArray} {ti te tk : TyI} {kt et : TypeId} {ok : Bool} (h : ty t = some ti) (hk : ti.kind = .map kt et) (h1 : ty et = some te) (h2 : ty kt = some tk) (h3 : tk.ks = some (.one .str)) (h4 : te.kind.agg = true) (h5 : te.zero = [.int .i64 0, .int .i64 0]) :
    lookAV ty s t (.pv (.map (shK S) (shV S))) (.pv (.str x)) ok = some (okAV ok (shp x).isSome (.pv (encSh ((shp x).getD (0, 0))))) := by
  have hko : keyOk ty kt (.str x) (shK S) = true := by
    have hf := sh_keys S
    simp only [keyOk, h2, h3, hf, Bool.and_true]; rfl
  have hfx := S.find x
  simp only [lookAV, h, hk, h1, mapOf, toPV, atomToPV, Option.map_some, PV.nrm, hko]
  have hkf : kfind (.str x) (shK S) = S.l.findIdx? fun p => decide (p.1 = x) := kfind_strs x S.l
  rw [hkf]
  cases hj : S.l.findIdx? fun p => decide (p.1 = x) with
  | none =>
    have : S.l.find? (fun p => decide (p.1 = x)) = none := by
      rw [List.findIdx?_eq_none_iff] at hj
      rw [List.find?_eq_none]
      intro p hp; simpa using hj p hp
    rw [this] at hfx
    rw [← hfx]
    simp [okAV, zeroAV, h4, h5, encSh]
  | some j =>
    rw [List.findIdx?_eq_some_iff_getElem] at hj
    obtain ⟨hlt, h6, h7⟩ := hj
    have : S.l.find? (fun p => decide (p.1 = x)) = some S.l[j] := by
      rw [List.find?_eq_some_iff_getElem]
      exact ⟨h6, j, hlt, rfl, fun i hi => by simpa using h7 i hi⟩
    rw [this] at hfx
    rw [← hfx]
    have hv : (shV S)[j]? = some (encSh S.l[j].2) := by unfold shV; rw [List.getElem?_map, List.getElem?_eq_getElem hlt]; rfl
    simp [hv, okAV]
end Go.Aw

namespace Go.Aw
open Go
theorem shN_getD {s : ByteArray} : ((shp s).getD (0, 0)).1 = shN s := by unfold shN; cases shp s <;> rfl
theorem shN_le (s : ByteArray) : shN s ≤ 2 := by
  rcases shp_cases s with ⟨_, h⟩ | ⟨_, h⟩ | ⟨_, h⟩ | ⟨_, h⟩ | ⟨_, h⟩ | ⟨_, h⟩ | ⟨_, h⟩ | ⟨_, h⟩ | ⟨h, _⟩
  all_goals first | (rw [shN_of h]; omega) | (rw [shN_none h]; omega)
/-- Begins with a word. -/
def isW (d : D) (w : ByteArray) : Bool := d.kind == 3 && decide (d.head.text = w)
/-- The names that are bound in a term at an index of a term. -/
def bnd (d : D) (i : Nat) : List ByteArray := if isW d sFn = true then [(d1 d.kids).text, (d2 d.kids).text] else if (isW d sLet && (i : Int) == 1) = true then [(d1 d.kids).text] else []
end Go.Aw

namespace Go.Aw
open Go
theorem dlist_kids (l : List D) : (dlist l).kids = l := rfl
end Go.Aw

namespace Go.Aw
open Go
section
variable {p d : D} (R : Right p)
include R
theorem Right.no : (fcheck p != 0) = false := by rw [R.chk]; rfl
theorem Right.rdefs : rdefs p = p.kids.map toDf := by unfold Aw.rdefs; rw [if_neg (by rw [R.no]; decide)]
theorem Right.len : (Aw.rdefs p).length ≤ 4000 := by rw [R.rdefs, List.length_map]; exact (heads_ok R.heads).2.2.2.1
theorem Right.size : (fSize p).1 = ((((Aw.rdefs p).map fun d => fsize d.bod).sum : Nat) : Int) := by
  unfold fSize
  rw [if_neg (by rw [R.no]; decide), R.rdefs, List.map_map]
  rfl
end
end Go.Aw

namespace Go.Aw
open Go
theorem deq_kq {a b : D} (ha : isLabel a = true) (hb : isLabel b = true) (fa : formed a = true) (fb : formed b = true) : deq a b = kq b a := by
  cases hq : kq b a with
  | true => rw [label_eq hb ha fb fa hq, deq_refl]
  | false =>
    cases hd : deq a b with
    | false => rfl
    | true => rw [deq_of hd, kq_refl] at hq; cases hq

/-! ### calls -/
def cstep (out : List D) (e : D) : List D := if (isCall e && !(out.any fun y => deq y (d1 e.kids))) = true then out ++ [d1 e.kids] else out
structure CI (st : CS) : Prop where
  lab : ∀ y, y ∈ st.1 → isLabel y = true ∧ formed y = true
  seen : ∀ f, isLabel f = true → formed f = true → seenB st.2 f = st.1.any fun y => deq y f
theorem callStep_ci {d : D} (hg : GoodE d) {st : CS} (h : CI st) : (callStep d st).1 = cstep st.1 d ∧ CI (callStep d st) := by
  unfold callStep cstep
  cases hc : isCall d with
  | false => simp only [Bool.false_and, Bool.false_eq_true, if_false]; exact ⟨trivial, h⟩
  | true =>
    obtain ⟨_, hl, hf⟩ := hg.label hc
    rw [h.seen _ hl hf]
    cases hs : st.1.any fun y => deq y (d1 d.kids) with
    | true => simp only [Bool.not_true, Bool.and_false, Bool.false_eq_true, if_false]; exact ⟨trivial, h⟩
    | false =>
      simp only [Bool.not_false, Bool.and_self, if_true]
      refine ⟨trivial, ⟨fun y hy => ?_, fun f h1 h2 => ?_⟩⟩
      · simp only [List.mem_append, List.mem_singleton] at hy
        rcases hy with hy | rfl
        · exact h.lab y hy
        · exact ⟨hl, hf⟩
      · rw [seenB_kset, h.seen f h1 h2, List.any_append]
        simp only [List.any_cons, List.any_nil, Bool.or_false]
        rw [deq_kq hl h1 hf h2, Bool.or_comm]
theorem calls_fold : ∀ {d : D} {st : CS}, GoodE d → CI st → (callsD d st).1 = (exprsL d).foldl cstep st.1 ∧ CI (callsD d st) := by
  intro d
  induction d using D.ind with
  | _ k n t l ih =>
    intro st hg hc
    have hf : ∀ (r : List D) (st : CS), (∀ x, x ∈ r → x ∈ parts (.mk k n t l)) → CI st → (r.foldl (fun st x => callsD x st) st).1 = (r.flatMap exprsL).foldl cstep st.1 ∧ CI (r.foldl (fun st x => callsD x st) st) := by
      intro r
      induction r with
      | nil => intro st _ h; exact ⟨rfl, h⟩
      | cons x r ihr =>
        intro st hm h
        have h1 := ih x (parts_mem (hm x (by simp))) (st := st) (hg.part (hm x (by simp))) h
        have h2 := ihr (callsD x st) (fun y hy => hm y (by simp [hy])) h1.2
        rw [List.foldl_cons, List.flatMap_cons, List.foldl_append, ← h1.1]
        exact h2
    have h1 := callStep_ci hg hc
    have h2 := hf (parts (.mk k n t l)) (callStep (.mk k n t l) st) (fun _ h => h) h1.2
    rw [callsD_eq, exprsL_eq, List.foldl_cons, ← h1.1]
    exact h2
theorem ci_nil : CI ([], []) := ⟨fun y hy => by simp at hy, fun f _ _ => rfl⟩
theorem callsOf_lab {d : D} (hg : GoodE d) : ∀ y, y ∈ callsOf d → isLabel y = true ∧ formed y = true := (calls_fold hg ci_nil).2.lab
section
variable {p x : D} (R : Right p)
include R
end
end Go.Aw
namespace Go.Aw
open Go
section
variable {p y0 : D} (R : Right p)
include R
end
end Go.Aw

namespace Go.Aw
open Go
section
variable {p f : D}
variable (R : Right p)
include R
end
end Go.Aw

namespace Go.Aw
open Go
/-! ### the index of a label -/
end Go.Aw

namespace Go.Aw
open Go
/-! ### definitions as data are themselves -/
theorem formed_list {d : D} (h : formed d = true) (hk : d.kind = 3) : d.num = 0 ∧ d.text = es := by
  rw [formed_eq, if_neg (by rw [hk]; decide), if_neg (by rw [hk]; decide), if_pos (by rw [hk]; rfl)] at h
  simp only [Bool.and_eq_true, beq_iff_eq, decide_eq_true_eq] at h
  exact ⟨h.1.1, h.1.2⟩
theorem dlist_of {d : D} (h : formed d = true) (hk : d.kind = 3) : dlist d.kids = d := by
  obtain ⟨h1, h2⟩ := formed_list h hk
  exact D.ext' hk.symm h1.symm h2.symm rfl
section
variable {p d : D} (R : Right p)
include R
end
section
variable {p q x : D} {k : Nat} (R : Right p) (S : Right q)
end
end Go.Aw
namespace Go.Aw
open Go
end Go.Aw

namespace Go.Aw
open Go
/-! ### what is reached is closed under calls -/
theorem reachStep_prefix {m : List (D × D)} {st : CS} {f : D} : st.1 <+: (reachStep m st f).1 := by
  unfold reachStep; split
  · exact List.prefix_append _ _
  · exact List.prefix_refl _
theorem fold_prefix {m : List (D × D)} : ∀ (fs : List D) (st : CS), st.1 <+: (fs.foldl (reachStep m) st).1
  | [], st => List.prefix_refl _
  | f :: fs, st => by rw [List.foldl_cons]; exact reachStep_prefix.trans (fold_prefix fs _)
theorem rst_prefix1 (p : D) (k : Nat) : (rst p k).1 <+: (rst p (k + 1)).1 := by
  cases h : (rst p k).1[k]? with
  | none =>
    have : rst p (k + 1) = rst p k := by
      unfold rst at h ⊢
      rw [rstK, h]
    rw [this]; exact List.prefix_refl _
  | some x => rw [rst_next h]; exact fold_prefix _ _
theorem rst_prefix (p : D) (k : Nat) : ∀ j, (rst p k).1 <+: (rst p (k + j)).1
  | 0 => List.prefix_refl _
  | j + 1 => (rst_prefix p k j).trans (rst_prefix1 p (k + j))
theorem reachStep_seen {m : List (D × D)} {st : CS} {f g : D} (h : seenB st.2 g = true) : seenB (reachStep m st f).2 g = true := by
  unfold reachStep; split
  · show seenB (kset st.2 f true) g = true
    rw [seenB_kset, h, Bool.or_true]
  · exact h
theorem fold_seen {m : List (D × D)} : ∀ (fs : List D) (st : CS) (g : D), seenB st.2 g = true → seenB (fs.foldl (reachStep m) st).2 g = true
  | [], st, g, h => h
  | f :: fs, st, g, h => by rw [List.foldl_cons]; exact fold_seen fs _ g (reachStep_seen h)
theorem fold_sees {m : List (D × D)} : ∀ (fs : List D) (st : CS) (g : D), g ∈ fs → seenB (fs.foldl (reachStep m) st).2 g = true
  | [], st, g, h => by simp at h
  | f :: fs, st, g, h => by
    rw [List.foldl_cons]
    rcases List.mem_cons.1 h with rfl | h
    · refine fold_seen fs _ g ?_
      unfold reachStep
      split
      · show seenB (kset st.2 g true) g = true
        rw [seenB_kset, kq_refl, Bool.true_or]
      · rename_i hs; simpa using hs
    · exact fold_sees fs _ g h
section
variable {p x f : D} (R : Right p)
include R
theorem Right.closed (hx : x ∈ reach p) (hf : f ∈ callsOf (d2 x.kids)) : ∃ e, e ∈ reach p ∧ kq f e.head = true := by
  obtain ⟨k, hk, hxk⟩ := List.getElem_of_mem hx
  have hlen : (reach p).length ≤ p.kids.length := (rst_inv R _).len
  have hx' : (reach p)[k]? = some x := by rw [List.getElem?_eq_getElem hk, hxk]
  have hkn : k + (p.kids.length - k) = p.kids.length := by omega
  have hlt : k < (rst p k).1.length := by
    refine Decidable.byContradiction fun h => ?_
    have := reach_done (p := p) (k := k) (by omega) (by omega)
    rw [this] at hk; omega
  have hpre := rst_prefix p k (p.kids.length - k)
  rw [hkn] at hpre
  have hxr : (rst p k).1[k]? = some x := by
    obtain ⟨t, ht⟩ := hpre
    have : (reach p)[k]? = ((rst p k).1 ++ t)[k]? := by unfold reach; rw [ht]
    rw [this, List.getElem?_append_left hlt] at hx'
    exact hx'
  have hs := fold_sees (m := defsL p.kids) (callsOf (d2 x.kids)) (rst p k) f hf
  rw [← rst_next hxr, (rst_inv R (k + 1)).seen] at hs
  obtain ⟨e, he, hq⟩ := List.any_eq_true.1 hs
  have hkl : k + 1 ≤ p.kids.length := by omega
  have hpre2 := rst_prefix p (k + 1) (p.kids.length - (k + 1))
  rw [show k + 1 + (p.kids.length - (k + 1)) = p.kids.length by omega] at hpre2
  exact ⟨e, hpre2.subset he, hq⟩
end
/-! ### where labels stand -/
section
variable {p x : D} (R : Right p)
include R
end
end Go.Aw
namespace Go.Aw
open Go
section
variable {p : D} (R : Right p)
include R
end
end Go.Aw

namespace Go.Aw
open Go
section
variable {L : D → D} {d : D}
end
/-! ### what is called -/
section
variable {L : D → D} {S : D → Prop} (hS : ∀ f g, S f → S g → kq (L f) (L g) = kq f g)
include hS
end
end Go.Aw

namespace Go.Aw
open Go
/-- A definition with other labels. -/
abbrev rnF (L : D → D) (d : D) : D := rdef L id false d
theorem find_kq {l : List D} {e f : D} (h : Apart l) (he : e ∈ l) (hq : kq f e.head = true) : l.find? (fun d => kq f d.head) = some e := by
  induction l with
  | nil => simp at he
  | cons y l ih =>
    have hl := List.pairwise_cons.1 h
    rw [List.find?_cons]
    rcases List.mem_cons.1 he with rfl | hm
    · rw [hq]
    · have : kq f y.head = false := by
        cases hy : kq f y.head with
        | false => rfl
        | true => have := hl.1 e hm; rw [kq_trans (kq_symm hy) hq] at this; cases this
      rw [this]; exact ih hl.2 hm

/-- Definitions of a program, the first one among them, that call none but themselves; renamed, they are among those of another one. -/
structure Renames (p q : D) (L : D → D) (K : List D) : Prop where
  sub : ∀ e, e ∈ K → e ∈ p.kids
  main : p.head ∈ K
  closed : ∀ x f, x ∈ K → f ∈ callsOf (d2 x.kids) → ∃ e, e ∈ K ∧ kq f e.head = true
  inj : ∀ a b, a ∈ K → b ∈ K → kq (L a.head) (L b.head) = kq a.head b.head
  into : ∀ e, e ∈ K → rnF L e ∈ q.kids
  first : q.head = rnF L p.head

section
variable {p q : D} {L : D → D} {K : List D} (R : Right p) (S : Right q) (H : Renames p q L K)
include R H
/-- What is called is a label of one of them. -/
theorem Renames.label {x f : D} (hx : x ∈ K) (hf : f ∈ callsOf (d2 x.kids)) : ∃ e, e ∈ K ∧ f = e.head := by
  obtain ⟨e, he, hq⟩ := H.closed x f hx hf
  obtain ⟨h1, h2⟩ := callsOf_lab (R.good (H.sub x hx)) f hf
  obtain ⟨h3, h4⟩ := R.label (H.sub e he)
  exact ⟨e, he, label_eq h1 h3 h2 h4 hq⟩
include S
theorem Renames.fold {x : D} (hx : x ∈ K) : ∀ (fs : List D) (st st' : CS), (∀ f, f ∈ fs → f ∈ callsOf (d2 x.kids)) → RI p st → RI q st' → st'.1 = st.1.map (rnF L) → (∀ d, d ∈ st.1 → d ∈ K) →
    RI p (fs.foldl (reachStep (defsL p.kids)) st) ∧ RI q ((fs.map L).foldl (reachStep (defsL q.kids)) st') ∧ ((fs.map L).foldl (reachStep (defsL q.kids)) st').1 = (fs.foldl (reachStep (defsL p.kids)) st).1.map (rnF L) ∧ ∀ d, d ∈ (fs.foldl (reachStep (defsL p.kids)) st).1 → d ∈ K
  | [], st, st', _, i1, i2, i3, i4 => ⟨i1, i2, i3, i4⟩
  | f :: fs, st, st', hf, i1, i2, i3, i4 => by
    rw [List.map_cons, List.foldl_cons, List.foldl_cons]
    obtain ⟨e, he, rfl⟩ := H.label R hx (hf f (by simp))
    have hep := H.sub e he
    have g1 : kget (defsL p.kids) e.head = some e := by rw [defsL_get R.apart]; exact find_kq R.apart hep (kq_refl _)
    have g2 : kget (defsL q.kids) (L e.head) = some (rnF L e) := by rw [defsL_get S.apart]; exact find_kq S.apart (H.into e he) (kq_refl _)
    have hs : seenB st'.2 (L e.head) = seenB st.2 e.head := by
      rw [i2.seen, i1.seen, i3, List.any_map]
      have key : ∀ l : List D, (∀ d, d ∈ l → d ∈ K) → l.any ((fun d => kq (L e.head) d.head) ∘ rnF L) = l.any fun d => kq e.head d.head := by
        intro l
        induction l with
        | nil => intro _; rfl
        | cons y l ih =>
          intro h
          rw [List.any_cons, List.any_cons, ih fun d hd => h d (by simp [hd])]
          congr 1
          exact H.inj e y he (h y (by simp))
      exact key _ i4
    have j1 : RI p (reachStep (defsL p.kids) st e.head) := i1.step hep (kq_refl _) g1
    have j2 : RI q (reachStep (defsL q.kids) st' (L e.head)) := i2.step (H.into e he) (kq_refl _) g2
    refine Renames.fold hx fs _ _ (fun g hg => hf g (by simp [hg])) j1 j2 ?_ ?_
    · cases hb : seenB st.2 e.head with
      | true => rw [reachStep_old hb, reachStep_old (by rw [hs]; exact hb)]; exact i3
      | false => rw [reachStep_new hb g1, reachStep_new (by rw [hs]; exact hb) g2]; simp [i3]
    · cases hb : seenB st.2 e.head with
      | true => rw [reachStep_old hb]; exact i4
      | false =>
        rw [reachStep_new hb g1]
        intro d hd
        simp only [List.mem_append, List.mem_singleton] at hd
        rcases hd with hd | rfl
        · exact i4 d hd
        · exact he
end
end Go.Aw

namespace Go.Aw
open Go
/-! ### what makes an expression right -/
section
variable {L : D → D} {ps ps' : List (D × Int)}
end
/-! ### right data -/
theorem formed_dlist (l : List D) : formed (dlist l) = true ↔ ∀ x, x ∈ l → formed x = true := by
  rw [formed_eq, if_neg (show ¬((dlist l).kind == 1) = true from fun h => by cases h), if_neg (show ¬((dlist l).kind == 2) = true from fun h => by cases h), if_pos (show ((dlist l).kind == 3) = true from rfl)]
  have e1 : ((dlist l).num == 0) = true := rfl
  have e2 : decide ((dlist l).text = es) = true := rfl
  rw [e1, e2, dlist_kids]
  simp
theorem deeps_le {l : List D} {m : Nat} : D.deeps l ≤ m ↔ ∀ x, x ∈ l → x.deep ≤ m := by
  induction l with
  | nil => simp [D.deeps]
  | cons x l ih => simp only [D.deeps, Nat.max_le, ih, List.mem_cons, forall_eq_or_imp]
theorem deep_le_deeps {l : List D} {x : D} (h : x ∈ l) : x.deep ≤ D.deeps l := deeps_le.1 (Nat.le_refl _) x h
theorem deep_dlist (l : List D) : (dlist l).deep = 1 + D.deeps l := rfl
section
variable {L : D → D}
end
/-! ### what makes a program right -/
end Go.Aw

namespace Go.Aw
open Go
section
variable {p : D} (R : Right p)
include R
end
end Go.Aw

namespace Go.Aw
open Go
def sRec : ByteArray := ⟨#[114, 101, 99]⟩
theorem itoaB_size {n : Int} (h0 : -9223372036854775808 ≤ n) (h1 : n ≤ 9223372036854775807) : (itoaB n).size ≤ 21 := by
  have := Lib.itoa_length_le n h0 h1
  show ((Lib.itoa n).toArray).size ≤ 21
  simpa using this

@[go_sem] theorem modify_app2 {l : List Tok} {t u : Tok} {f : Tok → Tok} : (l ++ [t, u]).modify (l.length + 1) f = l ++ [t, f u] := by
  induction l with
  | nil => rfl
  | cons a l ih => simp [ih]
@[go_sem] theorem take_app2 {α : Type} {l : List α} {a b : α} : (l ++ [a, b]).take (l.length + 2) = l ++ [a, b] := List.take_of_length_le (by simp)

/-! ### sizes -/
section
variable {p : D} (R : Right p)
include R
end
end Go.Aw
namespace Go.Aw
open Go
end Go.Aw

namespace Go.Aw
open Go
mutual
/-- A term, told by what the terms in it give. -/
def mcata {β : Type} (f : D → List β → β) : D → β
  | .mk k n t l => f (.mk k n t l) (mcatas f (idrop (.mk k n t l)) l)
def mcatas {β : Type} (f : D → List β → β) : Nat → List D → List β
  | _, [] => []
  | 0, x :: l => mcata f x :: mcatas f 0 l
  | i + 1, _ :: l => mcatas f i l
end
theorem mcatas_drop {β : Type} (f : D → List β → β) : ∀ (i : Nat) (l : List D), mcatas f i l = (l.drop i).map (mcata f)
  | 0, [] => rfl
  | 0, x :: l => by rw [mcatas, mcatas_drop f 0 l]; rfl
  | i + 1, [] => rfl
  | i + 1, x :: l => by rw [mcatas, mcatas_drop f i l]; rfl
theorem mcata_eq {β : Type} (f : D → List β → β) (d : D) : mcata f d = f d ((inner d).map (mcata f)) := by
  unfold inner
  rw [← mcatas_drop]
  cases d
  rw [mcata]
  rfl

/-- A list gone through with the places. -/
def foldI {α β : Type} (f : Nat → β → α → α) : Nat → List β → α → α
  | _, [], a => a
  | i, x :: r, a => foldI f (i + 1) r (f i x a)
theorem foldI_snoc {α β : Type} (f : Nat → β → α → α) (x : β) : ∀ (l : List β) (i : Nat) (a : α), foldI f i (l ++ [x]) a = f (i + l.length) x (foldI f i l a)
  | [], i, a => rfl
  | y :: l, i, a => by
    simp only [List.cons_append, foldI, foldI_snoc f x l]
    rw [List.length_cons, show i + 1 + l.length = i + (l.length + 1) by omega]
theorem foldI_map {α β γ : Type} (f : Nat → β → α → α) (g : γ → β) : ∀ (l : List γ) (i : Nat) (a : α), foldI f i (l.map g) a = foldI (fun i x a => f i (g x) a) i l a
  | [], i, a => rfl
  | y :: l, i, a => by simp only [List.map_cons, foldI, foldI_map f g l]
theorem foldI_next {α β : Type} {f : Nat → β → α → α} {l : List β} {k : Nat} {x : β} {a : α} (h : l[k]? = some x) : foldI f 0 (l.take (k + 1)) a = f k x (foldI f 0 (l.take k) a) := by
  rw [take_next h, foldI_snoc]
  have : (l.take k).length = k := by rw [List.length_take]; have := (List.getElem?_eq_some_iff.1 h).1; omega
  rw [this, Nat.zero_add]
def memB (l : List ByteArray) (s : ByteArray) : Bool := l.any fun x => decide (s = x)
theorem memB_iff {l : List ByteArray} {s : ByteArray} : memB l s = true ↔ s ∈ l := by simp [memB]
abbrev FB := List ByteArray → List ByteArray → List ByteArray
def freeStep (d : D) (rs : List FB) : FB := fun l out =>
  if ((d.kind == 2 && !memB l d.text) && !memB out d.text) = true then out ++ [d.text] else foldI (fun i r out => r (l ++ bnd d i) out) 0 rs out
/-- The free names, more of them. -/
def mfree (d : D) : FB := mcata freeStep d
theorem mfree_eq (d : D) (l out : List ByteArray) : mfree d l out =
    if ((d.kind == 2 && !memB l d.text) && !memB out d.text) = true then out ++ [d.text] else foldI (fun i x out => mfree x (l ++ bnd d i) out) 0 (inner d) out := by
  unfold mfree
  rw [mcata_eq]
  unfold freeStep
  rw [foldI_map]
def mfreeK (d : D) (l out : List ByteArray) (k : Nat) : List ByteArray := foldI (fun i x out => mfree x (l ++ bnd d i) out) 0 ((inner d).take k) out
theorem mfreeK_zero {d : D} {l out : List ByteArray} : mfreeK d l out 0 = out := rfl
theorem mfreeK_next {d x : D} {l out : List ByteArray} {k : Nat} (h : (inner d)[k]? = some x) : mfreeK d l out (k + 1) = mfree x (l ++ bnd d k) (mfreeK d l out k) := foldI_next h
theorem mfreeK_all {d : D} {l out : List ByteArray} (h : ((d.kind == 2 && !memB l d.text) && !memB out d.text) = false) : mfreeK d l out (inner d).length = mfree d l out := by
  rw [mfree_eq, if_neg (by rw [h]; decide)]
  unfold mfreeK; rw [List.take_length]
/-- All terms in a term, in order. -/
def mall (d : D) : List D := mcata (fun d rs => d :: rs.flatten) d
theorem mall_eq (d : D) : mall d = d :: (inner d).flatMap mall := by
  unfold mall
  rw [mcata_eq]
  rfl
def mcount (p : D → Bool) (d : D) : Nat := (mall d).countP p
theorem mcount_eq (p : D → Bool) (d : D) : mcount p d = (if p d = true then 1 else 0) + ((inner d).map (mcount p)).sum := by
  unfold mcount
  rw [mall_eq, List.countP_cons]
  have : ∀ l : List D, (l.flatMap mall).countP p = (l.map fun x => (mall x).countP p).sum := by
    intro l
    induction l with
    | nil => rfl
    | cons x l ih => simp [List.flatMap_cons, List.countP_append, ih]
  rw [this]; omega
def mcountK (p : D → Bool) (d : D) (k : Nat) : Nat := (if p d = true then 1 else 0) + (((inner d).take k).map (mcount p)).sum
theorem mcountK_zero {p : D → Bool} {d : D} : mcountK p d 0 = if p d = true then 1 else 0 := by simp [mcountK]
theorem mcountK_next {p : D → Bool} {d x : D} {k : Nat} (h : (inner d)[k]? = some x) : mcountK p d (k + 1) = mcountK p d k + mcount p x := by
  unfold mcountK; rw [take_next h]; simp [Nat.add_assoc]
theorem mcountK_all {p : D → Bool} {d : D} : mcountK p d (inner d).length = mcount p d := by unfold mcountK; rw [List.take_length, ← mcount_eq]
theorem inner_sizes (d : D) : D.sizes (inner d) ≤ D.sizes d.kids := by
  unfold inner
  have : ∀ (n : Nat) (l : List D), D.sizes (l.drop n) ≤ D.sizes l := by
    intro n
    induction n with
    | zero => intro l; simp
    | succ n ih => intro l; cases l with
      | nil => simp
      | cons x l => have := ih l; simp only [List.drop_succ_cons, D.sizes]; omega
  exact this _ _
theorem mall_len (d : D) : (mall d).length ≤ d.size := by
  induction d using D.ind with
  | _ k n t l ih =>
    generalize hd : D.mk k n t l = d at *
    have hl : d.kids = l := by rw [← hd]; rfl
    subst hl
    clear hd
    rw [mall_eq, D.size_kids]
    have h1 := inner_sizes d
    have h2 : ∀ l : List D, (∀ x, x ∈ l → x ∈ d.kids) → (l.flatMap mall).length ≤ D.sizes l := by
      intro l
      induction l with
      | nil => intro _; simp
      | cons x l ih2 =>
        intro hx
        have := ih x (hx x (by simp))
        have := ih2 fun y hy => hx y (by simp [hy])
        simp only [List.flatMap_cons, List.length_append, D.sizes]; omega
    have := h2 (inner d) fun x hx => inner_mem hx
    simp only [List.length_cons]; omega
theorem mcount_le {p : D → Bool} {d : D} : mcount p d ≤ d.size := Nat.le_trans List.countP_le_length (mall_len d)
theorem mcountK_le {p : D → Bool} {d : D} {k : Nat} : mcountK p d k ≤ mcount p d := by
  rw [mcount_eq]
  unfold mcountK
  have : ((inner d).map (mcount p)).sum = (((inner d).take k).map (mcount p)).sum + (((inner d).drop k).map (mcount p)).sum := by
    rw [← List.sum_append, ← List.map_append, List.take_append_drop]
  omega
theorem mfree_len (d : D) : ∀ l out, (mfree d l out).length ≤ out.length + d.size := by
  induction d using D.ind with
  | _ k n t l ih =>
    generalize hd : D.mk k n t l = d at *
    have hl : d.kids = l := by rw [← hd]; rfl
    subst hl
    clear hd
    intro l out
    rw [mfree_eq]
    have hs := D.size_kids d
    split
    · simp; omega
    · have h1 := inner_sizes d
      have h2 : ∀ (r : List D) (i : Nat) (out : List ByteArray), (∀ x, x ∈ r → x ∈ d.kids) → (foldI (fun i x out => mfree x (l ++ bnd d i) out) i r out).length ≤ out.length + D.sizes r := by
        intro r
        induction r with
        | nil => intro i out _; simp [foldI, D.sizes]
        | cons x r ih2 =>
          intro i out hx
          have e1 := ih x (hx x (by simp)) (l ++ bnd d i) out
          have e2 := ih2 (i + 1) (mfree x (l ++ bnd d i) out) fun y hy => hx y (by simp [hy])
          simp only [foldI, D.sizes]; omega
      have := h2 (inner d) 0 out fun x hx => inner_mem hx
      omega
theorem mfreeK_len {d : D} {l out : List ByteArray} {k : Nat} : (mfreeK d l out k).length ≤ out.length + D.sizes ((inner d).take k) := by
  have h2 : ∀ (r : List D) (i : Nat) (out : List ByteArray), (foldI (fun i x out => mfree x (l ++ bnd d i) out) i r out).length ≤ out.length + D.sizes r := by
    intro r
    induction r with
    | nil => intro i out; simp [foldI, D.sizes]
    | cons x r ih2 =>
      intro i out
      have e1 := mfree_len x (l ++ bnd d i) out
      have e2 := ih2 (i + 1) (mfree x (l ++ bnd d i) out)
      simp only [foldI, D.sizes]; omega
  exact h2 _ _ _
theorem bnd_len (d : D) (i : Nat) : (bnd d i).length ≤ 2 := by unfold bnd; split <;> (try split) <;> simp

/-! ### what a word says of the list -/
section
variable {d : D} (h : GoodM d)
include h
theorem GoodM.ne : d.kind = 3 → d.kids ≠ [] := fun hk => (h.list hk).1
theorem GoodM.n : d.kind = 3 → d.head.text ≠ sQuote → 1 + shN d.head.text ≤ d.kids.length := by
  intro hk hq
  rcases (h.list hk).2.2.2.2 with ⟨e, _⟩ | ⟨e, f, x, b, k, _⟩ | ⟨e, x, a, b, k, _⟩ | ⟨_, k, _, hf, hl, _⟩
  · exact absurd e hq
  · rw [k, e, show shN sFn = 2 from rfl]; simp
  · rw [k, e, show shN sLet = 1 from rfl]; simp
  · have : shN d.head.text = 0 := by
      rcases shp_cases d.head.text with ⟨e, s⟩ | ⟨e, s⟩ | ⟨e, s⟩ | ⟨e, s⟩ | ⟨e, s⟩ | ⟨e, s⟩ | ⟨e, s⟩ | ⟨e, s⟩ | ⟨s, _⟩
      all_goals first | (exact shN_of s) | (exact shN_none s) | (exact absurd e hf) | (exact absurd e hl)
    rw [this, k]; simp
omit h in
theorem isW_iff {w : ByteArray} : isW d w = true ↔ d.kind = 3 ∧ d.head.text = w := by simp [isW]
theorem GoodM.fn (hw : isW d sFn = true) : ∃ f x b, d.kids[1]? = some f ∧ d.kids[2]? = some x ∧ d.kids = [d.head, f, x, b] ∧ d1 d.kids = f ∧ d2 d.kids = x ∧ inner d = [b] ∧ mName f = true ∧ mName x = true ∧ d.kind = 3 ∧ d.head.text = sFn := by
  obtain ⟨hk, ht⟩ := isW_iff.1 hw
  rcases (h.list hk).2.2.2.2 with ⟨e, _⟩ | ⟨e, f, x, b, k, i, hf, hx⟩ | ⟨e, x, a, b, k, _⟩ | ⟨_, k, _, hf, hl, _⟩
  · rw [e] at ht; exact absurd ht (by decide)
  · exact ⟨f, x, b, by rw [k]; rfl, by rw [k]; rfl, k, by rw [k]; rfl, by rw [k]; rfl, i, hf, hx, hk, ht⟩
  · rw [e] at ht; exact absurd ht (by decide)
  · exact absurd ht hf
theorem GoodM.lett (hw : isW d sLet = true) : ∃ x a b, d.kids[1]? = some x ∧ d.kids = [d.head, x, a, b] ∧ d1 d.kids = x ∧ inner d = [a, b] ∧ mName x = true ∧ d.kind = 3 ∧ d.head.text = sLet := by
  obtain ⟨hk, ht⟩ := isW_iff.1 hw
  rcases (h.list hk).2.2.2.2 with ⟨e, _⟩ | ⟨e, f, x, b, k, _⟩ | ⟨e, x, a, b, k, i, hx⟩ | ⟨_, k, _, hf, hl, _⟩
  · rw [e] at ht; exact absurd ht (by decide)
  · rw [e] at ht; exact absurd ht (by decide)
  · exact ⟨x, a, b, by rw [k]; rfl, k, by rw [k]; rfl, i, hx, hk, ht⟩
  · exact absurd ht hl
end
theorem mchkL_none {l : List D} (h : NotYet (fun x => mchk x != 0) l l.length) : mchkL l = 0 := mchkL_zero.2 fun x hx => by simpa using h.all x hx
theorem mchkL_at : ∀ {l : List D} {k : Nat} {x : D}, NotYet (fun x => mchk x != 0) l k → l[k]? = some x → (mchk x != 0) = true → mchkL l = mchk x
  | [], k, x, h, hx, hc => by simp at hx
  | y :: l, 0, x, h, hx, hc => by
    simp only [List.getElem?_cons_zero, Option.some.injEq] at hx
    subst hx
    rw [mchkL_cons, if_pos hc]
  | y :: l, k + 1, x, h, hx, hc => by
    have h0 := h 0 y (by omega) rfl
    simp only at h0
    rw [mchkL_cons, h0, if_neg (by decide)]
    exact mchkL_at (l := l) (k := k) (fun j z hj hz => h (j + 1) z (Nat.succ_lt_succ hj) (by simpa using hz)) (by simpa using hx) hc
theorem shp_lt {s : ByteArray} {a b : Nat} (h : shp s = some (a, b)) : 1 + a ≤ b ∧ b ≤ 4 := by
  rcases shp_cases s with ⟨_, k⟩ | ⟨_, k⟩ | ⟨_, k⟩ | ⟨_, k⟩ | ⟨_, k⟩ | ⟨_, k⟩ | ⟨_, k⟩ | ⟨_, k⟩ | ⟨k, _⟩ <;> rw [k] at h <;> cases h <;> omega
theorem inner_good {d x0 : D} {r : List D} (hk : d.kids = x0 :: r) {a b : Nat} (hs : shp x0.text = some (a, b)) (hl : ((d.kids.length : Int) != (b : Int)) = false) : d.kind = 3 → d.head.text ≠ sQuote → 1 + shN d.head.text ≤ d.kids.length := by
  intro _ _
  rw [head_cons hk, shN_of hs]
  have := (shp_lt hs).1
  simp only [bne_eq_false_iff_eq] at hl
  omega
theorem inner_good0 {d x0 : D} {r : List D} (hk : d.kids = x0 :: r) (hs : shp x0.text = none) : d.kind = 3 → d.head.text ≠ sQuote → 1 + shN d.head.text ≤ d.kids.length := by
  intro _ _
  rw [head_cons hk, shN_none hs, hk]; simp
/-- The program's look, once the list has a word. -/
theorem mchk_list {d x0 : D} {r : List D} (h1 : (d.kind == 1) = false) (hm : mName d = false) (h3 : (d.kind != 3) = false) (hk : d.kids = x0 :: r) (hx : (x0.kind != 2) = false) : mchk d = match shp x0.text with
    | some (nm, sz) => if ((d.kids.length : Int) != sz || ((d.kids.drop 1).take nm).any fun x => !mName x) = true then 4 else mchkL (inner d)
    | none => if (!(arity x0.text).2) = true then 4 else if ((arity x0.text).1 != (d.kids.length : Int) - 1) = true then 11 else mchkL (inner d) := by
  rw [mchk_eq, h1, hm, if_neg (by decide), head_cons hk, h3, hx]
  have : ((d.kids.length : Int) == 0) = false := by rw [hk]; simp; omega
  rw [this]
  refine (if_neg (by decide)).trans ?_
  cases shp x0.text with
  | none => rfl
  | some p => rfl

theorem take_tail {α β : Type} (f : α → β) (l : List α) (n : Nat) : (List.take (1 + n) (l.map f)).tail = ((l.drop 1).take n).map f := by
  rw [Nat.add_comm]
  cases l <;> simp

theorem cut_full (σ : Store) : σ.cut σ.objs.length σ.toks.length = σ := by simp [Store.cut]
theorem tok_cutA {σ : Store} {kt a b : Nat} {t : Tok} (h : kt < σ.toks.length) : (({ σ.tok kt a with toks := (σ.tok kt a).toks ++ [t] } : Store).tok kt b).cut σ.objs.length σ.toks.length = σ.tok kt b := by
  simp only [Store.cut, Store.tok, List.take_length]
  congr 1
  apply List.ext_getElem?
  intro j
  rw [List.getElem?_take]
  split
  · rename_i hj
    rw [List.getElem?_modify, List.getElem?_append_left (by simpa using hj), List.getElem?_modify, List.getElem?_modify]
    by_cases e : kt = j
    · subst e
      rw [List.getElem?_eq_getElem h]; simp
    · simp [e]
  · rename_i hj
    rw [List.getElem?_eq_none (by simp; omega)]

theorem sizes_take : ∀ {l : List D} {k : Nat} {x : D}, l[k]? = some x → D.sizes (l.take k) + x.size ≤ D.sizes l
  | [], k, x, h => by simp at h
  | y :: l, 0, x, h => by
    simp only [List.getElem?_cons_zero, Option.some.injEq] at h
    subst h
    simp only [List.take_zero, D.sizes]; omega
  | y :: l, k + 1, x, h => by
    have := sizes_take (l := l) (k := k) (x := x) (by simpa using h)
    simp only [List.take_succ_cons, D.sizes]; omega
theorem tok_get_app {σ : Store} {kt n a : Nat} {e : TypeId} {sz : Nat} {t : Tok} (h : σ.toks[kt]? = some ⟨n, e, sz⟩) : ((σ.tok kt a).toks ++ [t])[kt]? = some ⟨a, e, sz⟩ := by
  have hl := (List.getElem?_eq_some_iff.1 h).1
  rw [List.getElem?_append_left (by simpa [Store.tok] using hl)]
  simp only [Store.tok, List.getElem?_modify, h]
  simp

theorem mall_good {d : D} : GoodM d → ∀ x, x ∈ mall d → GoodM x := by
  induction d using D.ind with
  | _ k n t l ih =>
    generalize hd : D.mk k n t l = d at *
    have hl : d.kids = l := by rw [← hd]; rfl
    subst hl
    clear hd
    intro hg x hx
    rw [mall_eq] at hx
    rcases List.mem_cons.1 hx with rfl | hx
    · exact hg
    · obtain ⟨y, hy, hxy⟩ := List.mem_flatMap.1 hx
      exact ih y (inner_mem hy) (hg.part hy) x hxy
def pOne (d : D) : Bool := isW d sLift || isW d sRun
def mone (d : D) : Bool := ((mcount pOne d : Nat) : Int) == 0
end Go.Aw

namespace Go.Aw
open Go Go.RowKit
theorem pur_of_below {P : Program} {G : List (Nat × PV)} {f : FuncId} {ps : List PV} {r : AV} (l : List KA) (hps : fitsAll l ps = true)
    (h : ∀ w, (∀ n p, (n, p) ∈ G → ∃ B S, RP B S w p (.pointer (some ⟨n, 0, none⟩))) → Calls P f (ps.map atomV).toArray w fun e w' => ∃ v, e = .returned v ∧ Below w.heap.size w w' ∧ ∀ g tk w, RA g tk w r v) : Pur P G f (ps.map .pv) r := by
  intro σ hgl g w cargs hinv hlen hargs
  have hc : cargs = ps.map atomV := by
    refine fitsAll_val (B := g.B) (S := g.S) (w := w) hps (by simpa using hlen) (fun i x v hx hv => ?_)
    exact (hargs i (.pv x) v (by simp [hx]) hv).pv_inv
  subst hc
  refine (h w (fun n p hm => ⟨_, _, hinv.glob n p (by rw [hgl]; exact hm)⟩)).mono ?_
  rintro e w' ⟨v, rfl, hb, hr⟩
  obtain ⟨h1, h2⟩ := hinv.step hb.size (fun b hlt => hb.block b hlt)
  exact ⟨v, r, σ, g, rfl, ⟨rfl, rfl⟩, h1, ⟨h2, rfl, fun _ h => h, fun b hK => hb.block b (hinv.kept b hK).1, hb.size, hb.os, hb.tape, hb.output, hinv.lio, hinv.clo⟩, hr g _ w'⟩

/-- A variable that holds an error. -/
theorem rp_err {B : Nat} {S : Nat → Nat → Prop} {w : World} {t : TypeId} {n : Nat} (h : RP B S w (.ptr [.iface t (.ptr [])]) (.pointer (some ⟨n, 0, none⟩))) : ∃ ev, w.cell? ⟨n, 0, none⟩ = some ev ∧ ∃ te pe, ev = .iface te pe := by
  cases h with
  | ptr hl hc hr =>
    rename_i vs
    match vs, hl, hc, hr with
    | [v], _, hc, hr =>
      have h1 := (hc 0 v rfl).2.1
      have h2 := hr 0 _ v rfl rfl
      cases h2 with
      | iface h3 => exact ⟨_, by simpa using h1, _, _, rfl⟩

/-- What Atoi gives. -/
def atoiR (s : ByteArray) : Int × Bool := match Lib.atoiAll s.data.toList with
  | .ok v => (v, true)
  | .range => (Lib.atoiSat s.data.toList, false)
  | _ => (0, false)

theorem atoi_range {l : List UInt8} {v : Int} (h : Lib.atoiAll l = .ok v) : -9223372036854775808 ≤ v ∧ v ≤ 9223372036854775807 := by
  unfold Lib.atoiAll at h
  split at h
  · cases h
  · simp only at h
    split at h
    · cases h
    · cases h
    · split at h
      · cases h
      · split at h
        · cases h
        · injection h with h
          subst h
          split <;> omega
theorem atoiR_range (s : ByteArray) : -9223372036854775808 ≤ (atoiR (s.extract 2 s.size)).1 ∧ (atoiR (s.extract 2 s.size)).1 ≤ 9223372036854775807 := by
  unfold atoiR
  split
  · rename_i v h; exact atoi_range h
  · simp only [Lib.atoiSat]; split <;> omega
  · simp
/-- The plain name with a number. -/
def namedB (n : Int) : ByteArray := ⟨#[120, 46]⟩ ++ itoaB n
/-- One of the plain names. -/
def pname (s : ByteArray) : Bool :=
  if (decide ((s.size : Int) < 3) || !decide (s.extract 0 2 = ⟨#[120, 46]⟩)) = true then false else
  ((atoiR (s.extract 2 s.size)).2 && decide (0 ≤ (atoiR (s.extract 2 s.size)).1)) && decide (namedB (atoiR (s.extract 2 s.size)).1 = s)
end Go.Aw

namespace Go.Aw
open Go
/-- A list told by its places. -/
def mapI {α β : Type} (f : Nat → α → β) (l : List α) : List β := l.zipIdx.map fun p => f p.2 p.1
theorem mapI_get {α β : Type} (f : Nat → α → β) (l : List α) (i : Nat) : (mapI f l)[i]? = l[i]?.map (f i) := by
  unfold mapI
  rw [List.getElem?_map, List.getElem?_zipIdx]
  cases l[i]? <;> simp
theorem mapI_length {α β : Type} (f : Nat → α → β) (l : List α) : (mapI f l).length = l.length := by simp [mapI]
theorem mapI_map {α β γ : Type} (f : Nat → β → γ) (g : α → β) (l : List α) : mapI f (l.map g) = mapI (fun i x => f i (g x)) l := by
  apply List.ext_getElem?
  intro i
  simp only [mapI_get, List.getElem?_map, Option.map_map]
  rfl
theorem mapI_next {α β : Type} {f : Nat → α → β} {l : List α} {k : Nat} {x : α} (h : l[k]? = some x) : (mapI f l).take (k + 1) = (mapI f l).take k ++ [f k x] := take_next (by rw [mapI_get, h]; rfl)
theorem mapI_mem {α β : Type} {f : Nat → α → β} {l : List α} {y : β} (h : y ∈ mapI f l) : ∃ i x, l[i]? = some x ∧ y = f i x := by
  obtain ⟨i, hi, rfl⟩ := List.getElem_of_mem h
  have h2 : (mapI f l)[i]? = some (mapI f l)[i] := List.getElem?_eq_getElem hi
  rw [mapI_get] at h2
  obtain ⟨x, h3, h4⟩ := Option.map_eq_some_iff.1 h2
  exact ⟨i, x, h3, h4.symm⟩

/-- The last place of a name. -/
def lastI : List ByteArray → ByteArray → Option Nat
  | [], _ => none
  | x :: r, s => match lastI r s with
    | some i => some (i + 1)
    | none => if decide (x = s) = true then some 0 else none
theorem lastI_spec : ∀ (l : List ByteArray) (s : ByteArray), (∀ i : Nat, lastI l s = some i → l[i]? = some s ∧ ∀ j : Nat, i < j → l[j]? ≠ some s) ∧ (lastI l s = none → ∀ j : Nat, l[j]? ≠ some s)
  | [], s => ⟨fun i h => (by cases h), fun _ j => (by simp)⟩
  | x :: r, s => by
    obtain ⟨h1, h2⟩ := lastI_spec r s
    simp only [lastI]
    cases hr : lastI r s with
    | some i =>
      obtain ⟨k1, k2⟩ := h1 i hr
      refine ⟨fun j h => ?_, fun h => (by cases h)⟩
      cases h
      refine ⟨by simpa using k1, fun m hm => ?_⟩
      cases m with
      | zero => omega
      | succ m => simpa using k2 m (by omega)
    | none =>
      have k := h2 hr
      by_cases hx : x = s
      · refine ⟨fun j h => ?_, fun h => (by simp [hx] at h)⟩
        simp only [hx, decide_true, if_true, Option.some.injEq] at h
        subst h
        refine ⟨by simp [hx], fun m hm => ?_⟩
        cases m with
        | zero => omega
        | succ m => simpa using k m
      · refine ⟨fun j h => (by simp [hx] at h), fun _ m => ?_⟩
        cases m with
        | zero => simpa using hx
        | succ m => simpa using k m
/-- None of the last k names. -/
def NoneLast (l : List ByteArray) (s : ByteArray) (k : Nat) : Prop := ∀ j : Nat, j < k → l[l.length - 1 - j]? ≠ some s
theorem lastI_found {l : List ByteArray} {s : ByteArray} {k : Nat} (h : NoneLast l s k) (hk : k < l.length) (hx : l[l.length - 1 - k]? = some s) : lastI l s = some (l.length - 1 - k) := by
  obtain ⟨h1, h2⟩ := lastI_spec l s
  cases hr : lastI l s with
  | none => exact absurd hx (h2 hr _)
  | some i =>
    obtain ⟨k1, k2⟩ := h1 i hr
    have hi := (List.getElem?_eq_some_iff.1 k1).1
    rcases Nat.lt_trichotomy i (l.length - 1 - k) with h3 | h3 | h3
    · exact absurd hx (k2 _ h3)
    · rw [h3]
    · have := h (l.length - 1 - i) (by omega)
      rw [show l.length - 1 - (l.length - 1 - i) = i by omega] at this
      exact absurd k1 this
theorem lastI_none {l : List ByteArray} {s : ByteArray} (h : NoneLast l s l.length) : lastI l s = none := by
  obtain ⟨h1, _⟩ := lastI_spec l s
  cases hr : lastI l s with
  | none => rfl
  | some i =>
    obtain ⟨k1, _⟩ := h1 i hr
    have hi := (List.getElem?_eq_some_iff.1 k1).1
    have := h (l.length - 1 - i) (by omega)
    rw [show l.length - 1 - (l.length - 1 - i) = i by omega] at this
    exact absurd k1 this
/-- What old names become. -/
def envP (env : List ByteArray) : List (ByteArray × ByteArray) := mapI (fun (i : Nat) x => (x, namedB i)) env
theorem envP_length (env : List ByteArray) : (envP env).length = env.length := mapI_length _ _
theorem envP_get {env : List ByteArray} {i : Nat} : (envP env)[i]? = env[i]?.map fun x => (x, namedB i) := mapI_get _ _ _
theorem envP_snoc (env : List ByteArray) (x : ByteArray) : envP (env ++ [x]) = envP env ++ [(x, namedB (env.length : Nat))] := by
  have h := mapI_next (f := fun (i : Nat) x => (x, namedB i)) (l := env ++ [x]) (k := env.length) (x := x) (by simp)
  unfold envP
  rw [show (mapI (fun (i : Nat) x => (x, namedB i)) (env ++ [x])).take (env.length + 1) = mapI (fun (i : Nat) x => (x, namedB i)) (env ++ [x]) from List.take_of_length_le (by simp [mapI_length])] at h
  rw [h]
  congr 1
  apply List.ext_getElem?
  intro i
  rw [List.getElem?_take, mapI_get, mapI_get]
  split
  · rename_i hi; rw [List.getElem?_append_left hi]
  · rename_i hi; rw [List.getElem?_eq_none (by omega)]; rfl

/-- The names that a term binds, and what they become. -/
def nmsD (d : D) : List ByteArray := ((d.kids.drop 1).take (shN d.head.text)).map D.text
def newN (d : D) (n : Nat) : List ByteArray := (List.range (shN d.head.text)).map fun j => namedB ((n + j : Nat) : Int)
abbrev FD := List ByteArray → D
def renStep (d : D) (rs : List FD) : FD := fun env =>
  if (d.kind == 2) = true then (match lastI env d.text with | some i => dsym (namedB (i : Nat)) | none => d)
  else if (d.kind != 3) = true then d else if decide (d.head.text = sQuote) = true then d else
  dlist (d.head :: (newN d env.length).map dsym ++ mapI (fun i r => r (env ++ bnd d i)) rs)
/-- A term with its plain names. -/
def mren (d : D) : FD := mcata renStep d
theorem mren_eq (d : D) (env : List ByteArray) : mren d env =
    if (d.kind == 2) = true then (match lastI env d.text with | some i => dsym (namedB (i : Nat)) | none => d)
    else if (d.kind != 3) = true then d else if decide (d.head.text = sQuote) = true then d else
    dlist (d.head :: (newN d env.length).map dsym ++ mapI (fun i x => mren x (env ++ bnd d i)) (inner d)) := by
  unfold mren
  rw [mcata_eq]
  unfold renStep
  rw [mapI_map]
/-- The names that are bound in a term. -/
def mbnd (d : D) : List ByteArray := mcata (fun d rs => (if (d.kind == 3 && !decide (d.head.text = sQuote)) = true then nmsD d else []) ++ rs.flatten) d
theorem mbnd_eq (d : D) : mbnd d = (if (d.kind == 3 && !decide (d.head.text = sQuote)) = true then nmsD d else []) ++ (inner d).flatMap mbnd := by
  unfold mbnd
  rw [mcata_eq]
  rfl
/-- A term in which each becomes another one, those in it first. -/
def mapStep (f : D → D) (d : D) (rs : List D) : D := if (d.kind != 3) = true then f d else if decide (d.head.text = sQuote) = true then f d else f (dlist (d.head :: (nmsD d).map dsym ++ rs))
def mmap (f : D → D) (d : D) : D := mcata (mapStep f) d
theorem mmap_eq (f : D → D) (d : D) : mmap f d = if (d.kind != 3) = true then f d else if decide (d.head.text = sQuote) = true then f d else f (dlist (d.head :: (nmsD d).map dsym ++ (inner d).map (mmap f))) := by
  unfold mmap
  rw [mcata_eq]
  rfl
section
variable {d : D} (h : GoodM d)
include h
theorem GoodM.nms (hk : d.kind = 3) (hq : d.head.text ≠ sQuote) : (nmsD d).length = shN d.head.text := by
  unfold nmsD
  have := h.n hk hq
  simp; omega
theorem GoodM.bnd_nms (hk : d.kind = 3) (i : Nat) : bnd d i = [] ∨ bnd d i = nmsD d := by
  unfold bnd
  split
  · rename_i hw
    obtain ⟨f, x, b, _, _, hks, h1, h2, _, _, _, _, ht⟩ := h.fn hw
    right
    unfold nmsD
    rw [ht, show shN sFn = 2 from rfl, h1, h2, hks]; rfl
  · split
    · rename_i hw
      simp only [Bool.and_eq_true] at hw
      obtain ⟨x, a, b, _, hks, h1, _, _, _, ht⟩ := h.lett hw.1
      right
      unfold nmsD
      rw [ht, show shN sLet = 1 from rfl, h1, hks]; rfl
    · exact .inl rfl
end
/-- What going through a term needs of it. -/
def okT (d : D) : Prop := d.kind = 3 → d.kids ≠ [] ∧ (d.head.text ≠ sQuote → 1 + shN d.head.text ≤ d.kids.length)
def OkM (d : D) : Prop := ∀ x, x ∈ mall d → okT x
theorem GoodM.okT {d : D} (h : GoodM d) : Aw.okT d := fun hk => ⟨h.ne hk, h.n hk⟩
theorem GoodM.okM {d : D} (h : GoodM d) : OkM d := fun x hx => (mall_good h x hx).okT
theorem OkM.part {d x : D} (h : OkM d) (hx : x ∈ inner d) : OkM x := fun y hy => h y (by rw [mall_eq]; exact List.mem_cons_of_mem _ (List.mem_flatMap.2 ⟨x, hx, hy⟩))
theorem OkM.self {d : D} (h : OkM d) : okT d := h d (by rw [mall_eq]; simp)
theorem newN_len (d : D) (n : Nat) : (newN d n).length = shN d.head.text := by simp [newN]
/-- A list made of a head, names and terms, as a term. -/
theorem inner_made {h : D} {ns : List ByteArray} {l : List D} (hq : h.text ≠ sQuote) (hn : ns.length = shN h.text) : inner (dlist (h :: ns.map dsym ++ l)) = l := by
  rw [inner_eq]
  show (if ((3 : Int) != 3) = true then [] else if decide (h.text = sQuote) = true then [] else ((h :: ns.map dsym) ++ l).drop (1 + shN h.text)) = l
  rw [if_neg (by decide), if_neg (by simpa using hq), List.drop_left' (by simp [hn]; omega)]
theorem okT_made {h : D} {ns : List ByteArray} {l : List D} (hn : ns.length = shN h.text) : okT (dlist (h :: ns.map dsym ++ l)) := by
  intro _
  refine ⟨by simp [dlist, D.kids], fun _ => ?_⟩
  show 1 + shN h.text ≤ ((h :: ns.map dsym) ++ l).length
  simp [hn]; omega
theorem okM_leaf {d : D} (h : d.kind ≠ 3) : OkM d := by
  intro x hx
  rw [mall_eq, inner_none h] at hx
  simp only [List.flatMap_nil, List.mem_singleton] at hx
  subst hx
  exact fun hk => absurd hk h
theorem mren_ok {d : D} : GoodM d → ∀ env, OkM (mren d env) := by
  induction d using D.ind with
  | _ k n t l ih =>
    generalize hd : D.mk k n t l = d at *
    have hl : d.kids = l := by rw [← hd]; rfl
    subst hl
    clear hd
    intro hg env
    rw [mren_eq]
    split
    · split
      · exact okM_leaf (show (2 : Int) ≠ 3 by decide)
      · exact hg.okM
    · split
      · exact hg.okM
      · split
        · exact hg.okM
        · rename_i hq
          have hq' : d.head.text ≠ sQuote := by simpa using hq
          intro x hx
          rw [mall_eq, inner_made hq' (newN_len d _)] at hx
          rcases List.mem_cons.1 hx with rfl | hx
          · exact okT_made (newN_len d _)
          · obtain ⟨y, hy, hxy⟩ := List.mem_flatMap.1 hx
            obtain ⟨i, z, hz, rfl⟩ := mapI_mem hy
            have hzm := List.mem_of_getElem? hz
            exact ih z (inner_mem hzm) (hg.part hzm) _ x hxy

/-- What the last step of mapping needs. -/
def okF (d : D) : Prop := okT d ∧ (isW d sLift = true → d.kids.length = 2) ∧ (isW d sRun = true → d.kids.length = 3)
theorem GoodM.len {d : D} (h : GoodM d) : (isW d sLift = true → d.kids.length = 2) ∧ (isW d sRun = true → d.kids.length = 3) := by
  constructor
  · intro hw
    obtain ⟨hk, ht⟩ := isW_iff.1 hw
    rcases (h.list hk).2.2.2.2 with ⟨e, _⟩ | ⟨e, _⟩ | ⟨e, _⟩ | ⟨_, k, _, _, _, hn⟩
    · rw [e] at ht; exact absurd ht (by decide)
    · rw [e] at ht; exact absurd ht (by decide)
    · rw [e] at ht; exact absurd ht (by decide)
    · rw [ht, if_neg (by decide), if_neg (by decide), if_pos (.inr rfl)] at hn
      rw [k]; simp; omega
  · intro hw
    obtain ⟨hk, ht⟩ := isW_iff.1 hw
    rcases (h.list hk).2.2.2.2 with ⟨e, _⟩ | ⟨e, _⟩ | ⟨e, _⟩ | ⟨_, k, _, _, _, hn⟩
    · rw [e] at ht; exact absurd ht (by decide)
    · rw [e] at ht; exact absurd ht (by decide)
    · rw [e] at ht; exact absurd ht (by decide)
    · rw [ht, if_neg (by decide), if_pos (.inr rfl)] at hn
      rw [k]; simp; omega
theorem GoodM.okF {d : D} (h : GoodM d) : Aw.okF d := ⟨h.okT, h.len.1, h.len.2⟩
theorem GoodM.inner_length {d : D} (h : GoodM d) (hk : d.kind = 3) (hq : d.head.text ≠ sQuote) : d.kids.length = 1 + shN d.head.text + (inner d).length := by
  have := h.n hk hq
  rw [inner_eq, if_neg (by rw [hk]; decide), if_neg (by simpa using hq), List.length_drop]; omega
theorem GoodM.okF_made {d : D} (h : GoodM d) (hk : d.kind = 3) (hq : d.head.text ≠ sQuote) {ns : List ByteArray} {l : List D} (hn : ns.length = shN d.head.text) (hl : l.length = (inner d).length) : Aw.okF (dlist (d.head :: ns.map dsym ++ l)) := by
  have hlen := h.inner_length hk hq
  have e : ∀ w, isW (dlist (d.head :: ns.map dsym ++ l)) w = true → isW d w = true := by
    intro w hw
    obtain ⟨_, ht⟩ := isW_iff.1 hw
    exact isW_iff.2 ⟨hk, ht⟩
  have e2 : (dlist (d.head :: ns.map dsym ++ l)).kids.length = d.kids.length := by
    show ((d.head :: ns.map dsym) ++ l).length = _
    simp; omega
  exact ⟨okT_made hn, fun hw => by rw [e2]; exact h.len.1 (e _ hw), fun hw => by rw [e2]; exact h.len.2 (e _ hw)⟩
theorem nmsD_head {d x0 : D} {r : List D} (h : d.kids = x0 :: r) : nmsD d = ((d.kids.drop 1).take (shN x0.text)).map D.text := by unfold nmsD; rw [head_cons h]
end Go.Aw

namespace Go.Aw
open Go
def tK (S : List ByteArray) : List PV := S.map .str
def tV (S : List ByteArray) : List PV := S.map fun _ => .bool true
def addS (S : List ByteArray) (x : ByteArray) : List ByteArray := if memB S x = true then S else S ++ [x]
def setS (σ : Store) (o : Nat) (S : List ByteArray) : Store := { σ with objs := σ.objs.set o (.map (tK S) (tV S)) }
theorem kfind_tK (x : ByteArray) : ∀ S : List ByteArray, kfind (.str x) (tK S) = S.findIdx? fun y => decide (x = y)
  | [] => rfl
  | y :: S => by
    have hk : (PV.str x).keq (.str y) = decide (x = y) := by simp [PV.keq, pvAtomEq]
    have ih := kfind_tK x S
    simp only [tK] at ih
    simp only [tK, List.map_cons, kfind, List.findIdx?_cons, hk, ih]
theorem tK_fits (S : List ByteArray) : (tK S).all (KS.fits (.one .str)) = true := by
  simp only [tK, List.all_map, List.all_eq_true]
  intro p _; rfl
section
variable {ty : TyT} {s : St} {t kt et : TypeId} {ti te tk : TyI} {o : Nat} {S : List ByteArray}
theorem look_set (h : ty t = some ti) (hk : ti.kind = .map kt et) (h1 : ty et = some te) (h2 : ty kt = some tk) (h3 : tk.ks = some (.one .str)) (h4 : te.kind = .bool) (h5 : te.zero = [.bool false]) (ho : s.σ.objs[o]? = some (.map (tK S) (tV S))) (x : ByteArray) :
    lookAV ty s t (.map o) (.pv (.str x)) false = some (.pv (.bool (memB S x))) := by
  have hko : keyOk ty kt (.str x) (tK S) = true := by
    simp only [keyOk, h2, h3, tK_fits, Bool.and_true]; rfl
  simp only [lookAV, h, hk, h1, mapOf, ho, toPV, atomToPV, Option.map_some, PV.nrm, hko, kfind_tK]
  unfold memB
  cases hj : S.findIdx? fun y => decide (x = y) with
  | none =>
    have : (S.any fun y => decide (x = y)) = false := by
      rw [List.findIdx?_eq_none_iff] at hj
      rw [List.any_eq_false]
      intro p hp; simp [hj p hp]
    simp only [this]
    simp [okAV, zeroAV, h4, h5, TyK.agg]
  | some j =>
    rw [List.findIdx?_eq_some_iff_getElem] at hj
    obtain ⟨h6, h7, _⟩ := hj
    have : (S.any fun y => decide (x = y)) = true := List.any_eq_true.2 ⟨_, List.getElem_mem h6, h7⟩
    simp only [this]
    simp [okAV, tV, h6]
theorem kput_set (x : ByteArray) : kput (.str x) (.bool true) (tK S) (tV S) = (tK (addS S x), tV (addS S x)) := by
  unfold kput
  rw [kfind_tK]
  cases hj : S.findIdx? fun y => decide (x = y) with
  | none =>
    have : memB S x = false := by
      rw [List.findIdx?_eq_none_iff] at hj
      unfold memB
      rw [List.any_eq_false]
      intro p hp; simp [hj p hp]
    unfold addS
    rw [this]
    simp [tK, tV]
  | some j =>
    rw [List.findIdx?_eq_some_iff_getElem] at hj
    obtain ⟨h6, h7, _⟩ := hj
    have : memB S x = true := List.any_eq_true.2 ⟨_, List.getElem_mem h6, h7⟩
    unfold addS
    rw [this]
    simp only [if_true]
    congr 1
    apply List.ext_getElem?
    intro i
    rw [List.getElem?_set]
    unfold tV
    split
    · subst_vars
      split
      · rename_i hlt; simp at hlt; simp [hlt]
      · rename_i hlt; rw [List.getElem?_eq_none (by simpa using hlt)]
    · rfl
theorem put_set (h : ty t = some ti) (hk : ti.kind = .map kt et) (h2 : ty kt = some tk) (h3 : tk.ks = some (.one .str)) (ho : s.σ.objs[o]? = some (.map (tK S) (tV S))) (x : ByteArray) :
    putAV ty s t (.map o) (.pv (.str x)) (.pv (.bool true)) = some (setS s.σ o (addS S x)) := by
  have hko : keyOk ty kt (.str x) (tK S) = true := by
    simp only [keyOk, h2, h3, tK_fits, Bool.and_true]; rfl
  simp only [putAV, h, hk, ho, toPV, atomToPV, Option.map_some, PV.nrm, hko, kput_set]
  rfl
end
section
variable {σ : Store} {o : Nat} {S R : List ByteArray}
theorem setS_self (h : σ.objs[o]? = some (.map (tK S) (tV S))) : setS σ o S = σ := by
  unfold setS
  have : σ.objs.set o (.map (tK S) (tV S)) = σ.objs := by
    apply List.ext_getElem?
    intro i
    rw [List.getElem?_set]
    split
    · subst_vars
      split
      · exact h.symm
      · rename_i hlt; rw [List.getElem?_eq_none (by simpa using hlt)]
    · rfl
  rw [this]
theorem setS_get (h : o < σ.objs.length) : (setS σ o S).objs[o]? = some (.map (tK S) (tV S)) := by simp [setS, h]
theorem setS_set : setS (setS σ o S) o R = setS σ o R := by simp [setS]
theorem setS_gl : (setS σ o S).gl = σ.gl := rfl
theorem setS_no : (setS σ o S).objs.length = σ.objs.length := by simp [setS]
theorem setS_nt : (setS σ o S).toks.length = σ.toks.length := rfl
theorem setS_cut : (setS σ o S).cut σ.objs.length σ.toks.length = setS σ o S := by simp [setS, Store.cut, List.take_of_length_le]
theorem setS_mem {ob : AObj} {no nt nl : Nat} (h : ob ∈ (setS σ o S).objs) : ob ∈ σ.objs ∨ ob.clo no nt nl = true := by
  rcases List.mem_or_eq_of_mem_set h with h | h
  · exact .inl h
  · subst h; exact .inr rfl
end
theorem memB_add {S : List ByteArray} {x y : ByteArray} : memB (addS S x) y = (memB S y || decide (y = x)) := by
  unfold addS
  split
  · rename_i h
    by_cases e : y = x
    · subst e; simp [h]
    · simp [e]
  · simp [memB, List.any_append]
theorem memB_fold {L : List ByteArray} : ∀ {S : List ByteArray} {y : ByteArray}, memB (L.foldl addS S) y = (memB S y || memB L y) := by
  induction L with
  | nil => intro S y; simp [memB]
  | cons x L ih =>
    intro S y
    rw [List.foldl_cons, ih, memB_add]
    simp only [memB, List.any_cons, Bool.or_assoc]
/-- What has been noted when k of the terms in a term have been gone through. -/
def ownN (d : D) : List ByteArray := if (d.kind == 3 && !decide (d.head.text = sQuote)) = true then nmsD d else []
def mkK (d : D) (S : List ByteArray) (k : Nat) : List ByteArray := (((inner d).take k).flatMap mbnd).foldl addS ((ownN d).foldl addS S)
theorem mkK_zero {d : D} {S : List ByteArray} : mkK d S 0 = (ownN d).foldl addS S := by simp [mkK]
theorem mkK_next {d x : D} {S : List ByteArray} {k : Nat} (h : (inner d)[k]? = some x) : mkK d S (k + 1) = (mbnd x).foldl addS (mkK d S k) := by
  unfold mkK; rw [take_next h]; simp
theorem mkK_all {d : D} {S : List ByteArray} : mkK d S (inner d).length = (mbnd d).foldl addS S := by
  unfold mkK
  rw [List.take_length, mbnd_eq d, List.foldl_append]; rfl

theorem NoneLast.zero {l : List ByteArray} {s : ByteArray} : NoneLast l s 0 := fun j h => by omega
theorem NoneLast.succ {l : List ByteArray} {s y : ByteArray} {k : Nat} (h : NoneLast l s k) (hy : l[l.length - 1 - k]? = some y) (hne : decide (y = s) = false) : NoneLast l s (k + 1) := by
  intro j hj
  by_cases e : j = k
  · subst e; rw [hy]; simpa using hne
  · exact h j (by omega)
theorem acalls_gen {P : Program} {f : FuncId} {args : List AV} {σ : Store} {R : AV → Store → Prop} (h : ∀ τ, τ = σ → ACalls P f args τ R) : ACalls P f args σ R := h σ rfl
theorem newN_get {d : D} {n k : Nat} (h : k < shN d.head.text) : (newN d n)[k]? = some (namedB ((n + k : Nat) : Int)) := by
  unfold newN
  rw [List.getElem?_map, List.getElem?_range h]; rfl
theorem envP_next {env L : List ByteArray} {k : Nat} {x : ByteArray} (h : L[k]? = some x) : envP (env ++ L.take (k + 1)) = envP (env ++ L.take k) ++ [(x, namedB ((env.length + k : Nat) : Int))] := by
  have hl : (L.take k).length = k := by rw [List.length_take]; have := (List.getElem?_eq_some_iff.1 h).1; omega
  rw [take_next h, ← List.append_assoc, envP_snoc]
  simp [hl]

@[go_sem] theorem modify_app3 {l : List Tok} {t u v : Tok} {f : Tok → Tok} : (l ++ [t, u, v]).modify (l.length + 2) f = l ++ [t, u, f v] := by
  induction l with
  | nil => rfl
  | cons a l ih => simp [ih]
@[go_sem] theorem modify_app20 {l : List Tok} {t u : Tok} {f : Tok → Tok} : (l ++ [t, u]).modify l.length f = l ++ [f t, u] := by
  induction l with
  | nil => rfl
  | cons a l ih => simp [ih]
@[go_sem] theorem take_app3 {α : Type} {l : List α} {a b c : α} : (l ++ [a, b, c]).take (l.length + 3) = l ++ [a, b, c] := List.take_of_length_le (by simp)
theorem mem_app2 {l : List AObj} {a b ob : AObj} {no nt nl : Nat} (ha : a.clo no nt nl = true) (hb : b.clo no nt nl = true) (h : ob ∈ l ++ [a, b]) : ob ∈ l ∨ ob.clo no nt nl = true := by
  rcases List.mem_append.1 h with h | h
  · exact .inl h
  · simp only [List.mem_cons, List.not_mem_nil, or_false] at h
    rcases h with rfl | rfl
    · exact .inr ha
    · exact .inr hb
theorem take_set_le {α : Type} {l : List α} {n i : Nat} {x : α} (h : n ≤ i) : (l.set i x).take n = l.take n := by
  apply List.ext_getElem?
  intro j
  rw [List.getElem?_take, List.getElem?_take]
  split
  · rw [List.getElem?_set, if_neg (by omega)]
  · rfl
theorem set_self {l : List AObj} {o : Nat} {x : AObj} (h : l[o]? = some x) : l.set o x = l := by
  apply List.ext_getElem?
  intro i
  rw [List.getElem?_set]
  split
  · subst_vars
    split
    · exact h.symm
    · rename_i hlt; rw [List.getElem?_eq_none (by simpa using hlt)]
  · rfl

theorem get_app4 {α : Type} {l : List α} {a b c d : α} : (l ++ [a, b, c, d])[l.length + 3]? = some d := by
  rw [List.getElem?_append_right (by omega), Nat.add_sub_cancel_left]; rfl

theorem set_ne {l : List AObj} {i j : Nat} {x : AObj} (h : i ≠ j) : (l.set i x)[j]? = l[j]? := by rw [List.getElem?_set, if_neg h]
theorem set_at {l : List AObj} {i : Nat} {x : AObj} : (l.set i x)[i]? = l[i]?.map fun _ => x := by
  rw [List.getElem?_set, if_pos rfl]
  split
  · rename_i h; rw [List.getElem?_eq_getElem h]; rfl
  · rename_i h; rw [List.getElem?_eq_none (by omega)]; rfl

theorem mem_app1 {l : List AObj} {a ob : AObj} {no nt nl : Nat} (ha : a.clo no nt nl = true) (h : ob ∈ l ++ [a]) : ob ∈ l ∨ ob.clo no nt nl = true := by
  rcases List.mem_append.1 h with h | h
  · exact .inl h
  · simp only [List.mem_singleton] at h
    subst h; exact .inr ha
end Go.Aw

namespace Go.Aw
open Go
def sSeq : ByteArray := ⟨#[115, 101, 113]⟩
def sUp : ByteArray := ⟨#[117, 112]⟩
def wordL : List (ByteArray × Int) := [(sQuote, 3), (sIf, 4), (sFn, 5), (sLet, 6), (sRec, 7), (sSeq, 8), (sUp, 9)]
/-- The form that a reserved symbol begins. -/
def wordN (s : ByteArray) : Int := ((wordL.find? fun p => decide (p.1 = s)).map (·.2)).getD 0
theorem wordN_cases (s : ByteArray) : (s = sQuote ∧ wordN s = 3) ∨ (s = sIf ∧ wordN s = 4) ∨ (s = sFn ∧ wordN s = 5) ∨ (s = sLet ∧ wordN s = 6) ∨ (s = sRec ∧ wordN s = 7) ∨ (s = sSeq ∧ wordN s = 8) ∨ (s = sUp ∧ wordN s = 9) ∨ ((wordL.find? fun p => decide (p.1 = s)) = none ∧ wordN s = 0) := by
  unfold wordN
  simp only [wordL, List.find?_cons, List.find?_nil]
  by_cases h1 : sQuote = s
  · subst h1; simp
  by_cases h2 : sIf = s
  · subst h2; simp [show ¬ sQuote = sIf by decide]
  by_cases h3 : sFn = s
  · subst h3; simp [show ¬ sQuote = sFn by decide, show ¬ sIf = sFn by decide]
  by_cases h4 : sLet = s
  · subst h4; simp [show ¬ sQuote = sLet by decide, show ¬ sIf = sLet by decide, show ¬ sFn = sLet by decide]
  by_cases h5 : sRec = s
  · subst h5; simp [show ¬ sQuote = sRec by decide, show ¬ sIf = sRec by decide, show ¬ sFn = sRec by decide, show ¬ sLet = sRec by decide]
  by_cases h6 : sSeq = s
  · subst h6; simp [show ¬ sQuote = sSeq by decide, show ¬ sIf = sSeq by decide, show ¬ sFn = sSeq by decide, show ¬ sLet = sSeq by decide, show ¬ sRec = sSeq by decide]
  by_cases h7 : sUp = s
  · subst h7; simp [show ¬ sQuote = sUp by decide, show ¬ sIf = sUp by decide, show ¬ sFn = sUp by decide, show ¬ sLet = sUp by decide, show ¬ sRec = sUp by decide, show ¬ sSeq = sUp by decide]
  simp [h1, h2, h3, h4, h5, h6, h7]
theorem wordN_range (s : ByteArray) : 0 ≤ wordN s ∧ wordN s ≤ 9 ∧ (wordN s = 0 ∨ 3 ≤ wordN s) := by
  rcases wordN_cases s with ⟨_, h⟩ | ⟨_, h⟩ | ⟨_, h⟩ | ⟨_, h⟩ | ⟨_, h⟩ | ⟨_, h⟩ | ⟨_, h⟩ | ⟨_, h⟩ <;> rw [h] <;> omega
/-- The reserved symbols, in whatever order they lie. -/
structure WdO where
  l : List (ByteArray × Int)
  find : ∀ x : ByteArray, ((l.find? fun p => decide (p.1 = x)).map (·.2)).getD 0 = wordN x
def wdK (W : WdO) : List PV := W.l.map fun p => .str p.1
def wdV (W : WdO) : List PV := W.l.map fun p => .int .i64 p.2
theorem wd_keys (W : WdO) : (wdK W).all (KS.fits (.one .str)) = true := by
  unfold wdK
  rw [List.all_eq_true]
  intro p hp
  obtain ⟨q, _, rfl⟩ := List.mem_map.1 hp
  rfl
theorem look_wd {W : WdO} {ty : TyT} {s : St} {t : TypeId} {x : ByteArray} {ti te tk : TyI} {kt et : TypeId} (h : ty t = some ti) (hk : ti.kind = .map kt et) (h1 : ty et = some te) (h2 : ty kt = some tk) (h3 : tk.ks = some (.one .str)) (h4 : te.kind.agg = false) (h5 : te.zero = [.int .i64 0]) :
    lookAV ty s t (.pv (.map (wdK W) (wdV W))) (.pv (.str x)) false = some (.pv (.int .i64 (wordN x))) := by
  have hko : keyOk ty kt (.str x) (wdK W) = true := by
    have hf := wd_keys W
    simp only [keyOk, h2, h3, hf, Bool.and_true]; rfl
  have hfx := W.find x
  simp only [lookAV, h, hk, h1, mapOf, toPV, atomToPV, Option.map_some, PV.nrm, hko]
  have hkf : kfind (.str x) (wdK W) = W.l.findIdx? fun p => decide (p.1 = x) := kfind_strs x W.l
  rw [hkf]
  cases hj : W.l.findIdx? fun p => decide (p.1 = x) with
  | none =>
    have : W.l.find? (fun p => decide (p.1 = x)) = none := by
      rw [List.findIdx?_eq_none_iff] at hj
      rw [List.find?_eq_none]
      intro p hp; simpa using hj p hp
    rw [this] at hfx
    rw [← hfx]
    simp [okAV, zeroAV, h4, h5]
  | some j =>
    rw [List.findIdx?_eq_some_iff_getElem] at hj
    obtain ⟨hlt, h6, h7⟩ := hj
    have : W.l.find? (fun p => decide (p.1 = x)) = some W.l[j] := by
      rw [List.find?_eq_some_iff_getElem]
      exact ⟨h6, j, hlt, rfl, fun i hi => by simpa using h7 i hi⟩
    rw [this] at hfx
    rw [← hfx]
    have hv : (wdV W)[j]? = some (.int .i64 W.l[j].2) := by unfold wdV; rw [List.getElem?_map, List.getElem?_eq_getElem hlt]; rfl
    simp [hv, okAV]
/-- A name. -/
def nmS (d : D) : Bool := d.kind == 2 && wordN d.text == 0
def badAt (l : List D) (j : Nat) : Bool := match l[j]? with
  | some x => !nmS x || memB ((l.take j).map D.text) x.text
  | none => false
/-- Names that differ, at most so many. -/
def differB (l : List D) (m : Int) : Bool := if decide (m < (l.length : Int)) = true then false else !((List.range l.length).any (badAt l))
def isNms (d : D) (m : Int) : Bool := d.kind == 3 && differB d.kids m
def grpBad (k : D) : Bool := (k.kind != 3 || (k.kids.length : Int) != 3) || !isNms (d1 k.kids) 8
/-- The definitions of a rec. -/
def isGrp (d : D) : Bool := if ((d.kind != 3 || (d.kids.length : Int) == 0) || decide (40 < (d.kids.length : Int))) = true then false else if d.kids.any grpBad = true then false else differB (d.kids.map D.head) 40
def fmOk (f : Int) (k : List D) : Bool :=
  if (f == 3) = true then (k.length : Int) == 2 else if (f == 4) = true then (k.length : Int) == 4 else if (f == 5) = true then (k.length : Int) == 3 && isNms (d1 k) 8 else
  if (f == 9) = true then ((k.length : Int) == 3 && isNms (d1 k) 3) && ((d1 k).kids.length : Int) == 3 else if (f == 6) = true then (k.length : Int) == 4 && nmS (d1 k) else
  if (f == 8) = true then (k.length : Int) == 3 else if (f == 7) = true then (k.length : Int) == 3 && isGrp (d1 k) else false
def headN (d : D) : Int := if (d.head.kind == 2) = true then wordN d.head.text else 0
/-- The form of a datum; 0 if it has none. -/
def synKind (d : D) : Int :=
  if (d.kind == 1) = true then 1 else if (d.kind == 2) = true then (if decide (0 < wordN d.text) = true then 0 else 2) else if ((d.kids.length : Int) == 0) = true then 0 else
  if (headN d == 0) = true then (if decide ((d.kids.length : Int) ≤ 9) = true then 10 else 0) else if fmOk (headN d) d.kids = true then headN d else 0
/-! ### the expressions in one -/
structure Sub where
  p : List Int
  ns : List (ByteArray × Int)
def numb (l : List ByteArray) (n : Int) : List (ByteArray × Int) := mapI (fun i x => (x, n + (i : Int))) l
def parS (x : D) : List ByteArray := (d1 x.kids).kids.map D.text
def fromS (l : List D) (i : Nat) : Int := (l.length : Int) + (((l.take i).map fun x => ((d1 x.kids).kids.length : Int)).sum)
/-- The names that an expression binds itself. -/
def ownS (d : D) : List ByteArray :=
  if (synKind d == 5) = true then (d1 d.kids).kids.map D.text else if (synKind d == 9) = true then (d1 d.kids).kids.map D.text else if (synKind d == 6) = true then [(d1 d.kids).text] else
  if (synKind d == 7) = true then (d1 d.kids).kids.map fun x => x.head.text else []
/-- The expressions in one, with their paths, and what is bound there beside, the nearest first. -/
def subs (d : D) : List (Sub × D) :=
  if (synKind d == 4) = true then mapI (fun i x => (⟨[(i : Int) + 1], []⟩, x)) (d.kids.drop 1) else if (synKind d == 8) = true then mapI (fun i x => (⟨[(i : Int) + 1], []⟩, x)) (d.kids.drop 1) else
  if (synKind d == 5) = true then [(⟨[2], (numb (ownS d) 0).reverse⟩, d2 d.kids)] else if (synKind d == 9) = true then [(⟨[2], (numb (ownS d) 0).reverse⟩, d2 d.kids)] else
  if (synKind d == 6) = true then [(⟨[2], []⟩, d2 d.kids), (⟨[3], (numb (ownS d) 0).reverse⟩, d.kids.getD 3 dnone)] else
  if (synKind d == 7) = true then mapI (fun i x => (⟨[1, (i : Int), 2], (numb (parS x) (fromS (d1 d.kids).kids i)).reverse ++ (numb (ownS d) 0).reverse⟩, d2 x.kids)) (d1 d.kids).kids ++ [(⟨[2], (numb (ownS d) 0).reverse⟩, d2 d.kids)] else
  if (synKind d == 10) = true then mapI (fun i x => (⟨[(i : Int)], []⟩, x)) d.kids else []
theorem getD_mem {l : List D} {n : Nat} (h : n < l.length) : l.getD n dnone ∈ l := by
  rw [List.getD_eq_getElem?_getD, List.getElem?_eq_getElem h]; simp
theorem fm_len {f : Int} {k : List D} (h : fmOk f k = true) : (f = 3 ∧ k.length = 2) ∨ (f = 4 ∧ k.length = 4) ∨ (f = 5 ∧ k.length = 3 ∧ isNms (d1 k) 8 = true) ∨ (f = 9 ∧ k.length = 3 ∧ isNms (d1 k) 3 = true ∧ (d1 k).kids.length = 3) ∨ (f = 6 ∧ k.length = 4 ∧ nmS (d1 k) = true) ∨ (f = 8 ∧ k.length = 3) ∨ (f = 7 ∧ k.length = 3 ∧ isGrp (d1 k) = true) := by
  unfold fmOk at h
  split at h
  · rename_i e; simp only [beq_iff_eq] at e h; exact .inl ⟨e, by omega⟩
  · split at h
    · rename_i e; simp only [beq_iff_eq] at e h; exact .inr (.inl ⟨e, by omega⟩)
    · split at h
      · rename_i e; simp only [beq_iff_eq, Bool.and_eq_true] at e h; exact .inr (.inr (.inl ⟨e, by omega, h.2⟩))
      · split at h
        · rename_i e; simp only [beq_iff_eq, Bool.and_eq_true] at e h; exact .inr (.inr (.inr (.inl ⟨e, by omega, h.1.2, by omega⟩)))
        · split at h
          · rename_i e; simp only [beq_iff_eq, Bool.and_eq_true] at e h; exact .inr (.inr (.inr (.inr (.inl ⟨e, by omega, h.2⟩))))
          · split at h
            · rename_i e; simp only [beq_iff_eq] at e h; exact .inr (.inr (.inr (.inr (.inr (.inl ⟨e, by omega⟩)))))
            · split at h
              · rename_i e; simp only [beq_iff_eq, Bool.and_eq_true] at e h; exact .inr (.inr (.inr (.inr (.inr (.inr ⟨e, by omega, h.2⟩)))))
              · cases h
/-- What a form says of a datum. -/
inductive Shape (d : D) : Prop where
  | none (h : synKind d = 0)
  | num (h : synKind d = 1) (hk : d.kind = 1)
  | name (h : synKind d = 2) (hk : d.kind = 2) (hw : wordN d.text = 0)
  | quote (h : synKind d = 3) (hl : d.kids.length = 2)
  | iff (h : synKind d = 4) (hl : d.kids.length = 4)
  | fn (h : synKind d = 5) (hl : d.kids.length = 3) (hn : isNms (d1 d.kids) 8 = true)
  | lett (h : synKind d = 6) (hl : d.kids.length = 4) (hn : nmS (d1 d.kids) = true)
  | recc (h : synKind d = 7) (hl : d.kids.length = 3) (hn : isGrp (d1 d.kids) = true)
  | seqq (h : synKind d = 8) (hl : d.kids.length = 3)
  | up (h : synKind d = 9) (hl : d.kids.length = 3) (hn : isNms (d1 d.kids) 3 = true) (h3 : (d1 d.kids).kids.length = 3)
  | app (h : synKind d = 10) (hl : d.kids.length ≤ 9) (h0 : 0 < d.kids.length) (hw : headN d = 0)
theorem shape (d : D) : Shape d := by
  by_cases h1 : d.kind = 1
  · exact .num (by unfold synKind; rw [h1]; rfl) h1
  have e1 : (d.kind == 1) = false := by simpa using h1
  by_cases h2 : d.kind = 2
  · have e2 : (d.kind == 2) = true := by simpa using h2
    by_cases hw : 0 < wordN d.text
    · exact .none (by unfold synKind; rw [e1, if_neg (by decide), if_pos e2, if_pos (by simpa using hw)])
    · exact .name (by unfold synKind; rw [e1, if_neg (by decide), if_pos e2, if_neg (by simpa using hw)]) h2 (by have := wordN_range d.text; omega)
  have e2 : (d.kind == 2) = false := by simpa using h2
  by_cases h0 : d.kids.length = 0
  · exact .none (by unfold synKind; rw [e1, if_neg (by decide), e2, if_neg (by decide), if_pos (by simp [h0])])
  have e0 : ((d.kids.length : Int) == 0) = false := by simpa using h0
  have hs : synKind d = if (headN d == 0) = true then (if decide ((d.kids.length : Int) ≤ 9) = true then 10 else 0) else if fmOk (headN d) d.kids = true then headN d else 0 := by
    unfold synKind; rw [e1, if_neg (by decide), e2, if_neg (by decide), e0, if_neg (by decide)]
  by_cases hh : headN d = 0
  · rw [hh, if_pos (by decide)] at hs
    by_cases hl : (d.kids.length : Int) ≤ 9
    · rw [if_pos (by simpa using hl)] at hs
      exact .app hs (by omega) (by omega) hh
    · rw [if_neg (by simpa using hl)] at hs
      exact .none hs
  · rw [if_neg (by simpa using hh)] at hs
    by_cases hf : fmOk (headN d) d.kids = true
    · rw [if_pos hf] at hs
      rcases fm_len hf with ⟨e, h⟩ | ⟨e, h⟩ | ⟨e, h, h3⟩ | ⟨e, h, h3, h4⟩ | ⟨e, h, h3⟩ | ⟨e, h⟩ | ⟨e, h, h3⟩ <;> rw [e] at hs
      · exact .quote hs h
      · exact .iff hs h
      · exact .fn hs h h3
      · exact .up hs h h3 h4
      · exact .lett hs h h3
      · exact .seqq hs h
      · exact .recc hs h h3
    · rw [if_neg hf] at hs
      exact .none hs
theorem grp_len {d x : D} (h : isGrp d = true) (hx : x ∈ d.kids) : x.kids.length = 3 := by
  unfold isGrp at h
  split at h
  · cases h
  · split at h
    · cases h
    · rename_i h2
      have h3 : grpBad x = false := by
        cases hb : grpBad x with
        | false => rfl
        | true => exact absurd (List.any_eq_true.2 ⟨x, hx, hb⟩) h2
      unfold grpBad at h3
      simp only [Bool.or_eq_false_iff, bne_eq_false_iff_eq] at h3
      omega
theorem subs_lt {d : D} {q : Sub × D} (h : q ∈ subs d) : q.2.size < d.size := by
  have hk : ∀ {x : D}, x ∈ d.kids → x.size < d.size := fun hx => D.size_kid_lt hx
  have hm : ∀ (f : Nat → D → Sub × D) (l : List D), (∀ i x, (f i x).2 = x) → (∀ x, x ∈ l → x ∈ d.kids) → q ∈ mapI f l → q.2.size < d.size := by
    intro f l hf hl hq
    obtain ⟨i, x, hx, rfl⟩ := mapI_mem hq
    rw [hf]; exact hk (hl x (List.mem_of_getElem? hx))
  unfold subs at h
  cases shape d with
  | none e => rw [e] at h; simp at h
  | num e => rw [e] at h; simp at h
  | name e => rw [e] at h; simp at h
  | quote e => rw [e] at h; simp at h
  | iff e hl => rw [e] at h; exact hm (fun i x => ((⟨[(i : Int) + 1], []⟩ : Sub), x)) (d.kids.drop 1) (fun _ _ => rfl) (fun x hx => List.mem_of_mem_drop hx) h
  | seqq e hl => rw [e] at h; exact hm (fun i x => ((⟨[(i : Int) + 1], []⟩ : Sub), x)) (d.kids.drop 1) (fun _ _ => rfl) (fun x hx => List.mem_of_mem_drop hx) h
  | fn e hl => rw [e] at h; simp at h; subst h; exact hk (getD_mem (n := 2) (by omega))
  | up e hl => rw [e] at h; simp at h; subst h; exact hk (getD_mem (n := 2) (by omega))
  | lett e hl =>
    rw [e] at h; simp at h
    rcases h with rfl | rfl
    · exact hk (getD_mem (n := 2) (by omega))
    · exact hk (getD_mem (n := 3) (by omega))
  | recc e hl hn =>
    rw [e] at h; simp at h
    rcases h with h | rfl
    · obtain ⟨i, x, hx, rfl⟩ := mapI_mem h
      have hxm := List.mem_of_getElem? hx
      have h1 := D.size_kid_lt (getD_mem (l := x.kids) (n := 2) (by rw [grp_len hn hxm]; omega))
      have h2 := D.size_kid_lt hxm
      have h3 : (d1 d.kids).size < d.size := hk (getD_mem (n := 1) (by omega))
      show (d2 x.kids).size < d.size
      exact Nat.lt_trans h1 (Nat.lt_trans h2 h3)
    · exact hk (getD_mem (n := 2) (by omega))
  | app e hl => rw [e] at h; exact hm _ _ (fun _ _ => rfl) (fun x hx => hx) (by simpa using h)
/-! ### recursion over expressions -/
def scataN {β : Type} (f : D → List (Sub × β) → β) : Nat → D → β
  | 0, d => f d []
  | n + 1, d => f d ((subs d).map fun q => (q.1, scataN f n q.2))
def scata {β : Type} (f : D → List (Sub × β) → β) (d : D) : β := scataN f d.size d
theorem scataN_eq {β : Type} (f : D → List (Sub × β) → β) : ∀ (n m : Nat) (d : D), d.size ≤ n → d.size ≤ m → scataN f n d = scataN f m d
  | 0, _, d, h, _ => by have := D.size_pos d; omega
  | _, 0, d, _, h => by have := D.size_pos d; omega
  | n + 1, m + 1, d, h1, h2 => by
    unfold scataN
    congr 1
    refine List.map_congr_left fun q hq => ?_
    have := subs_lt hq
    rw [scataN_eq f n m q.2 (by omega) (by omega)]
theorem scata_eq {β : Type} (f : D → List (Sub × β) → β) (d : D) : scata f d = f d ((subs d).map fun q => (q.1, scata f q.2)) := by
  unfold scata
  have := D.size_pos d
  obtain ⟨n, hn⟩ : ∃ n, d.size = n + 1 := ⟨d.size - 1, by omega⟩
  rw [hn, scataN]
  congr 1
  refine List.map_congr_left fun q hq => ?_
  have := subs_lt hq
  rw [scataN_eq f n q.2.size q.2 (by omega) (Nat.le_refl _)]
theorem D.indS {P : D → Prop} (h : ∀ d, (∀ q, q ∈ subs d → P q.2) → P d) (d : D) : P d := by
  have : ∀ n (d : D), d.size ≤ n → P d := by
    intro n
    induction n with
    | zero => intro d hd; have := D.size_pos d; omega
    | succ n ih => intro d hd; exact h d fun q hq => ih q.2 (by have := subs_lt hq; omega)
  exact this d.size d (Nat.le_refl _)
/-- An expression. -/
def synOk (d : D) : Bool := scata (fun d rs => synKind d != 0 && rs.all (·.2)) d
theorem synOk_eq (d : D) : synOk d = (synKind d != 0 && (subs d).all fun q => synOk q.2) := by
  show scata _ d = _
  rw [scata_eq, List.all_map]; rfl
/-- The names that are free, added to others. -/
def sfree (d : D) : List ByteArray → List ByteArray → List ByteArray :=
  scata (fun d rs l S => if (synKind d == 2) = true then (if memB l d.text = true then S else addS S d.text) else rs.foldl (fun S q => q.2 (q.1.ns.map (·.1) ++ l) S) S) d
theorem sfree_eq (d : D) (l S : List ByteArray) : sfree d l S = if (synKind d == 2) = true then (if memB l d.text = true then S else addS S d.text) else (subs d).foldl (fun S q => sfree q.2 (q.1.ns.map (·.1) ++ l) S) S := by
  show scata (β := List ByteArray → List ByteArray → List ByteArray) _ d l S = _
  rw [scata_eq]
  simp only [List.foldl_map]; rfl
end Go.Aw

namespace Go.Aw
open Go
variable {P : Program} {G : List (Nat × PV)} {B : Nat} {S : Nat → Nat → Prop} {w w' : World}
theorem RP.tab_inv {k : IntKind} {zs : List Int} {n : Nat} (h : RP B S w (.tab k zs) (.pointer (some ⟨n, 0, none⟩))) : ∃ e c, w.heap[n]? = some (.cells (zs.map (Value.int k)).toArray e c) := by
  cases h with
  | tab hb hh => exact ⟨_, _, hh⟩

theorem tabIs_of {name : String} {k : IntKind} {zs : List Int} {n : Nat} (hn : P.globalNamed name = some n) (h : RP B S w (.tab k zs) (.pointer (some ⟨n, 0, none⟩))) : Lib.TabIs P w name k zs := by
  obtain ⟨e, c, hh⟩ := h.tab_inv
  simp only [Lib.TabIs, World.var?, hn, Option.bind_some, hh]

theorem grow_heap (w : World) (n : Nat) (os : Array Obj) (b : Nat) (hb : b < w.heap.size) : (Sort.grow (w.drewN n) os).heap[b]? = w.heap[b]? := by
  show (w.heap ++ os)[b]? = w.heap[b]?
  rw [Array.getElem?_append_left hb]

theorem pur_of_callsT {f : FuncId} {ps : List PV} {q : PV} {name : String} {k : IntKind} {zs : List Int} {n : Nat} (l : List KA) (hps : fitsAll l ps = true) (a : KA) (hq : a.fits q = true) (hn : P.globalNamed name = some n) (hG : (n, PV.tab k zs) ∈ G)
    (h : ∀ w, Lib.TabIs P w name k zs → Calls P f (ps.map atomV).toArray w fun e w' => e = .returned (atomV q) ∧ ∃ m os, w' = Sort.grow (w.drewN m) os) : Pur P G f (ps.map .pv) (.pv q) := by
  intro σ hgl g w cargs hinv hlen hargs
  have hc : cargs = ps.map atomV := by
    refine fitsAll_val (B := g.B) (S := g.S) (w := w) hps (by simpa using hlen) (fun i x v hx hv => ?_)
    exact (hargs i (.pv x) v (by simp [hx]) hv).pv_inv
  subst hc
  have ht := tabIs_of hn (hinv.glob n (.tab k zs) (by rw [hgl]; exact hG))
  refine (h w ht).mono ?_
  rintro e w' ⟨rfl, m, os, rfl⟩
  have hs : w.heap.size ≤ (Sort.grow (w.drewN m) os).heap.size := by
    show w.heap.size ≤ (w.heap ++ os).size
    simp
  obtain ⟨h1, h2⟩ := hinv.step hs (fun b hb => grow_heap w m os b hb)
  refine ⟨_, _, _, g, rfl, ⟨rfl, rfl⟩, h1, ⟨h2, rfl, fun _ h => h, fun b hb => grow_heap w m os b (hinv.kept b hb).1, hs, rfl, rfl, rfl, hinv.lio, hinv.clo⟩, .pv ?_⟩
  cases a <;> cases q <;> simp [KA.fits] at hq <;> constructor
end Go.Aw

namespace Go.Aw
open Go
section
variable {ρ : Option Nat} {P : Program} {ty : TyT} {g0 g : Ghost} {σ0 σ : Store} {w0 w : World} {N M : Nat} {s : St} {a : Act} {tk : List Tok} {L : List (List AV)}
theorem putObj_setBlk (w : World) (b : Nat) (ob : Obj) : w.putObj b ob = setBlk w b ob := rfl

/-- The record of a loop turns. -/
theorem Inv.setRec (h : Inv g σ L w) {o b l : Nat} {st : LoopState} {pe : Option Code} {T : List (Nat × AV)} {ps : Array Tmp} {asg body : Code} (hi : g.io[o]? = some b) (ho : σ.objs[o]? = some (.loop l st pe T M ps asg body)) :
    b = l ∧ ∃ r : Loop, w.heap[b]? = some (.loop r) ∧ r.state = st ∧ r.pending = pe ∧ r.params = ps ∧ r.assign = asg ∧ r.body = body ∧ r.tmps.size = M ∧ (∀ t, RA g σ.toks w (get T t) (r.tmps.getD t undef)) ∧ (∀ x, x ∈ T.map (·.2) → x.noL = true) ∧
      ∀ st' pe', Inv g { σ with objs := σ.objs.set o (.loop l st' pe' T M ps asg body) } L (w.putObj b (.loop { r with state := st', pending := pe' })) ∧
        Le g σ.toks w g σ.toks (w.putObj b (.loop { r with state := st', pending := pe' })) ∧ ∀ c : Nat, g.K c → (w.putObj b (.loop { r with state := st', pending := pe' })).heap[c]? = w.heap[c]? := by
  obtain ⟨⟨hbl, hnl, hnd⟩, fn, tmps, D, k1, k2, k3⟩ := h.objs o _ b ho hi
  refine ⟨hbl, _, k1, rfl, rfl, rfl, rfl, rfl, k2, k3, hnl, fun st' pe' => ?_⟩
  rw [putObj_setBlk]
  obtain ⟨le, hK⟩ := h.turn (ob := .loop { state := st', pending := pe', fn, tmps, params := ps, assign := asg, body, defers := D }) k1 (.inl (List.mem_of_getElem? hi))
  refine ⟨?_, le, hK⟩
  have ap := h.apart
  have hbm : b ∈ g.io := List.mem_of_getElem? hi
  refine ⟨by simp [h.lio], h.llam, h.ltb, fun n p hp => (h.glob n p hp).mono le.keeps, h.nodup, fun c hc => by rw [setBlk_size]; exact h.low c hc, fun c hc => by rw [setBlk_size]; exact h.kept c hc, by rw [setBlk_size]; exact h.base, fun c o hS => by rw [setBlk_size]; exact h.cells c o hS, fun j ob c ho' hio => ?_, fun j cs' c hL hl => ?_, fun k t tb ht htb => ?_⟩
  · simp only [List.getElem?_set] at ho'
    split at ho'
    · subst_vars
      rw [hi] at hio; cases hio
      split at ho'
      · cases ho'
        exact ⟨⟨rfl, hnl, hnd⟩, fn, tmps, D, setBlk_at k1, rfl, fun t => (k3 t).mono le (fun _ _ h => h)⟩
      · cases ho'
    · refine (h.objs j ob c ho' hio).mono le (fun _ _ h => h) (setBlk_other ?_)
      rintro rfl; exact ‹¬ o = j› (nodup_get ap.1.1 hi hio)
  · refine (h.priv j cs' c hL hl).mono le (fun _ _ h => h) (setBlk_other ?_)
    rintro rfl; exact ap.2.1 _ hbm (List.mem_of_getElem? hl)
  · obtain ⟨cur, h1, h2⟩ := h.toks k t tb ht htb
    refine ⟨cur, (setBlk_other ?_).trans h1, h2⟩
    intro he; exact (ap.2.2 k tb htb).1 (he ▸ hbm)

/-- The record in the store turns. -/
def Store.rec_ (σ : Store) (o l : Nat) (st : LoopState) (pe : Option Code) (T : List (Nat × AV)) (M : Nat) (ps : Array Tmp) (asg body : Code) : Store := { σ with objs := σ.objs.set o (.loop l st pe T M ps asg body) }

theorem RelG.setRec (r : RelG g0 σ0 w0 N g s a w) {o b l : Nat} {st : LoopState} {pe : Option Code} {T : List (Nat × AV)} {ps : Array Tmp} {asg body : Code} (hi : g.io[o]? = some b) (ho : s.σ.objs[o]? = some (.loop l st pe T M ps asg body)) :
    b = l ∧ ∃ r : Loop, w.heap[l]? = some (.loop r) ∧ r.state = st ∧ r.pending = pe ∧
      ∀ st' pe', RelG g0 σ0 w0 N g { s with σ := s.σ.rec_ o l st' pe' T M ps asg body } a (w.putObj l (.loop { r with state := st', pending := pe' })) := by
  obtain ⟨rfl, rc, k1, k2, k3, k4, k5, k6, k7, k8, k9, k10⟩ := r.2.1.setRec hi ho
  refine ⟨rfl, rc, k1, k2, k3, fun st' pe' => ?_⟩
  obtain ⟨j1, j2, j3⟩ := k10 st' pe'
  exact r.later (σ' := s.σ.rec_ o b st' pe' T M ps asg body) (L' := s.L) j2 (fun _ _ h => h) j1 rfl rfl j3 (by rw [World.putObj_size]; exact Nat.le_refl _) rfl rfl rfl

/-- A call of yield. -/
def ACallsY (P : Program) (l : Nat) (args : List AV) (σ : Store) (R : AV → Store → Prop) : Prop :=
  ∀ g w (cargs : List Value), Inv g σ [] w → cargs.length = args.length → (∀ (i : Nat) x v, args[i]? = some x → cargs[i]? = some v → RA g σ.toks w x v) →
    ∃ fn tmps asg body, (Instr.yield l cargs.toArray).run P w = .ok (.round l fn tmps asg body) w ∧
      RoundIn Fence.wide 0 P l fn tmps asg body w fun e w' => ∃ v r σ' g', e = .returned v ∧ R r σ' ∧ Inv g' σ' [] w' ∧ Ext g σ w g' σ' w' ∧ RA g' σ'.toks w' r v

theorem ACallsY.mono {l : Nat} {args : List AV} {R R' : AV → Store → Prop} (h : ACallsY P l args σ R) (k : ∀ r σ', R r σ' → R' r σ') : ACallsY P l args σ R' := by
  intro g w cargs h1 h2 h3
  obtain ⟨fn, tmps, asg, body, k1, k2⟩ := h g w cargs h1 h2 h3
  exact ⟨fn, tmps, asg, body, k1, k2.mono fun _ _ ⟨v, r, σ', g', e1, e2, e3⟩ => ⟨v, r, σ', g', e1, k _ _ e2, e3⟩⟩

theorem ACallsY.args {l : Nat} {xs ys : List AV} {R : AV → Store → Prop} (h : ACallsY P l ys σ R) (hw : WAs xs ys) : ACallsY P l xs σ R := by
  intro g w cargs h1 h2 h3
  obtain ⟨k1, k2⟩ := WAs_get hw
  refine h g w cargs h1 (by rw [h2, k1]) (fun i x v hx hv => ?_)
  have hi : i < xs.length := by rw [k1]; exact (List.getElem?_eq_some_iff.1 hx).1
  exact (h3 i xs[i] v (by simp) hv).wa (k2 i xs[i] x (by simp) hx)

/-- What a round begins with. -/
def argsT (ps : List Tmp) (args : List AV) (T : List (Nat × AV)) : List (Nat × AV) := (ps.zip args).foldl (fun T p => p :: T) T

theorem argsT_rel : ∀ (ps : List Tmp) (args : List AV) (cargs : List Value) (T : List (Nat × AV)) (tmps : Array Value), cargs.length = args.length → tmps.size = N → (∀ p, p ∈ ps → p < N) → (∀ (i : Nat) x v, args[i]? = some x → cargs[i]? = some v → RA g tk w x v) →
    (∀ t, RA g tk w (get T t) (tmps.getD t undef)) →
    ((ps.zip cargs).foldl (fun tmps (p : Tmp × Value) => tmps.setIfInBounds p.1 p.2) tmps).size = N ∧ ∀ t, RA g tk w (get (argsT ps args T) t) (((ps.zip cargs).foldl (fun tmps (p : Tmp × Value) => tmps.setIfInBounds p.1 p.2) tmps).getD t undef)
  | [], args, cargs, T, tmps, _, hN, _, _, h => by simp only [argsT, List.zip_nil_left, List.foldl_nil]; exact ⟨hN, h⟩
  | p :: ps, [], [], T, tmps, _, hN, _, _, h => by simp only [argsT, List.zip_nil_right, List.foldl_nil]; exact ⟨hN, h⟩
  | p :: ps, [], _ :: _, T, tmps, hl, _, _, _, _ => by simp at hl
  | p :: ps, _ :: _, [], T, tmps, hl, _, _, _, _ => by simp at hl
  | p :: ps, x :: args, v :: cargs, T, tmps, hl, hN, hp, hr, h => by
    simp only [argsT, List.zip_cons_cons, List.foldl_cons]
    refine argsT_rel ps args cargs ((p, x) :: T) (tmps.setIfInBounds p v) (by simpa using hl) (by simpa using hN) (fun q hq => hp q (by simp [hq])) (fun i y u hy hu => hr (i + 1) y u (by simpa using hy) (by simpa using hu)) (fun t => ?_)
    simp only [get]
    by_cases e : p = t
    · subst e
      rw [if_pos rfl]
      have : (tmps.setIfInBounds p v).getD p undef = v := by
        simp only [Array.getD_eq_getD_getElem?, Array.getElem?_setIfInBounds]
        have hpN : p < tmps.size := by rw [hN]; exact hp p (by simp)
        simp [hpN]
      rw [this]
      exact hr 0 x v rfl rfl
    · rw [if_neg e]
      have : (tmps.setIfInBounds p v).getD t undef = tmps.getD t undef := by
        simp only [Array.getD_eq_getD_getElem?, Array.getElem?_setIfInBounds]
        rw [if_neg e]
      rw [this]; exact h t

/-- How a round may be left. -/
def RoundEnds (o l : Nat) (R : AV → Store → Prop) (e : Exit) (s : St) : Prop :=
  ∃ pe T M ps asg body, s.σ.objs[o]? = some (.loop l .busy pe T M ps asg body) ∧ match e with
    | .normal => R (.pv (.bool true)) (s.σ.rec_ o l .ready none T M ps asg body)
    | .ret => R (.pv (.bool false)) (s.σ.rec_ o l .done (some .ret) T M ps asg body)
    | .exit id => R (.pv (.bool false)) (s.σ.rec_ o l .done (some (.exit id)) T M ps asg body)
    | .goto t => R (.pv (.bool false)) (s.σ.rec_ o l .done (some (.goto t)) T M ps asg body)
    | _ => False

/-- The loop's left sides have been set: the round begins. -/
def Begun (ρ : Option Nat) (P : Program) (σ0 : Store) (N o l : Nat) (body : Code) (Q : Exit → St → Prop) (s : St) : Prop :=
  ∃ pe T M ps asg bd, s.σ.objs[o]? = some (.loop l .ready pe T M ps asg bd) ∧ AWpR ρ P σ0 N body Q { s with σ := s.σ.rec_ o l .busy pe T M ps asg bd }

def OnlyNormal (next : St → Prop) : Exit → St → Prop
  | .normal, s => next s
  | _, _ => False

theorem acallsY_of {o l : Nat} {pe : Option Code} {T : List (Nat × AV)} {ps : Array Tmp} {asg body : Code} {args : List AV} {R : AV → Store → Prop} (ho : σ.objs[o]? = some (.loop l .ready pe T N ps asg body)) (hlen : args.length = ps.size) (hps : ps.toList.all (fun p => decide (p < N)) = true)
    (h : AWpR (some l) P σ N asg (OnlyNormal (Begun (some l) P σ N o l body (RoundEnds o l R))) ⟨argsT ps.toList args T, [], σ⟩) : ACallsY P l args σ R := by
  intro g w cargs hinv hl hargs
  have hlt : o < g.io.length := by rw [hinv.lio]; exact (List.getElem?_eq_some_iff.1 ho).1
  have hio : g.io[o]? = some g.io[o] := List.getElem?_eq_getElem hlt
  generalize g.io[o] = b at hio
  obtain ⟨rfl, rc, k1, k2, k3, k4, k5, k6, k7, k8, k9, _⟩ := hinv.setRec hio ho
  have hy := run_yield (P := P) (args := cargs.toArray) k1 (by rw [k4, ← hlen, ← hl]; simp)
  rw [k4, k5, k6] at hy
  refine ⟨_, _, _, _, hy, roundIn_of_wpIn trivial ?_⟩
  have hp : ∀ p, p ∈ ps.toList → p < N := fun p hp => by simpa using List.all_eq_true.1 hps p hp
  obtain ⟨j1, j2⟩ := argsT_rel (tk := σ.toks) ps.toList args cargs T rc.tmps hl k7 hp hargs k8
  have hz : (ps.zip cargs.toArray).foldl (fun tmps (t, a) => tmps.setIfInBounds t a) rc.tmps = (ps.toList.zip cargs).foldl (fun tmps (p : Tmp × Value) => tmps.setIfInBounds p.1 p.2) rc.tmps := by
    rw [← Array.foldl_toList, Array.toList_zip]
  rw [hz]
  have hrel : RelG g σ w N g ⟨argsT ps.toList args T, [], σ⟩ { tmps := (ps.toList.zip cargs).foldl (fun tmps (p : Tmp × Value) => tmps.setIfInBounds p.1 p.2) rc.tmps, defers := [] } w :=
    ⟨Ext.refl hinv, hinv, j1, Marks.nil, j2⟩
  refine wpIn_mono (F := wF (some b)) (h g w _ w ⟨g, hrel⟩) ?_
  rintro e a1 w1 ⟨s1, q, g1, r1⟩
  cases e with
  | normal =>
    obtain ⟨pe1, T1, M1, ps1, asg1, bd1, ho1, hb⟩ := q
    obtain ⟨_, rc1, m1, m2, m3, m4⟩ := r1.setRec (r1.1.le.io o b hio) ho1
    refine ⟨_, run_beginRound m1 m2, ?_⟩
    have hrc : ({ rc1 with state := .busy } : Loop) = { rc1 with state := .busy, pending := pe1 } := by rw [← m3]
    rw [hrc]
    refine wpIn_mono (F := wF (some b)) (hb g w a1 _ ⟨g1, m4 .busy pe1⟩) ?_
    rintro e2 a2 w2 ⟨s2, ⟨pe2, T2, M2, ps2, asg2, bd2, ho2, hR⟩, g2, r2⟩
    obtain ⟨_, rc2, n1, n2, n3, n4⟩ := r2.setRec (r2.1.le.io o b hio) ho2
    have fin : ∀ (jump : Option Code), R (.pv (.bool jump.isNone)) (s2.σ.rec_ o b (if jump.isNone then .ready else .done) jump T2 M2 ps2 asg2 bd2) →
        ∃ v w', (Instr.endRound b jump).run P w2 = .ok v w' ∧ ∃ v' r σ' g', Ending.returned v = .returned v' ∧ R r σ' ∧ Inv g' σ' [] w' ∧ Ext g σ w g' σ' w' ∧ RA g' σ'.toks w' r v' := by
      intro jump hR
      have r3 := n4 (if jump.isNone then .ready else .done) jump
      refine ⟨_, _, run_endRound jump n1, _, _, _, { g2 with lam := [] }, rfl, hR, r3.2.1.noPriv, ⟨⟨r3.1.le.B, r3.1.le.keeps, r3.1.le.io, r3.1.le.tok⟩, r3.1.gl, r3.1.K, r3.1.blk, r3.1.size, r3.1.os, r3.1.tape, r3.1.output, r3.1.io0, r3.1.clo0⟩, .pv .bool⟩
    cases e2 with
    | normal => exact fin none hR
    | ret => exact fin (some .ret) hR
    | exit id => exact fin (some (.exit id)) hR
    | goto t => exact fin (some (.goto t)) hR
    | panic => exact hR.elim
    | outgrown => exact hR.elim
  | ret => exact q.elim
  | exit id => exact q.elim
  | goto t => exact q.elim
  | panic => exact q.elim
  | outgrown => exact q.elim

theorem aop_yield {next : St → Prop} {o : Oper} {c : Call} {fo : Operand} {l : Nat} {caps : List AV} (ho : o.op = .call c) (hc : c.callee = .value fo) (hf : ev s fo = .func (.yield l) caps) (hnl : AV.noLs (c.args.toList.map (ev s)) = true) (hd : dstOk N o.dst = true)
    (h : ACallsY P l (c.args.toList.map (ev s)) s.σ fun r σ' => next (({ s with σ := σ' } : St).put o.dst r)) : AOp P σ0 N o next s := by
  rintro g0 w0 a w nx Q ⟨g, r⟩ hnext
  have hfv := r.ev fo
  rw [hf] at hfv
  generalize hv : a.eval fo = fv at hfv
  cases hfv with
  | func hl hr =>
    rename_i vs
    have hnl' := AV.noLs_iff.1 hnl
    obtain ⟨fn, tmps, asg, body, k1, k2⟩ := h _ w (c.args.toList.map a.eval) r.2.1.toCallee (by simp) (fun i x v hx hv => (r.evs c.args.toList i x v hx hv).toCallee (hnl' x (List.mem_of_getElem? hx)) _ _)
    have hargs : (c.args.toList.map a.eval).toArray = c.args.map a.eval := Array.ext' (by simp)
    rw [hargs] at k1
    have hrun : (execOp a.eval o).run P w = .ok (.round l fn tmps asg body) w := by
      simp only [execOp, ho, resolve, hc, hv, Deferred.ofValue, Sem.run_bind, Sem.run_pure, Result.andThen_ok, invoke]
      simpa using k1
    unfold opW
    rw [hrun]
    refine RoundIn.mono k2 ?_
    rintro e w' ⟨v, rr, σ', g', rfl, hR, hinv, hext, hra⟩
    obtain ⟨i1, le1⟩ := r.2.1.fromCallee hinv hext
    have r' := r.later (σ' := σ') (L' := s.L) le1 (fun _ _ h => h) i1 rfl hext.gl (fun b hb => hext.blk b (.inl hb)) hext.size hext.os hext.tape hext.output
    have hg : g' = { g' with lam := [] } := by
      have : g'.lam = [] := List.eq_nil_of_length_eq_zero (by rw [hinv.llam]; rfl)
      cases g'; simp_all
    rw [hg] at hra
    exact hnext _ _ _ hR ⟨_, r'.put (hra.noLam _ _) hd⟩

theorem al_yield {ops : Array Oper} {os : List Oper} {o : Oper} {K : St → Prop} {c : Call} {fo : Operand} {l : Nat} {xs args caps : List AV} {R : AV → Store → Prop} (hg : o.guard = none) (ho : o.op = .call c) (hc : c.callee = .value fo) (hf : ev s fo = .func (.yield l) caps) (h : ACallsY P l args s.σ R)
    (hargs : c.args.toList.map (ev s) = xs) (hw : WAs xs args) (hnl : AV.noLs xs = true) (hd : dstOk N o.dst = true) (k : ∀ r σ', R r σ' → AOpsL P σ0 N ops os K (({ s with σ := σ' } : St).put o.dst r)) : AOpsL P σ0 N ops (o :: os) K s := by
  subst hargs
  exact al_cons hg (aop_yield ho hc hf hnl hd ((h.args hw).mono k))

/-- What a loop's rounds begin with: these slots. -/
def keepT (T : List (Nat × AV)) (slots : List Nat) : List (Nat × AV) := slots.map fun t => (t, get T t)
theorem get_keepT (T : List (Nat × AV)) (t : Nat) : ∀ slots : List Nat, get (keepT T slots) t = if t ∈ slots then get T t else .junk
  | [] => rfl
  | x :: r => by
    have ih := get_keepT T t r
    simp only [keepT, List.map_cons, get] at ih ⊢
    by_cases h : x = t
    · subst h; simp
    · rw [if_neg h, ih]
      simp [Ne.symm h]

/-- How the function that is ranged over may end. -/
def RangeEnds (P : Program) (σ0 : Store) (N : Nat) (o l : Nat) (Q : Exit → St → Prop) (s : St) (σ' : Store) : Prop :=
  ∃ st pe T M ps asg body, σ'.objs[o]? = some (.loop l st pe T M ps asg body) ∧ st ≠ .busy ∧
    match pe with
    | none => Q .normal { s with σ := σ'.rec_ o l .exhausted none T M ps asg body }
    | some c => AWp P σ0 N c Q { s with σ := σ'.rec_ o l .exhausted (some c) T M ps asg body }

theorem Inv.addK (h : Inv g σ L w) {D : Nat} (f : Fresh g w D) : Inv { g with K := fun b => g.K b ∨ b = D } σ L w ∧ Le g σ.toks w { g with K := fun b => g.K b ∨ b = D } σ.toks w := by
  have le : Le g σ.toks w { g with K := fun b => g.K b ∨ b = D } σ.toks w := ⟨rfl, Keeps.refl _ _ _, fun _ _ h => h, fun _ t h => ⟨t, h, rfl, rfl, Nat.le_refl _, fun _ => rfl⟩⟩
  refine ⟨⟨h.lio, h.llam, h.ltb, h.glob, h.nodup, fun b hb => ⟨(h.low b hb).1, (h.low b hb).2.1, ?_⟩, fun b hb => ?_, h.base, h.cells, fun o ob b ho hio => (h.objs o ob b ho hio).mono le (fun _ _ h => h) rfl, fun i cs b hL hl => (h.priv i cs b hL hl).mono le (fun _ _ h => h) rfl, h.toks⟩, le⟩
  · rintro (hK | rfl)
    · exact (h.low b hb).2.2 hK
    · exact f.own hb
  · rcases hb with hb | rfl
    · exact h.kept b hb
    · exact ⟨f.lt, f.S⟩

theorem awp_rangeFunc {Q : Exit → St → Prop} {gop : Operand} {ps : Array Tmp} {asg body : Code} {gf : FuncId} {caps : List AV} (slots : List Nat) (hg : ev s gop = .func (.func gf) caps) (hca : Callable P gf) (hnl : AV.noLs caps = true) (hT : (keepT s.T slots).all (fun p => p.2.noL) = true) (hnd : slots.Nodup)
    (h : ∀ l : Nat, ACalls P gf (.func (.yield l) [] :: caps) { s.σ with objs := s.σ.objs ++ [.loop l .ready none (keepT s.T slots) N ps asg body] } fun _ σ' => RangeEnds P σ0 N s.σ.objs.length l Q s σ') :
    AWp P σ0 N (.rangeFunc gop ps asg body) Q s := by
  rintro g0 w0 a w ⟨g, r⟩
  have hgv := r.ev gop
  rw [hg] at hgv
  generalize hv : a.eval gop = gv at hgv
  obtain ⟨D, hD⟩ : ∃ D, D = w.heap.size := ⟨_, rfl⟩
  obtain ⟨r1, f1⟩ := r.alloc (.deferred (some []))
  rw [← hD] at f1
  obtain ⟨i2, le2⟩ := r1.2.1.addK f1
  have hDn : ¬ g.K D := f1.K
  obtain ⟨Ds, d1, d2, d3⟩ := r1.2.2.2.1
  have hDh : (w.alloc (.deferred (some []))).heap[D]? = some (.deferred (some [])) := by rw [hD]; exact heap_alloc_at w _
  have r2 : RelG g0 σ0 w0 N { g with K := fun b => g.K b ∨ b = D } s { a with defers := { target := .collected D, args := #[] } :: a.defers } (w.alloc (.deferred (some []))) := by
    refine ⟨⟨r1.1.le.trans le2, r1.1.gl, fun b hb => .inl (r1.1.K b hb), r1.1.blk, r1.1.size, r1.1.os, r1.1.tape, r1.1.output, r1.1.io0, r1.1.clo0⟩, i2, r1.2.2.1, ⟨D :: Ds, by simp [d1], List.nodup_cons.2 ⟨fun hm => hDn (d3 D hm).1, d2⟩, fun D' hD' => ?_⟩, fun t => (r1.2.2.2.2 t).mono le2 fun _ _ h => h⟩
    rcases List.mem_cons.1 hD' with rfl | hD'
    · exact ⟨.inr rfl, fun h0 => hDn (r1.1.K _ h0), f1.low, hDh⟩
    · have := d3 D' hD'
      exact ⟨.inl this.1, this.2⟩
  obtain ⟨l, hl⟩ : ∃ l, l = w.heap.size + 1 := ⟨_, rfl⟩
  have hl1 : l = (w.alloc (.deferred (some []))).heap.size := by rw [hl]; simp
  refine wpIn_rangeFunc (F := wF none) ?_
  intro fn _
  obtain ⟨rec, hrec⟩ : ∃ rec : Loop, rec = { state := .ready, pending := none, fn, tmps := a.tmps, params := ps, assign := asg, body, defers := w.heap.size } := ⟨_, rfl⟩
  obtain ⟨r3, f3⟩ := r2.alloc (.loop rec)
  rw [← hl1] at f3
  have hTn : ∀ x, x ∈ (keepT s.T slots).map (·.2) → x.noL = true := by
    intro x hx
    obtain ⟨p, hp, rfl⟩ := List.mem_map.1 hx
    exact List.all_eq_true.1 hT p hp
  have hob : RObj { g with K := fun b => g.K b ∨ b = D } s.σ.toks ((w.alloc (.deferred (some []))).alloc (.loop rec)) l (.loop l .ready none (keepT s.T slots) N ps asg body) := by
    refine ⟨⟨rfl, hTn, by simpa [keepT, List.map_map, Function.comp_def] using hnd⟩, fn, a.tmps, w.heap.size, by rw [hl1, ← hrec]; exact heap_alloc_at _ _, r.2.2.1, fun t => ?_⟩
    rw [get_keepT]
    split
    · exact r3.2.2.2.2 t
    · exact .junk
  have r4 := r3.addObj f3 hob
  obtain ⟨W1, hW1⟩ : ∃ W1, W1 = (w.alloc (.deferred (some []))).alloc (.loop rec) := ⟨_, rfl⟩
  cases hgv with
  | func hl' hr' =>
    rename_i vs
    obtain ⟨fn', h1, h2, h3⟩ := hca
    have hargs : #[Value.func (.yield l) #[] #[]] ++ vs.toArray = (Value.func (.yield l) #[] #[] :: vs).toArray := Array.ext' (by simp)
    refine ⟨l, [{ target := .collected w.heap.size, args := #[] }], W1, { target := .fn (.func gf) vs.toArray, args := #[.func (.yield l) #[] #[]] }, W1, gf, #[.func (.yield l) #[] #[]] ++ vs.toArray, W1, by rw [hl, hW1, hrec]; exact run_enterLoop_outer _ _ _ _ _, ?_, fun _ _ => trivial, ?_, fun hh => (by cases hh), ?_⟩
    · simp only [resolve, rangeCall, hv, Deferred.ofValue, Sem.run_bind, Sem.run_pure, Result.andThen_ok]
      simp [go_sem]
    · simp only [invoke, callFunc, Sem.run_bind, Sem.run_pure, Result.andThen_ok, run_program, h1, h2, h3]
      simp
    · rw [← hD, hargs, hW1]
      have hnl' := AV.noLs_iff.1 hnl
      have hle : Le g s.σ.toks w { g with K := fun b => g.K b ∨ b = D, io := g.io ++ [l] } (s.σ.toks) ((w.alloc (.deferred (some []))).alloc (.loop rec)) := by
        have e1 := (r.2.1.alloc (.deferred (some []))).2
        have e2 := (r2.2.1.alloc (.loop rec)).2
        exact (e1.trans le2).trans (e2.trans (r3.2.1.addObj f3 hob).2)
      refine CallsIn.mono (F := wF none) (show CallsIn Fence.wide (0 - 1) P gf _ _ _ from callsIn_wide.2 (h l _ _ (Value.func (.yield l) #[] #[] :: vs) r4.2.1.toCallee (by simp [hl']) (fun i x v hx hv => ?_))) ?_
      · cases i with
        | zero => simp at hx hv; subst hx; subst hv; exact .func (vs := []) rfl (fun i x v hx hv => by simp at hx)
        | succ i =>
          simp only [List.getElem?_cons_succ] at hx hv
          exact ((hr' i x v hx hv).mono hle (fun _ _ h => h)).toCallee (hnl' x (List.mem_of_getElem? hx)) _ _
      · rintro e w' ⟨v, rr, σ', g', rfl, ⟨st, pe, T', M', ps', asg', body', ho, hst, hk⟩, hinv, hext, hra⟩
        obtain ⟨i1, le1⟩ := r4.2.1.fromCallee hinv hext
        have r5 := r4.later (σ' := σ') (L' := s.L) le1 (fun _ _ h => h) i1 rfl hext.gl (fun b hb => hext.blk b (.inl hb)) hext.size hext.os hext.tape hext.output
        have hio : g'.io[s.σ.objs.length]? = some l := by
          refine hext.le.io _ _ ?_
          show (g.io ++ [l])[s.σ.objs.length]? = some l
          rw [← r.2.1.lio]; simp
        obtain ⟨_, rc, n1, n2, n3, n4⟩ := r5.setRec (s := { s with σ := σ' }) hio ho
        have hend := run_endLoop (P := P) n1 (by rw [n2]; exact hst)
        rw [n3] at hend
        have r6 := n4 .exhausted pe
        refine ⟨pe, _, hend, ?_⟩
        cases pe with
        | none => exact ⟨_, hk, _, r6⟩
        | some c => exact hk g0 w0 _ _ ⟨_, r6⟩

/-! ### loops whose store is told by what holds of it -/
structure WeakJ (s s2 : St) : Prop where
  σ : s2.σ = s.σ
  L : s2.L = s.L
  T : ∀ p, p ∈ s2.T → WA (get s.T p.1) p.2

theorem get_wa {T T2 : List (Nat × AV)} {a : Act} (h : ∀ t, RA g tk w (get T t) (a.tmps.getD t undef)) (hw : ∀ p, p ∈ T2 → WA (get T p.1) p.2) : ∀ t, RA g tk w (get T2 t) (a.tmps.getD t undef) := by
  intro t
  induction T2 with
  | nil => exact .junk
  | cons q r ih =>
    obtain ⟨d, v⟩ := q
    simp only [get]
    by_cases hd : d = t
    · subst hd
      rw [if_pos rfl]
      exact (h d).wa (hw (d, v) (by simp))
    · rw [if_neg hd]
      exact ih (fun p hp => hw p (by simp [hp]))

theorem WeakJ.rel {s2 : St} (h : WeakJ s s2) (r : RelG g0 σ0 w0 N g s a w) : RelG g0 σ0 w0 N g s2 a w := by
  obtain ⟨T2, L2, σ2⟩ := s2
  obtain ⟨h1, h2, h3⟩ := h
  simp only at h1 h2 h3
  subst h1 h2
  exact ⟨r.1, r.2.1, r.2.2.1, r.2.2.2.1, get_wa r.2.2.2.2 h3⟩

def NextJ {ι : Type} (S : ι → St) (I : ι → Prop) (μ : ι → Nat) (i : ι) (s' : St) : Prop := ∃ j, I j ∧ μ j < μ i ∧ WeakJ s' (S j)

theorem awp_loop_famJ {c : Code} {Q : Exit → St → Prop} {ι : Type} (S : ι → St) (I : ι → Prop) (μ : ι → Nat) (i0 : ι) (hi0 : I i0) (h0 : WeakJ s (S i0))
    (round : ∀ i, I i → AWpR ρ P σ0 N c (Then (NextJ S I μ i) Q) (S i)) : AWpR ρ P σ0 N (.loop c) Q s := by
  rintro g0 w0 a w ⟨g, r⟩ b k cs hro hb hr
  have key : ∀ n i, μ i = n → I i → ∀ a w, Rel g0 σ0 w0 N (S i) a w →
      ∃ e a' w', lift g0 σ0 w0 N Q e a' w' ∧ ArrivesIn (Machine.fenced P (wF ρ)) P (lone (b.atR a (.code c :: .inLoop c :: k)) cs w) b k cs e a' w' := by
    intro n
    induction n using Nat.strongRecOn with
    | _ n ih =>
      intro i hn hI a w r
      obtain ⟨e, a₁, w₁, ⟨s₁, hq, r₁⟩, harr⟩ := round i hI g0 w0 a w r b (.inLoop c :: k) cs hro hb hr
      cases e with
      | normal =>
        obtain ⟨j, hj, hlt, hw⟩ := hq
        obtain ⟨g₁, r₁⟩ := r₁
        obtain ⟨e₂, a₂, w₂, hq₂, harr₂⟩ := ih (μ j) (hn ▸ hlt) j rfl hj a₁ w₁ ⟨_, hw.rel r₁⟩
        exact ⟨e₂, a₂, w₂, hq₂, .of_steps (StepsIn.trans harr (.one (fenced_calm hb hr rfl) stepR_inLoop)) harr₂⟩
      | exit id => exact ⟨_, a₁, w₁, ⟨s₁, hq, r₁⟩, .pass (x := .inLoop c) rfl (fun _ _ => .inl (by simp)) harr⟩
      | goto l => exact ⟨_, a₁, w₁, ⟨s₁, hq, r₁⟩, .pass (x := .inLoop c) rfl (fun _ _ => .inl (by simp)) harr⟩
      | ret => exact ⟨_, a₁, w₁, ⟨s₁, hq, r₁⟩, .pass (x := .inLoop c) rfl (fun _ _ => .inl (by simp)) harr⟩
      | panic ch => exact ⟨_, a₁, w₁, ⟨s₁, hq, r₁⟩, .pass (x := .inLoop c) rfl (fun _ _ => .inl (by simp)) harr⟩
      | outgrown => exact ⟨_, a₁, w₁, ⟨s₁, hq, r₁⟩, .pass (x := .inLoop c) rfl (fun _ _ => .inl (by simp)) harr⟩
  obtain ⟨e, a', w', hq, harr⟩ := key _ i0 rfl hi0 a w ⟨_, h0.rel r⟩
  exact ⟨e, a', w', hq, .of_steps (.one (fenced_calm hb hr rfl) stepR_loop) harr⟩

theorem awp_loop_headJ {c : Code} {Q : Exit → St → Prop} {ι : Type} (keep : List Nat) (m : ι → List (Nat × AV)) (σf : ι → Store) (I : ι → Prop) (μ : ι → Nat) (i0 : ι) (hi0 : I i0) (h0 : WeakJ s (headK s keep (m i0) s.L (σf i0)))
    (round : ∀ i, I i → AWpR ρ P σ0 N c (Then (NextJ (fun i => headK s keep (m i) s.L (σf i)) I μ i) Q) (headK s keep (m i) s.L (σf i))) : AWpR ρ P σ0 N (.loop c) Q s :=
  awp_loop_famJ (fun i => headK s keep (m i) s.L (σf i)) I μ i0 hi0 h0 round

attribute [go_sem] argsT Store.rec_
end
end Go.Aw

namespace Go.Aw
open Go
theorem setS_new {σ : Store} {ob : AObj} {S : List ByteArray} : setS { σ with objs := σ.objs ++ [ob] } σ.objs.length S = { σ with objs := σ.objs ++ [.map (tK S) (tV S)] } := by simp [setS]
theorem isSym_size {lt : Int → Bool} {s : ByteArray} (h : isSym lt s = true) : s.size ≤ 40 := by
  unfold isSym at h
  simp only [Bool.and_eq_true, Bool.not_eq_true', Bool.or_eq_false_iff, decide_eq_false_iff_not] at h
  omega
theorem sizes_syms : ∀ l : List ByteArray, D.sizes (l.map dsym) = l.length
  | [] => rfl
  | x :: l => by simp [D.sizes, sizes_syms l, dsym, D.size]; omega
theorem size_list (l : List D) : (dlist l).size = 1 + D.sizes l := by simp [dlist, D.size]
theorem sizes_len {l : List D} {n : Nat} (h : ∀ x, x ∈ l → n ≤ x.size) : n * l.length ≤ D.sizes l := by
  induction l with
  | nil => simp
  | cons x l ih =>
    have h1 := h x (by simp)
    have h2 := ih fun y hy => h y (by simp [hy])
    simp only [D.sizes, List.length_cons, Nat.mul_add, Nat.mul_one]; omega
theorem sizes_split (d : D) (hk : d.kind = 3) (hq : d.head.text ≠ sQuote) (hg : GoodM d) : d.size = 1 + d.head.size + D.sizes ((d.kids.drop 1).take (shN d.head.text)) + D.sizes (inner d) ∧ ((d.kids.drop 1).take (shN d.head.text)).length = shN d.head.text := by
  obtain ⟨x0, r, hks⟩ := kids_cons (hg.ne hk)
  have hn := hg.nms hk hq
  unfold nmsD at hn
  rw [List.length_map] at hn
  refine ⟨?_, hn⟩
  have hi : inner d = (d.kids.drop 1).drop (shN d.head.text) := by rw [inner_eq, if_neg (by rw [hk]; decide), if_neg (by simpa using hq), List.drop_drop]
  have h1 : D.sizes (d.kids.drop 1) = D.sizes ((d.kids.drop 1).take (shN d.head.text)) + D.sizes (inner d) := by rw [hi, ← sizes_append, List.take_append_drop]
  rw [D.size_kids, head_cons hks]
  rw [hks] at h1 ⊢
  simp only [List.drop_succ_cons, List.drop_zero] at h1 ⊢
  rw [head_cons hks] at h1
  simp only [D.sizes]
  omega
theorem mren_size {d : D} : GoodM d → ∀ env, (mren d env).size ≤ d.size := by
  induction d using D.ind with
  | _ k n t l ih =>
    generalize hd : D.mk k n t l = d at *
    have hl : d.kids = l := by rw [← hd]; rfl
    subst hl
    clear hd
    intro hg env
    rw [mren_eq]
    split
    · split
      · have := D.size_pos d; simp [dsym, D.size, D.sizes]; omega
      · exact Nat.le_refl _
    · split
      · exact Nat.le_refl _
      · split
        · exact Nat.le_refl _
        · rename_i h2 h3 hq
          have hq' : d.head.text ≠ sQuote := by simpa using hq
          have hk : d.kind = 3 := by simpa using h3
          obtain ⟨e1, e2⟩ := sizes_split d hk hq' hg
          have h1 := sizes_len (l := (d.kids.drop 1).take (shN d.head.text)) (n := 1) fun x _ => D.size_pos x
          have h4 : ∀ (m : List D) (i : Nat), (∀ x, x ∈ m → x ∈ inner d) → D.sizes ((m.zipIdx i).map fun p => mren p.1 (env ++ bnd d p.2)) ≤ D.sizes m := by
            intro m
            induction m with
            | nil => intro i _; simp [D.sizes]
            | cons x m ih2 =>
              intro i hm
              have hx := hm x (by simp)
              have a1 := ih x (inner_mem hx) (hg.part hx) (env ++ bnd d i)
              have a2 := ih2 (i + 1) fun y hy => hm y (by simp [hy])
              simp only [List.zipIdx_cons, List.map_cons, D.sizes]; omega
          have h5 := h4 (inner d) 0 fun _ h => h
          rw [size_list]
          have h6 : D.sizes (mapI (fun i x => mren x (env ++ bnd d i)) (inner d)) ≤ D.sizes (inner d) := h5
          rw [sizes_append]
          simp only [D.sizes, sizes_syms, newN_len]
          omega
theorem mfree_mem {d : D} : ∀ (l out : List ByteArray) (x : ByteArray), x ∈ mfree d l out → x ∈ out ∨ ∃ y, y ∈ mall d ∧ y.kind = 2 ∧ y.text = x := by
  induction d using D.ind with
  | _ k n t kids ih =>
    generalize hd : D.mk k n t kids = d at *
    have hl : d.kids = kids := by rw [← hd]; rfl
    subst hl
    clear hd
    intro l out x hx
    rw [mfree_eq] at hx
    split at hx
    · rename_i hc
      simp only [Bool.and_eq_true, beq_iff_eq] at hc
      rcases List.mem_append.1 hx with h | h
      · exact .inl h
      · simp only [List.mem_singleton] at h
        exact .inr ⟨d, by rw [mall_eq]; simp, hc.1.1, h.symm⟩
    · have key : ∀ (r : List D) (i : Nat) (out : List ByteArray), (∀ y, y ∈ r → y ∈ inner d) → x ∈ foldI (fun i y out => mfree y (l ++ bnd d i) out) i r out → x ∈ out ∨ ∃ y, y ∈ mall d ∧ y.kind = 2 ∧ y.text = x := by
        intro r
        induction r with
        | nil => intro i out _ h; exact .inl h
        | cons y r ih2 =>
          intro i out hr h
          rcases ih2 (i + 1) _ (fun z hz => hr z (by simp [hz])) h with h | h
          · have hy := hr y (by simp)
            rcases ih y (inner_mem hy) _ _ x h with h | ⟨z, h1, h2⟩
            · exact .inl h
            · exact .inr ⟨z, by rw [mall_eq]; exact List.mem_cons_of_mem _ (List.mem_flatMap.2 ⟨y, hy, h1⟩), h2⟩
          · exact .inr h
      exact key _ _ _ (fun _ h => h) hx
theorem free_short {d : D} (hg : GoodM d) {x : ByteArray} (h : x ∈ mfree d [] []) : x.size ≤ 40 := by
  rcases mfree_mem [] [] x h with h | ⟨y, h1, h2, rfl⟩
  · simp at h
  · have := (formed_sym (mall_good hg y h1).formed h2).2.2
    exact isSym_size this

/-! ### Plain -/
def mused (d : D) : List ByteArray := (mbnd (mren d [])).foldl addS []
def mclash (d : D) : Bool := (mfree d [] []).any fun x => pname x && memB (mused d) x
def mplain (d : D) : D × Int := if (mcheck d != 0) = true then (dnone, mcheck d) else if mclash d = true then (dnone, 6) else if (dcheck (mren d []) != 0) = true then (dnone, 3) else (mren d [], 0)
def liftF (d : D) : D := if ((d.kind == 1 || isW d sQuote) || isW d sFn) = true then dlist [dsym sLift, d] else d
def mlifted (d : D) : D × Int := if (mcheck d != 0) = true then (dnone, mcheck d) else if (!mone d) = true then (dnone, 13) else if (dcheck (mmap liftF d) != 0) = true then (dnone, 3) else (mmap liftF d, 0)
theorem mmap_size {f : D → D} {c : Nat} (hf : ∀ x, okF x → (f x).size ≤ x.size + c) {d : D} : GoodM d → (mmap f d).size + c ≤ (1 + c) * d.size + c := by
  induction d using D.ind with
  | _ k n t l ih =>
    generalize hd : D.mk k n t l = d at *
    have hl : d.kids = l := by rw [← hd]; rfl
    subst hl
    clear hd
    intro hg
    have hp := D.size_pos d
    have hleaf : (f d).size ≤ (1 + c) * d.size := by
      have h1 := hf d hg.okF
      have h2 : c ≤ c * d.size := Nat.le_mul_of_pos_right c hp
      rw [Nat.add_mul, Nat.one_mul]; omega
    rw [mmap_eq]
    split
    · omega
    · split
      · omega
      · rename_i h3 hq
        have hq' : d.head.text ≠ sQuote := by simpa using hq
        have hk : d.kind = 3 := by simpa using h3
        obtain ⟨e1, e2⟩ := sizes_split d hk hq' hg
        have h1 := sizes_len (l := (d.kids.drop 1).take (shN d.head.text)) (n := 1) fun x _ => D.size_pos x
        have h4 : ∀ (m : List D), (∀ x, x ∈ m → x ∈ inner d) → D.sizes (m.map (mmap f)) ≤ (1 + c) * D.sizes m := by
          intro m
          induction m with
          | nil => intro _; simp [D.sizes]
          | cons x m ih2 =>
            intro hm
            have hx := hm x (by simp)
            have a1 := ih x (inner_mem hx) (hg.part hx)
            have a2 := ih2 fun y hy => hm y (by simp [hy])
            simp only [List.map_cons, D.sizes, Nat.mul_add]; omega
        have h5 := h4 (inner d) fun _ h => h
        have h6 := hf _ (hg.okF_made hk hq' (ns := nmsD d) (l := (inner d).map (mmap f)) (hg.nms hk hq') (by simp))
        rw [size_list] at h6
        have h7 : D.sizes (d.head :: (nmsD d).map dsym ++ (inner d).map (mmap f)) = d.head.size + shN d.head.text + D.sizes ((inner d).map (mmap f)) := by
          rw [sizes_append]; simp only [D.sizes, sizes_syms, hg.nms hk hq']
        rw [h7] at h6
        have h8 : (1 + c) * d.size = (1 + c) * (1 + d.head.size + D.sizes ((d.kids.drop 1).take (shN d.head.text))) + (1 + c) * D.sizes (inner d) := by rw [← Nat.mul_add, ← e1]
        have h9 : (1 + c) * (1 + d.head.size + D.sizes ((d.kids.drop 1).take (shN d.head.text))) = (1 + d.head.size + D.sizes ((d.kids.drop 1).take (shN d.head.text))) + c * (1 + d.head.size + D.sizes ((d.kids.drop 1).take (shN d.head.text))) := by rw [Nat.add_mul, Nat.one_mul]
        have h10 : c ≤ c * (1 + d.head.size + D.sizes ((d.kids.drop 1).take (shN d.head.text))) := Nat.le_mul_of_pos_right c (by omega)
        omega

theorem mlifted_size {d : D} (hg : GoodM d) : (mmap liftF d).size ≤ 3 * d.size := by
  have h := mmap_size (f := liftF) (c := 2) (fun x hx => by
    unfold liftF
    split
    · simp [dlist, dsym, D.size, D.sizes]; omega
    · omega) hg
  omega
end Go.Aw

namespace Go.Aw
open Go
structure Cfg where
  P : Program
  ty : TyT
  sh : FuncId → List Tmp
  dm : FuncId → Nat → Nat × List Nat × Bool
  ca : FuncId → Bool
  orc : FuncId → List AV → Option AV

inductive Gate where
  | on | off | bad

def gateOf (ops : Array Oper) (o : Oper) (T : List (Nat × AV)) : Gate :=
  match o.guard with
  | none => .on
  | some _ => match guardTmp ops o with
    | some (d, want) => match Aw.get T d with
      | .pv (.bool b) => match b, want with
        | true, true => .on
        | false, false => .on
        | _, _ => .off
      | .tuple [] => .off
      | _ => .bad
    | none => .bad

def callOf (s : St) (o : Oper) : Option (FuncId × List AV) :=
  match o.op with
  | .call c => match c.callee with
    | .value fo => match ev s fo with
      | .func (.func f) caps => some (f, c.args.toList.map (ev s) ++ caps)
      | _ => none
    | _ => none
  | _ => none

def lower1 (x : AV) : AV := match toPV x with
  | some p => .pv p
  | none => x
def lowerT : AV → AV
  | .tuple xs => .tuple (xs.map lower1)
  | x => lower1 x
def cloT (no nt : Nat) : AV → Bool
  | .tuple xs => AV.clos no nt 0 xs
  | x => x.clo no nt 0

/-- What is left of a call's store. -/
def finR (σ : Store) (r : AV) (σ' : Store) : AV × Store :=
  match cloT σ.objs.length σ.toks.length (lowerT r) && (σ'.objs.take σ.objs.length).all (AObj.clo σ.objs.length σ.toks.length 0) with
  | true => (lowerT r, { σ'.cut σ.objs.length σ.toks.length with gl := σ.gl })
  | false => (r, { σ' with gl := σ.gl })

def isFin : Exit → Bool
  | .normal => true
  | .ret => true
  | _ => false

mutual
def evF (C : Cfg) : Nat → FuncId → List AV → Store → Option (AV × Store)
  | 0, _, _, _ => none
  | n + 1, f, args, σ => match C.orc f args with
    | some r => some (r, σ)
    | none => match C.P.funcs[f]? with
      | some fn => match fn.body with
        | some c => match decide (args.length ≤ fn.ntmps) with
          | true => match evC C n f fn.ntmps c ⟨argT 0 args, [], σ⟩ with
            | some (e, s) => match isFin e with
              | true => match resAV C.ty s fn.results.toList with
                | some l => match AV.noLs l with
                  | true => some (finR σ (oneOf l) s.σ)
                  | false => none
                | none => none
              | false => none
            | none => none
          | false => none
        | none => none
      | none => none
def evC (C : Cfg) : Nat → FuncId → Nat → Code → St → Option (Exit × St)
  | 0, _, _, _, _ => none
  | n + 1, f, N, c, s => match c with
    | .skip => some (.normal, s)
    | .ret => some (.ret, s)
    | .exit id => some (.exit id, s)
    | .seq x y => match evC C n f N x s with
      | some (.normal, s') => evC C n f N y s'
      | r => r
    | .block id c => match evC C n f N c s with
      | some (.exit id', s') => match Nat.beq id' id with
        | true => some (.normal, s')
        | false => some (.exit id', s')
      | r => r
    | .loop c => match evC C n f N c s with
      | some (.normal, s') => evC C n f N (.loop c) s'
      | r => r
    | .cond c x y => match ev s c with
      | .pv (.bool true) => evC C n f N x s
      | .pv (.bool false) => evC C n f N y s
      | _ => none
    | .region _ ops false => match evO C n f N ops ops.toList s with
      | some s' => some (.normal, s')
      | none => none
    | .region id ops true => match drawOk ops (C.dm f id).1 && decide ((C.dm f id).1 < ops.size) with
      | true => match evU C n f N (viewX (C.dm f id).2.1 (C.dm f id).2.2 s) ops (ops.toList.take (C.dm f id).1) s with
        | some s' => match evO C n f N ops (ops.toList.drop (C.dm f id).1) s' with
          | some s' => some (.normal, s')
          | none => none
        | none => none
      | false => none
    | _ => none
def evO (C : Cfg) : Nat → FuncId → Nat → Array Oper → List Oper → St → Option St
  | 0, _, _, _, _, _ => none
  | _ + 1, _, _, _, [], s => some s
  | n + 1, f, N, ops, o :: os, s => match dstOk N o.dst with
    | true => match gateOf ops o s.T with
      | .bad => none
      | .off => evO C n f N ops os (s.put o.dst (.tuple []))
      | .on => match callOf s o with
        | some (g, args) => match C.ca g && AV.noLs args with
          | true => match evF C n g args s.σ with
            | some (r, σ') => evO C n f N ops os (({ s with σ := σ' } : St).put o.dst r)
            | none => none
          | false => none
        | none => match stepOp C.ty (C.sh f) s o with
          | some s' => evO C n f N ops os s'
          | none => none
    | false => none
def evU (C : Cfg) : Nat → FuncId → Nat → View → Array Oper → List Oper → St → Option St
  | 0, _, _, _, _, _, _ => none
  | _ + 1, _, _, _, _, [], s => some s
  | n + 1, f, N, V, ops, o :: os, s => match dstOk N o.dst with
    | true => match gateOf ops o s.T with
      | .bad => none
      | .off => evU C n f N V ops os ⟨putT s.T o.dst (.tuple []), s.L, s.σ⟩
      | .on => match effOf C.ty (V.st s.T) o with
        | some (.call g args) => match C.ca g && AV.noLs args && V.objs.isEmpty with
          | true => match evF C n g args s.σ with
            | some (r, σ') => evU C n f N V ops os ⟨putT s.T o.dst r, s.L, σ'⟩
            | none => none
          | false => none
        | some e => match viewOk V e with
          | true => match effStep s o.dst e with
            | some s' => evU C n f N V ops os s'
            | none => none
          | false => none
        | none => none
    | false => none
end
section
variable {P : Program} {ty : TyT} {σ0 : Store} {N : Nat} {s s' : St} {o : Oper} {ops : Array Oper} {os : List Oper} {K : St → Prop} {V : View} {Q : Exit → St → Prop} {c : Code}
theorem awp_gl (h : s.σ.gl = σ0.gl → AWp P σ0 N c Q s) : AWp P σ0 N c Q s := by
  rintro g0 w0 a w ⟨g, r⟩
  exact h r.1.gl g0 w0 a w ⟨g, r⟩

theorem al_gl (h : s.σ.gl = σ0.gl → AOpsL P σ0 N ops os K s) : AOpsL P σ0 N ops os K s := by
  rintro l hl g0 w0 a w nx ⟨g, r⟩ hn
  exact h r.1.gl l hl g0 w0 a w nx ⟨g, r⟩ hn

theorem gate_on (h : gateOf ops o s.T = .on) : o.guard = none ∨ ∃ d b, guardTmp ops o = some (d, b) ∧ get s.T d = .pv (.bool b) := by
  unfold gateOf at h
  split at h
  · exact .inl ‹_›
  · split at h
    · rename_i d want hg
      split at h
      · rename_i b hb
        split at h
        · exact .inr ⟨d, true, hg, hb⟩
        · exact .inr ⟨d, false, hg, hb⟩
        · cases h
      · cases h
      · cases h
    · cases h

theorem gate_off {T : List (Nat × AV)} (h : gateOf ops o T = .off) : ∃ d b, guardTmp ops o = some (d, b) ∧ off (get T d) b = true := by
  unfold gateOf at h
  split at h
  · cases h
  · split at h
    · rename_i d want hg
      split at h
      · rename_i b hb
        split at h
        · cases h
        · cases h
        · rename_i h1 h2
          refine ⟨d, want, hg, ?_⟩
          rw [hb]
          cases b <;> cases want <;> simp_all [off]
      · rename_i hb
        exact ⟨d, want, hg, by rw [hb]; rfl⟩
      · cases h
    · cases h

theorem al_on (h : gateOf ops o s.T = .on) (hd : dstOk N o.dst = true) (k : AOp P σ0 N o (AOpsL P σ0 N ops os K) s) : AOpsL P σ0 N ops (o :: os) K s := by
  rcases gate_on h with hg | ⟨d, b, hg, hb⟩
  · exact al_cons hg k
  · exact al_take d b b hb rfl hg hd k

theorem al_off (h : gateOf ops o s.T = .off) (hd : dstOk N o.dst = true) (k : AOpsL P σ0 N ops os K (s.put o.dst (.tuple []))) : AOpsL P σ0 N ops (o :: os) K s := by
  obtain ⟨d, b, hg, hb⟩ := gate_off h
  intro l hl
  cases l with
  | nil => simp at hl
  | cons i l =>
    simp only [List.map_cons, List.cons.injEq] at hl
    exact aops_skip hl.1 hg hb hd (k l hl.2)

theorem gate_eff {e : Eff} (h : gateOf ops o s.T = .on) (he : effOf ty (V.st s.T) o = some e) : GateEff ty V ops s.T o e := by
  rcases gate_on h with hg | ⟨d, b, hg, hb⟩
  · exact .plain hg he
  · exact .yes hg hb he

theorem callOf_eq {g : FuncId} {args : List AV} (h : callOf s o = some (g, args)) : ∃ c fo caps, o.op = .call c ∧ c.callee = .value fo ∧ ev s fo = .func (.func g) caps ∧ args = c.args.toList.map (ev s) ++ caps := by
  unfold callOf at h
  split at h
  · rename_i c hc
    split at h
    · rename_i fo hfo
      split at h
      · rename_i f caps hf
        cases h
        exact ⟨c, fo, caps, hc, hfo, hf, rfl⟩
      · cases h
    · cases h
  · cases h

theorem lower1_wv {no nt : Nat} {x : AV} (h : (lower1 x).clo no nt 0 = true) : WV no nt 0 x (lower1 x) := by
  unfold lower1 at h ⊢
  split
  · exact .pv ‹_›
  · rename_i hx
    rw [hx] at h
    exact .same h

theorem lowerT_wvt {no nt : Nat} {r : AV} (h : cloT no nt (lowerT r) = true) : WVt no nt 0 r (lowerT r) := by
  cases r with
  | tuple xs =>
    simp only [lowerT, cloT, WVt] at h ⊢
    induction xs with
    | nil => trivial
    | cons x xs ih =>
      simp only [List.map_cons, AV.clos, Bool.and_eq_true] at h
      exact ⟨lower1_wv h.1, ih h.2⟩
  | _ =>
    simp only [lowerT] at h ⊢
    have h2 : ∀ (y : AV), (∀ xs, y ≠ .tuple xs) → cloT no nt y = true → y.clo no nt 0 = true := by
      intro y hy hc
      unfold cloT at hc
      split at hc
      · exact (hy _ rfl).elim
      · exact hc
    have h3 : ∀ (x : AV), (∀ xs, x ≠ .tuple xs) → ∀ xs, lower1 x ≠ .tuple xs := by
      intro x hx xs
      unfold lower1
      split
      · simp
      · exact hx xs
    have := lower1_wv (h2 _ (h3 _ (by simp)) h)
    unfold WVt
    split
    · rename_i e1 e2; cases e1
    · exact this
end
theorem ACalls.gl {P : Program} {f : FuncId} {args : List AV} {σ : Store} {R : AV → Store → Prop} (h : ACalls P f args σ R) : ACalls P f args σ fun r' s' => R r' s' ∧ s'.gl = σ.gl := by
  intro g' w cargs h1 h2 h3
  refine (h g' w cargs h1 h2 h3).mono ?_
  rintro e w' ⟨v, r1, σ1, g1, e1, e2, e3, e4, e5⟩
  exact ⟨v, r1, σ1, g1, e1, ⟨e2, e4.gl⟩, e3, e4, e5⟩

theorem appendStep_gl {s s' : St} {d : Option Tmp} {e : TypeId} {te : TyI} {x : AV} {ys : List PV} (h : appendStep s d e te x ys = some s') : s'.σ.gl = s.σ.gl := by
  unfold appendStep at h
  split at h
  · split at h
    · split at h
      · split at h
        · cases h; cases d <;> rfl
        · cases h
      · cases h
    · split at h
      · split at h
        · cases h; cases d <;> rfl
        · cases h
      · cases h
  · cases h

theorem effStep_gl {s s' : St} {d : Option Tmp} {e : Eff} (h : effStep s d e = some s') : s'.σ.gl = s.σ.gl := by
  cases e with
  | pure x => simp only [effStep, Option.some.injEq] at h; subst h; rfl
  | box cs => simp only [effStep, Option.some.injEq] at h; subst h; rfl
  | append e te x ys =>
    simp only [effStep] at h
    split at h
    · rename_i s1 h1
      have := appendStep_gl h1
      cases h; exact this
    · cases h
  | call => simp [effStep] at h
  | path => simp [effStep] at h
  | storeL i off ti ds =>
    simp only [effStep] at h
    split at h
    · split at h
      · cases h; rfl
      · cases h
    · cases h

theorem evF_gl {C : Cfg} {n : Nat} {f : FuncId} {args : List AV} {σ σ' : Store} {r : AV} (h : evF C n f args σ = some (r, σ')) : σ'.gl = σ.gl := by
  cases n with
  | zero => simp [evF] at h
  | succ n =>
    simp only [evF] at h
    split at h
    · cases h; rfl
    · split at h
      · split at h
        · split at h
          · split at h
            · split at h
              · split at h
                · split at h
                  · simp only [finR] at h
                    split at h <;> cases h <;> rfl
                  · cases h
                · cases h
              · cases h
            · cases h
          · cases h
        · cases h
      · cases h

/-- From the head of a loop on. -/
def AWpL (P : Program) (σ0 : Store) (N : Nat) (c : Code) (Q : Exit → St → Prop) (s : St) : Prop :=
  ∀ g0 w0 a w, Rel g0 σ0 w0 N s a w → ∀ (b : Frame) (k : List Item) (cs : List Frame), b.roundOf = (wF none).round → (wF none).fn b.fn → (wF none).room (cs.length + 1 + 0) → ∃ e a' w', lift g0 σ0 w0 N Q e a' w' ∧ ArrivesIn (Machine.fenced P (wF none)) P (lone (b.atR a (.code c :: .inLoop c :: k)) cs w) b k cs e a' w'

theorem awp_loopL {P : Program} {σ0 : Store} {N : Nat} {c : Code} {Q : Exit → St → Prop} {s : St} (h : AWpL P σ0 N c Q s) : AWp P σ0 N (.loop c) Q s := by
  intro g0 w0 a w r b k cs hro hb hr
  obtain ⟨e₂, a₂, w₂, hq₂, harr₂⟩ := h g0 w0 a w r b k cs hro hb hr
  exact ⟨e₂, a₂, w₂, hq₂, .of_steps (.one (fenced_calm hb hr rfl) stepR_loop) harr₂⟩

theorem awpL_round {P : Program} {σ0 : Store} {N : Nat} {c : Code} {Q : Exit → St → Prop} {s : St} (hw : AWp P σ0 N c (Then (AWpL P σ0 N c Q) Q) s) : AWpL P σ0 N c Q s := by
  intro g0 w0 a w r b k cs hro hb hr
  obtain ⟨e₁, a₁, w₁, ⟨s₁, hq, r₁⟩, harr⟩ := hw g0 w0 a w r b (.inLoop c :: k) cs hro hb hr
  cases e₁ with
  | normal =>
    obtain ⟨e₂, a₂, w₂, hq₂, harr₂⟩ := hq g0 w0 a₁ w₁ r₁ b k cs hro hb hr
    exact ⟨e₂, a₂, w₂, hq₂, .of_steps (StepsIn.trans harr (.one (fenced_calm hb hr rfl) stepR_inLoop)) harr₂⟩
  | exit id => exact ⟨_, a₁, w₁, ⟨s₁, hq, r₁⟩, .pass (x := .inLoop c) rfl (fun _ _ => .inl (by simp)) harr⟩
  | goto l => exact ⟨_, a₁, w₁, ⟨s₁, hq, r₁⟩, .pass (x := .inLoop c) rfl (fun _ _ => .inl (by simp)) harr⟩
  | ret => exact ⟨_, a₁, w₁, ⟨s₁, hq, r₁⟩, .pass (x := .inLoop c) rfl (fun _ _ => .inl (by simp)) harr⟩
  | panic ch => exact ⟨_, a₁, w₁, ⟨s₁, hq, r₁⟩, .pass (x := .inLoop c) rfl (fun _ _ => .inl (by simp)) harr⟩
  | outgrown => exact ⟨_, a₁, w₁, ⟨s₁, hq, r₁⟩, .pass (x := .inLoop c) rfl (fun _ _ => .inl (by simp)) harr⟩

structure CfgOk (C : Cfg) (G : List (Nat × PV)) : Prop where
  hty : TyOk C.P C.ty
  hsz : ∀ t ti, C.ty t = some ti → ti.size ≠ 0
  hca : ∀ f, C.ca f = true → Callable C.P f
  horc : ∀ f args r, C.orc f args = some r → Pur C.P G f args r

theorem ev_sound {C : Cfg} {G : List (Nat × PV)} (H : CfgOk C G) : ∀ n : Nat,
    (∀ f args σ r σ', σ.gl = G → evF C n f args σ = some (r, σ') → ACalls C.P f args σ fun r' s' => r' = r ∧ s' = σ') ∧
    (∀ f N c s e s' σ0 (Q : Exit → St → Prop), σ0.gl = G → evC C n f N c s = some (e, s') → Q e s' → AWp C.P σ0 N c Q s) ∧
    (∀ f N ops os s s' σ0 (K : St → Prop), σ0.gl = G → evO C n f N ops os s = some s' → K s' → AOpsL C.P σ0 N ops os K s) ∧
    (∀ f N V ops os s s' (K : St → Prop), s.σ.gl = G → evU C n f N V ops os s = some s' → (s'.σ.gl = G → K s') → UL C.P C.ty V N ops os K s) ∧
    (∀ f N c s e s' σ0 (Q : Exit → St → Prop), σ0.gl = G → evC C n f N (.loop c) s = some (e, s') → Q e s' → AWpL C.P σ0 N c Q s)
  | 0 => ⟨fun _ _ _ _ _ _ h => by simp [evF] at h, fun _ _ _ _ _ _ _ _ _ h => by simp [evC] at h, fun _ _ _ _ _ _ _ _ _ h => by simp [evO] at h, fun _ _ _ _ _ _ _ _ _ h => by simp [evU] at h, fun _ _ _ _ _ _ _ _ _ h => by simp [evC] at h⟩
  | n + 1 => by
    obtain ⟨ihF, ihC, ihO, ihU, ihL⟩ := ev_sound H n
    have loop : ∀ f N c s e s' σ0 (Q : Exit → St → Prop), σ0.gl = G → evC C (n + 1) f N (.loop c) s = some (e, s') → Q e s' → AWpL C.P σ0 N c Q s := by
      intro f N c s e s' σ0 Q hgl h hQ
      simp only [evC] at h
      refine awpL_round ?_
      split at h
      · rename_i s1 h1
        exact ihC f N c s .normal s1 σ0 _ hgl h1 (ihL f N c s1 e s' σ0 _ hgl h hQ)
      · rename_i hne
        refine ihC f N c s e s' σ0 _ hgl h ?_
        cases e <;> first | exact hQ | exact (hne _ h).elim
    refine ⟨?_, ?_, ?_, ?_, loop⟩
    · intro f args σ r σ' hgl h
      simp only [evF] at h
      split at h
      · rename_i r1 ho
        cases h
        exact H.horc f args _ ho _ hgl
      · split at h
        · rename_i fn hfn
          split at h
          · rename_i c hc
            split at h
            · rename_i hlen
              split at h
              · rename_i e s hs
                split at h
                · rename_i hfin
                  split at h
                  · rename_i l hl
                    split at h
                    · rename_i hnl
                      have key : ACalls C.P f args σ fun r' s' => r' = oneOf l ∧ s' = s.σ := by
                        refine acalls_of H.hty hfn hc (by simpa using hlen) (ihC f fn.ntmps c _ e s σ _ hgl hs ?_)
                        cases e <;> first | (cases hfin; done) | exact ⟨l, hl, hnl, rfl, rfl⟩
                      have key := key.gl
                      simp only [finR] at h
                      split at h
                      · rename_i hclo
                        cases h
                        simp only [Bool.and_eq_true, List.all_eq_true] at hclo
                        refine key.less ?_
                        rintro _ _ ⟨⟨rfl, rfl⟩, hg2⟩
                        exact ⟨_, _, _, lowerT_wvt hclo.1, Nat.le_refl _, Nat.le_refl _, fun ob hob => .inr (hclo.2 ob hob), rfl, by rw [← hg2]; rfl⟩
                      · cases h
                        refine key.mono ?_
                        rintro _ _ ⟨⟨rfl, rfl⟩, hg2⟩
                        exact ⟨rfl, by rw [← hg2]⟩
                    · cases h
                  · cases h
                · cases h
              · cases h
            · cases h
          · cases h
        · cases h
    · intro f N c s e s' σ0 Q hgl h hQ
      cases c <;> (try simp only [evC] at h) <;> try (cases h; done)
      case skip => cases h; exact awp_skip hQ
      case ret => cases h; exact awp_ret hQ
      case exit => cases h; exact awp_exit hQ
      case seq x y =>
        refine awp_seq ?_
        split at h
        · rename_i s1 h1
          exact ihC f N x s .normal s1 σ0 _ hgl h1 (ihC f N y s1 e s' σ0 _ hgl h hQ)
        · rename_i hne
          refine ihC f N x s e s' σ0 _ hgl h ?_
          cases e <;> first | exact hQ | exact (hne _ h).elim
      case block id c =>
        refine awp_block ?_
        split at h
        · rename_i id' s1 h1
          refine ihC f N c s (.exit id') s1 σ0 _ hgl h1 ?_
          split at h
          · rename_i hb
            have := Nat.eq_of_beq_eq_true hb
            cases h; subst this; exact inBlock_hit hQ
          · rename_i hb
            have : id' ≠ id := fun e => by subst e; simp at hb
            cases h; exact inBlock_miss this hQ
        · rename_i hne
          refine ihC f N c s e s' σ0 _ hgl h ?_
          cases e <;> first | exact hQ | exact (hne _ _ h).elim
      case loop c =>
        exact awp_loopL (loop f N c s e s' σ0 Q hgl (by simp only [evC]; exact h) hQ)
      case cond c x y =>
        split at h
        · rename_i hc
          exact awp_cond hc (fun _ => ihC f N x s e s' σ0 Q hgl h hQ) (fun e => by cases e)
        · rename_i hc
          exact awp_cond hc (fun e => by cases e) (fun _ => ihC f N y s e s' σ0 Q hgl h hQ)
        · cases h
      case region id ops draw =>
        cases draw with
        | false =>
          simp only [evC] at h
          split at h
          · rename_i s1 h1
            cases h
            exact awp_reg (ihO f N ops _ s s' σ0 _ hgl h1 hQ)
          · cases h
        | true =>
          simp only [evC] at h
          split at h
          · rename_i hok
            simp only [Bool.and_eq_true, decide_eq_true_eq] at hok
            split at h
            · rename_i s1 h1
              split at h
              · rename_i s2 h2
                cases h
                refine awp_gl fun hsg => ?_
                refine awp_regDX H.hty H.hsz _ (C.dm f id).2.1 (C.dm f id).2.2 hok.1 hok.2 ?_
                exact ihU f N _ ops _ s s1 _ (hsg.trans hgl) h1 fun _ => ihO f N ops _ s1 s' σ0 _ hgl h2 hQ
              · cases h
            · cases h
          · cases h
    · intro f N ops os s s' σ0 K hgl h hK
      cases os with
      | nil => simp only [evO] at h; cases h; exact al_nil hK
      | cons o os =>
        simp only [evO] at h
        split at h
        · rename_i hd
          split at h
          · cases h
          · rename_i hg
            exact al_off hg hd (ihO f N ops os _ s' σ0 K hgl h hK)
          · rename_i hg
            split at h
            · rename_i g args hcall
              split at h
              · rename_i hca
                simp only [Bool.and_eq_true] at hca
                split at h
                · rename_i r σ' hF
                  obtain ⟨c, fo, caps, k1, k2, k3, rfl⟩ := callOf_eq hcall
                  refine al_gl fun hsg => ?_
                  refine al_on hg hd (aop_call k1 k2 k3 (H.hca g hca.1) hca.2 hd ((ihF g _ s.σ r σ' (hsg.trans hgl) hF).mono ?_))
                  rintro _ _ ⟨rfl, rfl⟩
                  exact ihO f N ops os _ s' σ0 K hgl h hK
                · cases h
              · cases h
            · split at h
              · rename_i s1 h1
                exact al_on hg hd (aop_step H.hty h1 hd (ihO f N ops os _ s' σ0 K hgl h hK))
              · cases h
        · cases h
    · intro f N V ops os s s' K hgl h hK
      cases os with
      | nil => simp only [evU] at h; cases h; exact ul_nil (hK hgl)
      | cons o os =>
        simp only [evU] at h
        split at h
        · rename_i hd
          split at h
          · cases h
          · rename_i hg
            obtain ⟨d, b, hgt, hb⟩ := gate_off hg
            exact ⟨hd, .pure (.tuple []), .no hgt hb, ihU f N V ops os ⟨putT s.T o.dst (.tuple []), s.L, s.σ⟩ s' K hgl h hK⟩
          · rename_i hg
            split at h
            · rename_i g args he
              split at h
              · rename_i hca
                simp only [Bool.and_eq_true, List.isEmpty_iff] at hca
                split at h
                · rename_i r σ' hF
                  have hc := ihF g args s.σ r σ' hgl hF
                  refine ⟨hd, _, gate_eff hg he, H.hca g hca.1.1, hca.1.2, ?_, ?_⟩
                  · refine hc.mono ?_
                    rintro _ _ ⟨rfl, rfl⟩
                    refine ⟨fun o ob ho => by rw [hca.2] at ho; simp at ho, ?_⟩
                    exact ihU f N V ops os ⟨putT s.T o.dst _, s.L, _⟩ s' K ((evF_gl hF).trans hgl) h hK
                  · exact ⟨r, σ', ihU f N V ops os ⟨putT s.T o.dst r, s.L, σ'⟩ s' K ((evF_gl hF).trans hgl) h hK⟩
                · cases h
              · cases h
            · rename_i e hne he
              split at h
              · rename_i hv
                split at h
                · rename_i s1 h1
                  refine ⟨hd, e, gate_eff hg he, effStep_exec (n := fun T L σ => UL C.P C.ty V N ops os K ⟨T, L, σ⟩) hv h1 ?_⟩
                  exact ihU f N V ops os s1 s' K ((effStep_gl h1).trans hgl) h hK
                · cases h
              · cases h
            · cases h
        · cases h
end Go.Aw

namespace Go.Aw
open Go
section
variable {P : Program} {ty : TyT} {σ0 : Store} {N : Nat} {s s' : St} {Q : Exit → St → Prop}
theorem awp_loop_headKL {c : Code} {ι : Type} (no nt nl : Nat) (keep : List Nat) (m : ι → List (Nat × AV)) (L : ι → List (List AV)) (σf : ι → Store) (I : ι → Prop) (μ : ι → Nat) (i0 : ι) (hi0 : I i0) (h0 : Weak σ0 no nt nl s (headK s keep (m i0) (L i0) (σf i0)))
    (round : ∀ i, I i → AWp P σ0 N c (Then (Next σ0 (fun i => headK s keep (m i) (L i) (σf i)) I μ i) Q) (headK s keep (m i) (L i) (σf i))) : AWp P σ0 N (.loop c) Q s :=
  awp_loop_fam (fun i => headK s keep (m i) (L i) (σf i)) I μ i0 hi0 h0 round

/-- A slice without room that stands in a private box may be appended to from now on. -/
theorem awp_adoptL {c : Code} (i j : Nat) {cs : List AV} {x : AV} {xs : List PV} (e : TypeId) (sz : Nat) (hL : s.L[i]? = some cs) (hx : cs[j]? = some x) (hf : x.fullElems = some xs) (hs : allSz sz xs = true)
    (k : AWp P σ0 N c Q ⟨s.T, s.L.set i (cs.set j (.acc xs s.σ.toks.length)), { s.σ with toks := s.σ.toks ++ [⟨xs.length, e, sz⟩] }⟩) : AWp P σ0 N c Q s := by
  rintro g0 w0 a w ⟨g, r⟩
  obtain ⟨i1, le1⟩ := r.2.1.adopt ⟨xs.length, e, sz⟩
  have i2 : Inv { g with tb := g.tb ++ [none] } { s.σ with toks := s.σ.toks ++ [⟨xs.length, e, sz⟩] } (s.L.set i (cs.set j (.acc xs s.σ.toks.length))) w := by
    refine ⟨i1.lio, by simp only [List.length_set]; exact i1.llam, i1.ltb, i1.glob, i1.nodup, i1.low, i1.kept, i1.base, i1.cells, i1.objs, fun o ds b hds hb => ?_, i1.toks⟩
    rw [List.getElem?_set] at hds
    split at hds
    · subst_vars
      rw [if_pos (List.getElem?_eq_some_iff.1 hL).1] at hds
      cases hds
      obtain ⟨vs, e', h1, h2, h3, h4⟩ := r.2.1.priv _ cs b hL hb
      refine ⟨vs, e', h1, by rw [List.length_set]; exact h2, h3, fun n y v hy hv => ?_⟩
      rw [List.getElem?_set] at hy
      split at hy
      · subst_vars
        split at hy
        · cases hy
          exact (h4 _ x v hx hv).adopt hf r.2.1 ⟨xs.length, e, sz⟩ rfl (by simpa [allSz] using hs)
        · cases hy
      · exact (h4 n y v hy hv).mono le1 (fun _ _ h => h)
    · exact i1.priv o ds b hds hb
  exact k g0 w0 a w ⟨_, r.later (σ' := { s.σ with toks := s.σ.toks ++ [⟨xs.length, e, sz⟩] }) (L' := s.L.set i (cs.set j (.acc xs s.σ.toks.length))) le1 (fun _ _ h => h) i2 rfl rfl (fun _ _ => rfl) (Nat.le_refl _) rfl rfl rfl⟩

def adoptL (s : St) (i j : Nat) (e : TypeId) (sz : Nat) : Option St :=
  match s.L[i]? with
  | some cs => match cs[j]? with
    | some x => match x.fullElems with
      | some xs => if allSz sz xs = true then some ⟨s.T, s.L.set i (cs.set j (.acc xs s.σ.toks.length)), { s.σ with toks := s.σ.toks ++ [⟨xs.length, e, sz⟩] }⟩ else none
      | none => none
    | none => none
  | none => none

theorem awp_adoptL' {c : Code} (i j : Nat) (e : TypeId) (sz : Nat) (h : adoptL s i j e sz = some s') (k : AWp P σ0 N c Q s') : AWp P σ0 N c Q s := by
  unfold adoptL at h
  split at h
  · split at h
    · split at h
      · split at h
        · cases h; exact awp_adoptL i j e sz ‹_› ‹_› ‹_› ‹_› k
        · cases h
      · cases h
    · cases h
  · cases h
end
attribute [go_sem] adoptL
/-- A copy, as far as there is room. -/
def CutR (oc lf : Nat) (σ : Store) (r : AV) (σ' : Store) : Prop := ∃ (d' : D) (lf' : Nat), r = .pv (enc d') ∧ σ' = setC σ oc lf' ∧ d'.size + lf' ≤ lf
theorem setC_with {σ : Store} {o : Nat} {v v' : Int} {T : List Tok} : setC { setC σ o v with toks := T } o v' = { setC σ o v' with toks := T } := by simp [setC]
theorem enc_mk (k n : Int) (t : ByteArray) (l : List D) : enc (.mk k n t l) = .agg [.int .i64 k, .int .i64 n, .str t, .slice (l.map enc)] := by rw [enc_eq]; rfl
theorem cut_less {P : Program} {f : FuncId} {args : List AV} {σ : Store} {oc lf : Nat} {k n : Int} {tx : ByteArray}
    (h : ACalls P f args σ fun r σ' => ∃ (out : List D) (lv : Nat), WVt σ.objs.length σ.toks.length 0 r (.pv (enc (.mk k n tx out))) ∧ σ'.cut σ.objs.length σ.toks.length = setC σ oc lv ∧ D.sizes out + lv + 1 ≤ lf) : ACalls P f args σ (CutR oc lf σ) := by
  refine h.less ?_
  rintro r σ' ⟨out, lv, h1, h2, h3⟩
  refine ⟨_, _, _, h1, Nat.le_refl _, Nat.le_refl _, fun ob hob => ?_, ⟨_, lv, rfl, h2, by simp only [D.size]; omega⟩⟩
  have h4 : σ'.objs.take σ.objs.length = (setC σ oc lv).objs := congrArg Store.objs h2
  rw [h4] at hob
  exact setC_mem hob _ _ _
theorem cutR_some {oc lf : Nat} {σ : Store} (h : 0 < lf) : ∃ r σ', CutR oc lf σ r σ' := ⟨_, _, dnone, 0, rfl, rfl, by simp [dnone, D.size, D.sizes]; omega⟩
end Go.Aw

namespace Go.Aw
open Go
end Go.Aw

namespace Go.Aw
open Go
mutual
def peq : PV → PV → Bool
  | .slice xs, .slice ys => peqs xs ys
  | .agg xs, .agg ys => peqs xs ys
  | .ptr xs, .ptr ys => peqs xs ys
  | .int k n, .int j m => pvAtomEq (.int k n) (.int j m)
  | .bool a, .bool b => a == b
  | .str a, .str b => decide (a = b)
  | .nils, .nils => true
  | .nilp, .nilp => true
  | .nilif, .nilif => true
  | .nilmap, .nilmap => true
  | .nilfn, .nilfn => true
  | _, _ => false
def peqs : List PV → List PV → Bool
  | [], [] => true
  | x :: xs, y :: ys => peq x y && peqs xs ys
  | _, _ => false
end
mutual
theorem peq_eq : ∀ {a b : PV}, peq a b = true → a = b
  | .slice xs, b, h => by cases b <;> simp [peq] at h; rw [peqs_eq h]
  | .agg xs, b, h => by cases b <;> simp [peq] at h; rw [peqs_eq h]
  | .ptr xs, b, h => by cases b <;> simp [peq] at h; rw [peqs_eq h]
  | .int k n, b, h => by cases b <;> simp [peq] at h; exact pvAtomEq_eq h
  | .bool a, b, h => by cases b <;> simp [peq] at h; rw [h]
  | .str a, b, h => by cases b <;> simp [peq] at h; rw [h]
  | .nils, b, h => by cases b <;> simp [peq] at h; rfl
  | .nilp, b, h => by cases b <;> simp [peq] at h; rfl
  | .nilif, b, h => by cases b <;> simp [peq] at h; rfl
  | .nilmap, b, h => by cases b <;> simp [peq] at h; rfl
  | .nilfn, b, h => by cases b <;> simp [peq] at h; rfl
  | .iface t p, b, h => by cases b <;> simp [peq] at h
  | .map ks vs, b, h => by cases b <;> simp [peq] at h
  | .tab k zs, b, h => by cases b <;> simp [peq] at h
theorem peqs_eq : ∀ {a b : List PV}, peqs a b = true → a = b
  | [], [], _ => rfl
  | x :: xs, y :: ys, h => by
    simp only [peqs, Bool.and_eq_true] at h
    rw [peq_eq h.1, peqs_eq h.2]
  | [], _ :: _, h => by simp [peqs] at h
  | _ :: _, [], h => by simp [peqs] at h
end
/-- Does the run give this, and leave nothing? -/
def gives (o : Option (AV × Store)) (q : PV) : Bool :=
  match o with
  | some (r, σ) => match r, σ.objs, σ.toks with
    | .pv p, [], [] => peq p q
    | _, _, _ => false
  | none => false

theorem purAt_eval {C : Cfg} {G : List (Nat × PV)} (H : CfgOk C G) {n : Nat} {f : FuncId} {args : List AV} {q : PV} (h : gives (evF C n f args ⟨G, [], []⟩) q = true) : PurAt C.P ⟨G, [], []⟩ f args (.pv q) := by
  cases he : evF C n f args ⟨G, [], []⟩ with
  | none => rw [he] at h; cases h
  | some p =>
    obtain ⟨r, σ'⟩ := p
    rw [he] at h
    have hg := evF_gl he
    have hc := (ev_sound H n).1 f args ⟨G, [], []⟩ r σ' rfl he
    obtain ⟨gl, objs, toks⟩ := σ'
    simp only [gives] at h
    split at h
    · simp only at hg
      subst hg
      rw [peq_eq h] at hc
      exact hc
    · cases h
end Go.Aw

namespace Go.Aw
open Go
def precRow (t : List Nat) (es : List Nat) : Nat := es.foldl (fun a j => a ||| ((1 <<< j) ||| t.getD j 0)) 0
def precTab (ops : Array Oper) : Nat → List Nat
  | 0 => []
  | n + 1 => let t := precTab ops n; t ++ [precRow t (edges ops .any n)]
def drawOkT (ops : Array Oper) (m : Nat) : Bool :=
  goesOn ops .any && goesOn ops .text && goesOn ops .gc &&
  (let t := precTab ops ops.size
   (List.range ops.size).all fun i =>
    ((edges ops .any i).all fun j => decide (j < i)) &&
    (let p := t.getD i 0
     (List.range i).all fun k => p.testBit k || (decide (i < m) && (match ops[k]?, ops[i]? with | some ok, some oi => swapOk ops ok oi | _, _ => false))))

theorem precRow_bit {t : List Nat} {k : Nat} : ∀ {es : List Nat} {a : Nat}, (es.foldl (fun a j => a ||| ((1 <<< j) ||| t.getD j 0)) a).testBit k = true → a.testBit k = true ∨ ∃ j, j ∈ es ∧ (k = j ∨ (t.getD j 0).testBit k = true)
  | [], a, h => .inl h
  | j :: es, a, h => by
    rw [List.foldl_cons] at h
    rcases precRow_bit h with h | ⟨j', h1, h2⟩
    · simp only [Nat.testBit_or, Bool.or_eq_true] at h
      rcases h with h | h | h
      · exact .inl h
      · refine .inr ⟨j, by simp, .inl ?_⟩
        rw [Nat.one_shiftLeft, Nat.testBit_two_pow] at h
        simpa [eq_comm] using h
      · exact .inr ⟨j, by simp, .inr h⟩
    · exact .inr ⟨j', by simp [h1], h2⟩

theorem precTab_len (ops : Array Oper) : ∀ n, (precTab ops n).length = n
  | 0 => rfl
  | n + 1 => by simp [precTab, precTab_len ops n]
theorem precTab_get (ops : Array Oper) : ∀ n i, i < n → (precTab ops n).getD i 0 = precRow (precTab ops i) (edges ops .any i)
  | 0, i, h => by omega
  | n + 1, i, h => by
    simp only [precTab, List.getD_eq_getElem?_getD]
    by_cases hi : i < n
    · rw [List.getElem?_append_left (by rw [precTab_len]; exact hi)]
      have := precTab_get ops n i hi
      rw [List.getD_eq_getElem?_getD] at this
      exact this
    · have : i = n := by omega
      subst this
      rw [List.getElem?_append_right (by rw [precTab_len]; omega), precTab_len]
      simp

theorem precTab_sound (ops : Array Oper) (hd : ∀ i, i < ops.size → ∀ j, j ∈ edges ops .any i → j < i) : ∀ i, i < ops.size → ∀ k f, i + 1 ≤ f → ((precTab ops ops.size).getD i 0).testBit k = true → k ∈ precs ops f i := by
  intro i
  induction i using Nat.strongRecOn with
  | _ i ih =>
    intro hi k f hf h
    rw [precTab_get ops _ i hi] at h
    unfold precRow at h
    obtain ⟨f, rfl⟩ : ∃ g, f = g + 1 := ⟨f - 1, by omega⟩
    rw [precs, List.mem_append, List.mem_flatMap]
    rcases precRow_bit h with h | ⟨j, h1, h2⟩
    · simp at h
    · have hj := hd i hi j h1
      rcases h2 with rfl | h2
      · exact .inl h1
      · refine .inr ⟨j, h1, ih j hj (by omega) k f (by omega) ?_⟩
        rw [precTab_get ops _ j (by omega)]
        rw [precTab_get ops i j hj] at h2
        exact h2

theorem drawOk_of {ops : Array Oper} {m : Nat} (h : drawOkT ops m = true) : drawOk ops m = true := by
  simp only [drawOkT, drawOk, Bool.and_eq_true, List.all_eq_true, List.mem_range, Bool.or_eq_true, decide_eq_true_eq] at h ⊢
  refine ⟨h.1, fun i hi k hk => ?_⟩
  rcases (h.2 i hi).2 k hk with h1 | h1
  · left
    rw [List.contains_iff_mem]
    exact precTab_sound ops (fun i hi => (h.2 i hi).1) i hi k ops.size (by omega) h1
  · exact .inr h1
end Go.Aw

namespace Go.Aw
open Go
theorem sym_self {d : D} (h : formed d = true) (hk : d.kind = 2) : dsym d.text = d := by
  obtain ⟨h1, h2, _⟩ := formed_sym h hk
  cases d
  simp only [D.kind, D.num, D.kids, D.text] at *
  subst h1 h2 hk
  rfl
theorem mName_kind {d : D} (h : mName d = true) : d.kind = 2 := by
  unfold mName at h
  simp only [Bool.and_eq_true, beq_iff_eq] at h
  exact h.1
theorem list_self {d : D} (h : formed d = true) (hk : d.kind = 3) : dlist d.kids = d := by
  obtain ⟨h1, h2⟩ := formed_list h hk
  cases d
  simp only [D.kind, D.num, D.kids, D.text] at *
  subst h1 h2 hk
  rfl
theorem nms_take {d : D} (h : formed d = true) (hn : ∀ x, x ∈ (d.kids.drop 1).take (shN d.head.text) → mName x = true) : (nmsD d).map dsym = (d.kids.drop 1).take (shN d.head.text) := by
  unfold nmsD
  rw [List.map_map]
  conv => rhs; rw [← List.map_id ((d.kids.drop 1).take (shN d.head.text))]
  refine List.map_congr_left fun x hx => ?_
  exact sym_self (formed_kids h (List.mem_of_mem_drop (List.mem_of_mem_take hx))) (mName_kind (hn x hx))
theorem GoodM.names {d : D} (h : GoodM d) (hk : d.kind = 3) (hq : d.head.text ≠ sQuote) : ∀ x, x ∈ (d.kids.drop 1).take (shN d.head.text) → mName x = true := by
  intro x hx
  rcases (h.list hk).2.2.2.2 with ⟨e, _⟩ | ⟨e, f, y, b, hks, _, hf, hy⟩ | ⟨e, y, a, b, hks, _, hy⟩ | ⟨_, hks, _, hf, hl, _⟩
  · exact absurd e hq
  · rw [e, show shN sFn = 2 from rfl, hks] at hx
    simp at hx
    rcases hx with rfl | rfl <;> assumption
  · rw [e, show shN sLet = 1 from rfl, hks] at hx
    simp at hx
    subst hx; exact hy
  · have : shN d.head.text = 0 := by
      rcases shp_cases d.head.text with ⟨e, s⟩ | ⟨e, s⟩ | ⟨e, s⟩ | ⟨e, s⟩ | ⟨e, s⟩ | ⟨e, s⟩ | ⟨e, s⟩ | ⟨e, s⟩ | ⟨s, _⟩
      all_goals first | exact absurd e hq | exact absurd e hf | exact absurd e hl | exact shN_of s | exact shN_none s
    rw [this] at hx
    simp at hx
/-- A term is its head, its names and the terms in it. -/
theorem GoodM.split {d : D} (h : GoodM d) (hk : d.kind = 3) (hq : d.head.text ≠ sQuote) : d.kids = d.head :: (nmsD d).map dsym ++ inner d := by
  rw [nms_take h.formed (h.names hk hq), inner_eq, if_neg (by rw [hk]; decide), if_neg (by simpa using hq)]
  obtain ⟨x0, r, hx⟩ := kids_cons (h.ne hk)
  rw [head_cons hx, hx]
  simp only [List.drop_succ_cons, List.drop_zero, List.cons_append]
  rw [show 1 + shN x0.text = shN x0.text + 1 by omega, List.drop_succ_cons, List.take_append_drop]
theorem GoodM.self {d : D} (h : GoodM d) (hk : d.kind = 3) (hq : d.head.text ≠ sQuote) : dlist (d.head :: (nmsD d).map dsym ++ inner d) = d := by rw [← h.split hk hq, list_self h.formed hk]
theorem made_kids (h : D) (ns : List ByteArray) (l : List D) : (dlist (h :: ns.map dsym ++ l)).kids = h :: (ns.map dsym ++ l) := rfl
theorem made_head (h : D) (ns : List ByteArray) (l : List D) : (dlist (h :: ns.map dsym ++ l)).head = h := rfl
theorem isW_made {d : D} {ns : List ByteArray} {l : List D} {w : ByteArray} (hk : d.kind = 3) : isW (dlist (d.head :: ns.map dsym ++ l)) w = isW d w := by
  unfold isW
  rw [made_head, hk]; rfl
def lv (d : D) : Bool := isW d sLift || isW d sRun
def Flat (d : D) : Prop := ∀ x, x ∈ mall d → lv x = false
theorem Flat.part {d x : D} (h : Flat d) (hx : x ∈ inner d) : Flat x := fun y hy => h y (by rw [mall_eq]; exact List.mem_cons_of_mem _ (List.mem_flatMap.2 ⟨x, hx, hy⟩))
theorem Flat.self {d : D} (h : Flat d) : lv d = false := h d (by rw [mall_eq]; simp)
theorem inner_quote {d : D} (h : d.head.text = sQuote) : inner d = [] := by
  rw [inner_eq]
  split
  · rfl
  · rw [if_pos (by simpa using h)]
end Go.Aw

namespace Go.Aw
open Go
/-- Where a term binds names, they are bound in one of the terms in it. -/
theorem GoodM.binds {d : D} (h : GoodM d) (hk : d.kind = 3) (hq : d.head.text ≠ sQuote) (hs : 0 < shN d.head.text) : ∃ (i : Nat) (y : D), (inner d)[i]? = some y ∧ bnd d i = nmsD d := by
  rcases (h.list hk).2.2.2.2 with ⟨e, _⟩ | ⟨e, f, y, b, hks, hi, hf, hy⟩ | ⟨e, y, a, b, hks, hi, hy⟩ | ⟨_, hks, _, hf, hl, _⟩
  · exact absurd e hq
  · refine ⟨0, b, by rw [hi]; rfl, ?_⟩
    have hw : isW d sFn = true := isW_iff.2 ⟨hk, e⟩
    unfold bnd nmsD
    rw [if_pos hw, e, show shN sFn = 2 from rfl, hks]; rfl
  · refine ⟨1, b, by rw [hi]; rfl, ?_⟩
    have hw : isW d sLet = true := isW_iff.2 ⟨hk, e⟩
    have hw2 : isW d sFn = false := by
      unfold isW
      rw [e]
      have : decide (sLet = sFn) = false := by decide
      rw [this]; simp
    unfold bnd nmsD
    rw [hw2, hw, if_neg (by decide), if_pos (by decide), e, show shN sLet = 1 from rfl, hks]; rfl
  · have : shN d.head.text = 0 := by
      rcases shp_cases d.head.text with ⟨e, s⟩ | ⟨e, s⟩ | ⟨e, s⟩ | ⟨e, s⟩ | ⟨e, s⟩ | ⟨e, s⟩ | ⟨e, s⟩ | ⟨e, s⟩ | ⟨s, _⟩
      all_goals first | exact absurd e hq | exact absurd e hf | exact absurd e hl | exact shN_of s | exact shN_none s
    omega
theorem bnd_let {d : D} (hw : isW d sLet = true) (i : Nat) : bnd d i = if i = 1 then [(d1 d.kids).text] else [] := by
  have hw2 : isW d sFn = false := by
    obtain ⟨_, e⟩ := isW_iff.1 hw
    unfold isW
    rw [e]
    have : decide (sLet = sFn) = false := by decide
    rw [this]; simp
  unfold bnd
  rw [hw2, hw, if_neg (by decide), Bool.true_and]
  by_cases h : i = 1
  · rw [if_pos h, if_pos (by rw [h]; rfl)]
  · rw [if_neg h, if_neg (by simp; omega)]
theorem bnd_op {d : D} (hf : isW d sFn = false) (hl : isW d sLet = false) (i : Nat) : bnd d i = [] := by unfold bnd; rw [hf, hl]; rfl
theorem isW_ne {d : D} (hk : d.kind = 3) {w : ByteArray} (h : isW d w = false) : d.head.text ≠ w := fun e => by rw [isW_iff.2 ⟨hk, e⟩] at h; cases h
end Go.Aw
