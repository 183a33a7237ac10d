/- Part of the proof that the statement holds for every input that its row lets in: an own logic of abstract values over the given model, and laws of data and programs; no program is named in it. -/
import Derived.Test.YtienmmfjjffjaaaGreatDoorZA2
import Derived.Lib.ItoaNum
import Derived.KernelRfl
import Derived.Lib.ItoaLen
import Derived.ProofKit
import Derived.LaidMore
import Derived.OpenShut
import Derived.Stop.Joined
set_option linter.unusedSimpArgs false
set_option linter.unusedVariables false
/- Programs of the package flat, five: what a right program's parts are, and how far it reaches. No program is named. -/
namespace Go.Aw
open Go
/-! ### keys -/
theorem kq_iff {a b : D} : kq a b = true ↔ a.num = b.num ∧ a.text = b.text := by simp [kq]
theorem kq_refl (a : D) : kq a a = true := kq_iff.2 ⟨rfl, rfl⟩
theorem kq_symm {a b : D} (h : kq a b = true) : kq b a = true := kq_iff.2 ⟨(kq_iff.1 h).1.symm, (kq_iff.1 h).2.symm⟩
theorem kq_trans {a b c : D} (h : kq a b = true) (k : kq b c = true) : kq a c = true := kq_iff.2 ⟨(kq_iff.1 h).1.trans (kq_iff.1 k).1, (kq_iff.1 h).2.trans (kq_iff.1 k).2⟩
theorem kq_comm (a b : D) : kq a b = kq b a := by
  cases h : kq a b
  · cases h' : kq b a
    · rfl
    · rw [kq_symm h'] at h; cases h
  · exact (kq_symm h).symm
theorem kq_congr {a b : D} (h : kq a b = true) (c : D) : kq a c = kq b c := by
  cases h' : kq b c
  · cases h2 : kq a c
    · rfl
    · rw [kq_trans (kq_symm h) h2] at h'; cases h'
  · exact kq_trans h h'
section
variable {α : Type}
theorem kget_kset (m : List (D × α)) (d e : D) (v : α) : kget (kset m d v) e = if kq e d then some v else kget m e := by
  induction m with
  | nil => simp only [kset, kget, List.find?_cons, List.find?_nil]; cases kq e d <;> rfl
  | cons p r ih =>
    simp only [kset]
    by_cases h : kq d p.1 = true
    · rw [if_pos h]
      simp only [kget, List.find?_cons]
      rw [show kq e p.1 = kq e d by rw [kq_comm e p.1, kq_comm e d]; exact (kq_congr h e).symm]
      cases kq e d <;> rfl
    · rw [if_neg h]
      simp only [kget, List.find?_cons] at ih ⊢
      by_cases h2 : kq e p.1 = true
      · have h3 : kq e d = false := by
          cases h3 : kq e d
          · rfl
          · exact absurd (kq_trans (kq_symm h3) h2) h
        simp only [h2, h3]; rfl
      · simp only [h2]; exact ih
end
theorem seenB_kset (m : List (D × Bool)) (d e : D) : seenB (kset m d true) e = (kq e d || seenB m e) := by
  unfold seenB; rw [kget_kset]; cases kq e d <;> rfl
theorem kpar_kset (m : List (D × Int)) (d e : D) (v : Int) : kpar (kset m d v) e = if kq e d then (v, true) else kpar m e := by
  unfold kpar; rw [kget_kset]; cases kq e d <;> rfl
/-- Definitions with labels that are all different. -/
def Apart (l : List D) : Prop := l.Pairwise fun a b => kq a.head b.head = false

theorem headsGo_apart : ∀ {l : List D} {ps : List (D × Int)}, (headsGo ps l).1 = 0 → Apart l ∧ (∀ d, d ∈ l → (kpar ps d.head).2 = false) ∧
    ∀ f, kpar (headsGo ps l).2 f = (match l.find? fun d => kq f d.head with | some d => ((nlist (names (d1 d.kids))).length, true) | none => kpar ps f)
  | [], ps, _ => ⟨.nil, fun d hd => by simp at hd, fun f => rfl⟩
  | y :: l, ps, h => by
    rw [headsGo] at h
    by_cases hc : ((chead ps y).1 != 0) = true
    · rw [if_pos hc] at h; rw [h] at hc; simp at hc
    · rw [if_neg hc] at h
      have h0 : (chead ps y).1 = 0 := by simpa using hc
      obtain ⟨x0, x1, x2, ns, k1, k2, k3, k4, k5, k6, k7⟩ := chead_ok h0
      have hy : y.head = x0 := head_cons k1
      have hy1 : d1 y.kids = x1 := by rw [k1]; rfl
      obtain ⟨i1, i2, i3⟩ := headsGo_apart h
      rw [k7] at i2 i3
      have i4 : ∀ d, d ∈ l → kq d.head x0 = false ∧ (kpar ps d.head).2 = false := by
        intro d hd
        have := i2 d hd
        rw [kpar_kset] at this
        cases hk : kq d.head x0 with
        | true => rw [hk] at this; simp at this
        | false => rw [hk] at this; exact ⟨rfl, by simpa using this⟩
      refine ⟨List.pairwise_cons.2 ⟨fun d hd => by rw [hy, kq_comm]; exact (i4 d hd).1, i1⟩, fun d hd => ?_, fun f => ?_⟩
      · rcases List.mem_cons.1 hd with rfl | hd
        · rw [hy]; exact k4
        · exact (i4 d hd).2
      · rw [headsGo, if_neg hc, k7, i3 f, List.find?_cons, hy, kpar_kset]
        cases hf : kq f x0 with
        | false => rfl
        | true =>
          have : l.find? (fun d => kq f d.head) = none := by
            rw [List.find?_eq_none]
            intro d hd he
            have := (i4 d hd).1
            rw [kq_trans (kq_symm he) hf] at this
            cases this
          rw [this]
          show ((ns.length : Int), true) = (((nlist (names (d1 y.kids))).length : Int), true)
          rw [hy1, k5]; rfl

theorem defsL_get {l : List D} (h : Apart l) (f : D) : kget (defsL l) f = l.find? fun d => kq f d.head := by
  have key : ∀ (l : List D) (m : List (D × D)), Apart l → (∀ d, d ∈ l → kget m d.head = none) → kget (l.foldl (fun m d => kset m d.head d) m) f = (match l.find? fun d => kq f d.head with | some d => some d | none => kget m f) := by
    intro l
    induction l with
    | nil => intro m _ _; rfl
    | cons y l ih =>
      intro m ha hm
      have ha := List.pairwise_cons.1 ha
      rw [List.foldl_cons, ih _ ha.2 (fun d hd => by
        rw [kget_kset, show kq d.head y.head = false by rw [kq_comm]; exact ha.1 d hd]
        exact hm d (by simp [hd])), List.find?_cons, kget_kset]
      cases hf : kq f y.head with
      | false => rfl
      | true =>
        have : l.find? (fun d => kq f d.head) = none := by
          rw [List.find?_eq_none]
          intro d hd he
          have := ha.1 d hd
          rw [kq_trans (kq_symm hf) he] at this
          cases this
        rw [this]; rfl
  rw [defsL, key l [] h (fun _ _ => rfl)]
  cases l.find? fun d => kq f d.head <;> rfl

theorem bodies_ok {ps : List (D × Int)} : ∀ {l : List D}, bodies ps l = 0 → ∀ d, d ∈ l → cexpr ps (nlist (names (d1 d.kids))) (d2 d.kids) = 0
  | [], _, d, hd => by simp at hd
  | y :: l, h, d, hd => by
    rw [bodies] at h
    by_cases hc : (cexpr ps (nlist (names (d1 y.kids))) (d2 y.kids) != 0) = true
    · rw [if_pos hc] at h; rw [h] at hc; simp at hc
    · rw [if_neg hc] at h
      rcases List.mem_cons.1 hd with rfl | hd
      · simpa using hc
      · exact bodies_ok h d hd

theorem cll_zero {ps : List (D × Int)} {b : List ByteArray} : ∀ {l : List D}, cll ps b l = 0 ↔ ∀ x, x ∈ l → cexpr ps b x = 0
  | [] => by simp [cll, call]
  | x :: l => by
    rw [cll_cons]
    by_cases hc : (cexpr ps b x != 0) = true
    · rw [if_pos hc]
      simp at hc
      constructor
      · intro h; exact absurd h hc
      · intro h; exact absurd (h x (by simp)) hc
    · rw [if_neg hc, cll_zero]
      simp at hc
      simp [hc]

/-- An expression that has been checked, of right data. -/
theorem cexpr_list {ps : List (D × Int)} {b : List ByteArray} {d : D} (h : cexpr ps b d = 0) (hk : d.kind = 3) :
    d.kids ≠ [] ∧ d.head.kind = 2 ∧ ((d.head.text = sQuote ∧ d.kids.length = 2) ∨ (d.head.text = sIf ∧ d.kids.length = 4 ∧ cll ps b (d.kids.drop 1) = 0) ∨
      (d.head.text = sLet ∧ d.kids.length = 4 ∧ isName (d1 d.kids) = true ∧ cexpr ps b (d2 d.kids) = 0 ∧ cexpr ps (b ++ [(d1 d.kids).text]) (d.kids.getD 3 dnone) = 0) ∨
      (d.head.text = sCall ∧ ccall ps b d.kids = 0) ∨
      (d.head.text ≠ sQuote ∧ d.head.text ≠ sIf ∧ d.head.text ≠ sLet ∧ d.head.text ≠ sCall ∧ (arity d.head.text).2 = true ∧ (arity d.head.text).1 = (d.kids.length : Int) - 1 ∧ cll ps b (d.kids.drop 1) = 0)) := by
  rw [cexpr_eq] at h
  have e1 : (d.kind == 1) = false := by rw [hk]; rfl
  have e2 : (d.kind == 2) = false := by rw [hk]; rfl
  simp only [e1, e2, Bool.false_and, Bool.false_eq_true, if_false] at h
  by_cases h1 : ((d.kids.length : Int) == 0 || d.head.kind != 2) = true
  · rw [if_pos h1] at h; cases h
  rw [if_neg h1] at h
  simp only [Bool.or_eq_true, beq_iff_eq, bne_iff_ne, not_or, Decidable.not_not] at h1
  refine ⟨by intro e; rw [e] at h1; simp at h1, h1.2, ?_⟩
  by_cases h2 : d.head.text = sQuote
  · rw [if_pos (by simpa using h2)] at h
    split at h
    · cases h
    · rename_i h3; exact .inl ⟨h2, by simp at h3; omega⟩
  rw [if_neg (by simpa using h2)] at h
  by_cases h3 : d.head.text = sIf
  · rw [if_pos (by simpa using h3)] at h
    split at h
    · cases h
    · rename_i h4; exact .inr (.inl ⟨h3, by simp at h4; omega, h⟩)
  rw [if_neg (by simpa using h3)] at h
  by_cases h4 : d.head.text = sLet
  · rw [if_pos (by simpa using h4)] at h
    split at h
    · cases h
    · rename_i h5
      simp only [Bool.or_eq_true, bne_iff_ne, Bool.not_eq_true', not_or, Decidable.not_not, Bool.not_eq_false] at h5
      have h5l : d.kids.length = 4 := by omega
      have g2 : cnth ps b 2 d.kids = cexpr ps b (d2 d.kids) := cnth_get ps b 2 d.kids _ (by simp [d2, List.getD, h5l])
      have g3 : cnth ps (b ++ [(d.kids.getD 1 dnone).text]) 3 d.kids = cexpr ps (b ++ [(d.kids.getD 1 dnone).text]) (d.kids.getD 3 dnone) := cnth_get ps _ 3 d.kids _ (by simp [List.getD, h5l])
      rw [g2, g3] at h
      split at h
      · rename_i h6; rw [h] at h6; simp at h6
      · rename_i h6
        exact .inr (.inr (.inl ⟨h4, h5l, h5.2, by simpa using h6, h⟩))
  rw [if_neg (by simpa using h4)] at h
  by_cases h5 : d.head.text = sCall
  · rw [if_pos (by simpa using h5)] at h
    exact .inr (.inr (.inr (.inl ⟨h5, h⟩)))
  rw [if_neg (by simpa using h5)] at h
  split at h
  · cases h
  · rename_i h6
    split at h
    · cases h
    · rename_i h7
      exact .inr (.inr (.inr (.inr ⟨h2, h3, h4, h5, by simpa using h6, by simpa using h7, h⟩)))

theorem ccall_zero {ps : List (D × Int)} {b : List ByteArray} {l : List D} (h : ccall ps b l = 0) : 2 ≤ l.length ∧ isLabel (d1 l) = true ∧ (kpar ps (d1 l)).2 = true ∧ (kpar ps (d1 l)).1 = (l.length : Int) - 2 ∧ cll ps b (l.drop 2) = 0 := by
  unfold ccall at h
  by_cases h1 : (decide ((l.length : Int) < 2) || !isLabel (l.getD 1 dnone)) = true
  · rw [if_pos h1] at h; cases h
  rw [if_neg h1] at h
  split at h
  · cases h
  · rename_i h2
    split at h
    · cases h
    · rename_i h3
      simp only [Bool.or_eq_true, decide_eq_true_eq, Bool.not_eq_true', not_or, Bool.not_eq_false] at h1
      exact ⟨by omega, h1.2, by simp only [Bool.not_eq_true', Bool.not_eq_false] at h2; exact h2, by simp only [bne_iff_ne, Decidable.not_not] at h3; exact h3, h⟩

theorem sQ_ne_L : sQuote ≠ sLet := by decide
theorem sQ_ne_C : sQuote ≠ sCall := by decide
theorem sI_ne_Q : sIf ≠ sQuote := by decide
theorem sI_ne_L : sIf ≠ sLet := by decide
theorem sI_ne_C : sIf ≠ sCall := by decide
theorem sL_ne_Q : sLet ≠ sQuote := by decide
theorem sL_ne_C : sLet ≠ sCall := by decide
theorem sC_ne_Q : sCall ≠ sQuote := by decide
theorem sC_ne_L : sCall ≠ sLet := by decide

/-- All parts of a checked expression are checked, with some names. -/
theorem cexpr_parts {ps : List (D × Int)} {b : List ByteArray} {d : D} (h : cexpr ps b d = 0) (hk : d.kind = 3) : ∀ x, x ∈ parts d → ∃ b', cexpr ps b' x = 0 := by
  obtain ⟨hne, _, hc⟩ := cexpr_list h hk
  have e3 : (d.kind != 3) = false := by rw [hk]; rfl
  intro x hx
  unfold parts at hx
  rw [if_neg (by simp [e3])] at hx
  rcases hc with ⟨h1, _⟩ | ⟨h1, h2, h3⟩ | ⟨h1, h2, h3, h4, h5⟩ | ⟨h1, h2⟩ | ⟨h1, h2, h3, h4, h5, h6, h7⟩
  · rw [if_pos (by simpa using h1)] at hx; simp at hx
  · rw [if_neg (by rw [h1]; decide), if_neg (by rw [h1]; decide), if_neg (by rw [h1]; decide)] at hx
    exact ⟨b, cll_zero.1 h3 x hx⟩
  · rw [if_neg (by rw [h1]; decide), if_pos (by simpa using h1)] at hx
    have hd : d.kids.drop 2 = [d2 d.kids, d.kids.getD 3 dnone] := by
      match hkk : d.kids, h2 with
      | [a, b, c, e], _ => rfl
    rw [hd] at hx
    simp only [List.mem_cons, List.not_mem_nil, or_false] at hx
    rcases hx with rfl | rfl
    · exact ⟨b, h4⟩
    · exact ⟨_, h5⟩
  · rw [if_neg (by rw [h1]; decide), if_neg (by rw [h1]; decide), if_pos (by simpa using h1)] at hx
    exact ⟨b, cll_zero.1 (ccall_zero h2).2.2.2.2 x hx⟩
  · rw [if_neg (by simpa using h1), if_neg (by simpa using h3), if_neg (by simpa using h4)] at hx
    exact ⟨b, cll_zero.1 h7 x hx⟩

theorem formed_kids {d x : D} (h : formed d = true) (hx : x ∈ d.kids) : formed x = true := by
  rw [formed_eq] at h
  split at h
  · simp only [Bool.and_eq_true, beq_iff_eq] at h
    have : d.kids = [] := by cases hk : d.kids with
      | nil => rfl
      | cons a r => rw [hk] at h; simp at h; omega
    rw [this] at hx; simp at hx
  · split at h
    · simp only [Bool.and_eq_true, beq_iff_eq] at h
      have : d.kids = [] := by cases hk : d.kids with
        | nil => rfl
        | cons a r => rw [hk] at h; simp at h; omega
      rw [this] at hx; simp at hx
    · split at h
      · simp only [Bool.and_eq_true, Bool.not_eq_true', List.any_eq_false] at h
        simpa using h.2 x hx
      · cases h
theorem formed_kind {d : D} (h : formed d = true) : d.kind = 1 ∨ d.kind = 2 ∨ d.kind = 3 := by
  rw [formed_eq] at h
  split at h
  · rename_i h1; exact .inl (by simpa using h1)
  · split at h
    · rename_i h1; exact .inr (.inl (by simpa using h1))
    · split at h
      · rename_i h1; exact .inr (.inr (by simpa using h1))
      · cases h

/-- What has been checked may be gone through, and calls what is known. -/
theorem okE_of {ps : List (D × Int)} : ∀ (d : D) (b : List ByteArray), cexpr ps b d = 0 → formed d = true → okE d = true := by
  intro d
  induction d using D.ind with
  | _ k n t l ih =>
    intro b h hf
    rcases formed_kind hf with hk | hk | hk
    · simp only [D.kind] at hk; subst hk; rfl
    · simp only [D.kind] at hk; subst hk; rfl
    · have hp := cexpr_parts h hk
      obtain ⟨hne, _, hc⟩ := cexpr_list h hk
      have h2l : (D.mk k n t l).head.text = sLet ∨ (D.mk k n t l).head.text = sCall → 2 ≤ l.length := by
        intro ht
        rcases hc with ⟨h1, _⟩ | ⟨h1, h2, h3⟩ | ⟨h1, h2, h3, h4, h5⟩ | ⟨h1, h2⟩ | ⟨h1, h2, h3, h4, h5, h6, h7⟩
        · rw [h1] at ht; rcases ht with ht | ht
          · exact absurd ht sQ_ne_L
          · exact absurd ht sQ_ne_C
        · simp only [D.kids] at h2; omega
        · simp only [D.kids] at h2; omega
        · exact (ccall_zero h2).1
        · rcases ht with ht | ht
          · exact absurd ht h3
          · exact absurd ht h4
      simp only [D.kind] at hk
      subst hk
      rw [okE, okEs_drop]
      simp only [Bool.or_eq_true, Bool.and_eq_true, Bool.not_eq_true', List.all_eq_true, decide_eq_true_eq]
      refine .inr ⟨⟨⟨rfl, ?_⟩, ?_⟩, fun x hx => ?_⟩
      · cases l with
        | nil => exact (hne rfl).elim
        | cons => rfl
      · by_cases h2 : 2 ≤ l.length
        · exact .inl h2
        · refine .inr ?_
          simp only [Bool.or_eq_false_iff, decide_eq_false_iff_not]
          exact ⟨fun e => h2 (h2l (.inl e)), fun e => h2 (h2l (.inr e))⟩
      · have hx' : x ∈ parts (D.mk 3 n t l) := by rw [parts_drop]; exact hx
        obtain ⟨b', hb'⟩ := hp x hx'
        exact ih x (parts_mem hx') b' hb' (formed_kids hf (parts_mem hx'))

/-- Every label that is called is known. -/
theorem calls_known {ps : List (D × Int)} : ∀ (d : D) (b : List ByteArray), cexpr ps b d = 0 → formed d = true → ∀ st : CS, (∀ f, f ∈ st.1 → (kpar ps f).2 = true) → ∀ f, f ∈ (callsD d st).1 → (kpar ps f).2 = true := by
  intro d
  induction d using D.ind with
  | _ k n t l ih =>
    intro b h hf st hst f hm
    rw [callsD_eq] at hm
    have h0 : ∀ f, f ∈ (callStep (D.mk k n t l) st).1 → (kpar ps f).2 = true := by
      intro f hf
      unfold callStep at hf
      split at hf
      · rename_i hc
        simp only [List.mem_append, List.mem_singleton] at hf
        rcases hf with hf | rfl
        · exact hst f hf
        · simp only [Bool.and_eq_true] at hc
          have hi := isCall_iff.1 hc.1
          obtain ⟨hne, _, hcc⟩ := cexpr_list h hi.1
          rcases hcc with ⟨h1, _⟩ | ⟨h1, h2, h3⟩ | ⟨h1, h2, h3, h4, h5⟩ | ⟨h1, h2⟩ | ⟨h1, h2, h3, h4, h5, h6, h7⟩
          · exact absurd (h1.symm.trans hi.2) sQ_ne_C
          · exact absurd (h1.symm.trans hi.2) sI_ne_C
          · exact absurd (h1.symm.trans hi.2) sL_ne_C
          · exact (ccall_zero h2).2.2.1
          · exact absurd hi.2 h4
      · exact hst f hf
    have key : ∀ (r : List D), (∀ x, x ∈ r → x ∈ parts (D.mk k n t l)) → ∀ st : CS, (∀ f, f ∈ st.1 → (kpar ps f).2 = true) → ∀ f, f ∈ (r.foldl (fun st x => callsD x st) st).1 → (kpar ps f).2 = true := by
      intro r
      induction r with
      | nil => intro _ st hs f hf; exact hs f hf
      | cons x r ihr =>
        intro hr st hs f hf
        rw [List.foldl_cons] at hf
        have hx := hr x (by simp)
        by_cases hk : (D.mk k n t l).kind = 3
        · obtain ⟨b', hb'⟩ := cexpr_parts h hk x hx
          exact ihr (fun y hy => hr y (by simp [hy])) _ (fun f hf => ih x (parts_mem hx) b' hb' (formed_kids ‹_› (parts_mem hx)) st hs f hf) f hf
        · rw [parts_nil hk] at hx; simp at hx
    exact key _ (fun _ h => h) _ h0 f hm

/-! ### a right program -/
structure Right (p : D) : Prop where
  chk : fcheck p = 0
  sz : p.size ≤ 900000000

theorem dcheck_formed {p : D} (h : dcheck p = 0) : formed p = true := by
  unfold dcheck at h
  split at h
  · cases h
  · rename_i h1; simpa using h1

section
variable {p d f : D} (R : Right p)
include R
theorem Right.heads : (heads p).1 = 0 := (fcheck_heads R.chk).1
theorem Right.formed : formed p = true := dcheck_formed (heads_ok R.heads).1
theorem Right.def (hd : d ∈ p.kids) : ∃ x0 x1 x2 ns, d.kids = [x0, x1, x2] ∧ d.kind = 3 ∧ isLabel x0 = true ∧ names x1 = some ns ∧ ns.length ≤ 8 := def_ok R.heads hd
theorem Right.apart : Apart p.kids := by
  have h := R.heads
  rw [(heads_ok R.heads).2.2.2.2] at h
  exact (headsGo_apart h).1
theorem Right.par (f : D) : kpar (Aw.heads p).2 f = (match p.kids.find? fun d => kq f d.head with | some d => ((nlist (names (d1 d.kids))).length, true) | none => (0, false)) := by
  have h := R.heads
  rw [(heads_ok R.heads).2.2.2.2] at h ⊢
  exact (headsGo_apart h).2.2 f
theorem Right.body (hd : d ∈ p.kids) : cexpr (Aw.heads p).2 (nlist (names (d1 d.kids))) (d2 d.kids) = 0 := bodies_ok (fcheck_heads R.chk).2 d hd
theorem Right.bodyF (hd : d ∈ p.kids) : Aw.formed (d2 d.kids) = true := by
  obtain ⟨x0, x1, x2, ns, hk, _⟩ := R.def hd
  have : d2 d.kids = x2 := by rw [hk]; rfl
  rw [this]
  exact formed_kids (formed_kids R.formed hd) (by rw [hk]; simp)
theorem Right.ok (hd : d ∈ p.kids) : okE (d2 d.kids) = true := okE_of _ _ (R.body hd) (R.bodyF hd)
theorem Right.known (hd : d ∈ p.kids) (hf : f ∈ callsOf (d2 d.kids)) : ∃ e, e ∈ p.kids ∧ kq f e.head = true ∧ kget (defsL p.kids) f = some e := by
  have h := calls_known _ _ (R.body hd) (R.bodyF hd) ([], []) (fun f hf => by simp at hf) f hf
  rw [R.par f] at h
  rw [defsL_get R.apart]
  cases he : p.kids.find? fun d => kq f d.head with
  | none => rw [he] at h; cases h
  | some e => exact ⟨e, List.mem_of_find?_eq_some he, by have := List.find?_some he; simpa using this, rfl⟩
theorem Right.ne : p.kids ≠ [] := (heads_ok R.heads).2.2.1
theorem Right.head_mem : p.head ∈ p.kids := by
  obtain ⟨x, r, h⟩ := kids_cons R.ne
  rw [head_cons h, h]; simp
theorem Right.kids_ne (hd : d ∈ p.kids) : d.kids ≠ [] := by
  obtain ⟨x0, x1, x2, ns, hk, _⟩ := R.def hd
  rw [hk]; simp
end
/-! ### what is reached -/
structure RI (p : D) (st : CS) : Prop where
  mem : ∀ d, d ∈ st.1 → d ∈ p.kids
  apart : Apart st.1
  seen : ∀ f, seenB st.2 f = st.1.any fun d => kq f d.head

theorem nodup_len {α : Type} : ∀ {l r : List α}, l.Nodup → (∀ x, x ∈ l → x ∈ r) → l.length ≤ r.length
  | [], r, _, _ => Nat.zero_le _
  | x :: l, r, hn, hs => by
    obtain ⟨a, b, rfl⟩ := List.append_of_mem (hs x (by simp))
    have hn := List.nodup_cons.1 hn
    have := nodup_len (l := l) (r := a ++ b) hn.2 (fun y hy => by
      have h := hs y (by simp [hy])
      simp only [List.mem_append, List.mem_cons] at h ⊢
      rcases h with h | rfl | h
      · exact .inl h
      · exact (hn.1 hy).elim
      · exact .inr h)
    simp only [List.length_append, List.length_cons] at this ⊢
    omega

theorem RI.len {p : D} {st : CS} (h : RI p st) : st.1.length ≤ p.kids.length := by
  refine nodup_len ?_ h.mem
  refine List.Pairwise.imp ?_ h.apart
  intro a b hab e
  subst e; rw [kq_refl] at hab; cases hab

theorem RI.step {p f e : D} {st : CS} (h : RI p st) (he : e ∈ p.kids) (hq : kq f e.head = true) (hg : kget (defsL p.kids) f = some e) : RI p (reachStep (defsL p.kids) st f) := by
  unfold reachStep
  split
  · rename_i hs
    have hs : seenB st.2 f = false := by simpa using hs
    have hdef : defOf (defsL p.kids) f = e := by unfold defOf; rw [hg]; rfl
    rw [hdef]
    rw [h.seen, List.any_eq_false] at hs
    refine ⟨fun d hd => ?_, ?_, fun g => ?_⟩
    · simp only [List.mem_append, List.mem_singleton] at hd
      rcases hd with hd | rfl
      · exact h.mem d hd
      · exact he
    · refine List.pairwise_append.2 ⟨h.apart, List.pairwise_singleton _ _, fun a ha b hb => ?_⟩
      simp only [List.mem_singleton] at hb
      subst hb
      have := hs a ha
      rw [kq_comm, ← kq_congr hq]
      simpa using this
    · rw [seenB_kset, h.seen, List.any_append, Bool.or_comm]
      simp only [List.any_cons, List.any_nil, Bool.or_false]
      rw [show kq g f = kq g e.head by rw [kq_comm g f, kq_comm g e.head]; exact kq_congr hq g]
  · exact h

theorem RI.fold {p : D} : ∀ {fs : List D} {st : CS}, RI p st → (∀ f, f ∈ fs → ∃ e, e ∈ p.kids ∧ kq f e.head = true ∧ kget (defsL p.kids) f = some e) → RI p (fs.foldl (reachStep (defsL p.kids)) st)
  | [], st, h, _ => h
  | f :: fs, st, h, hf => by
    rw [List.foldl_cons]
    obtain ⟨e, h1, h2, h3⟩ := hf f (by simp)
    exact RI.fold (h.step h1 h2 h3) (fun g hg => hf g (by simp [hg]))

theorem rst_inv {p : D} (R : Right p) : ∀ k, RI p (rst p k)
  | 0 => by
    refine ⟨fun d hd => ?_, List.pairwise_singleton _ _, fun f => ?_⟩
    · simp only [rst, rstK, List.mem_singleton] at hd
      subst hd; exact R.head_mem
    · simp only [rst, rstK, List.any_cons, List.any_nil, Bool.or_false, seenB, kget, List.find?_cons, List.find?_nil]
      cases kq f p.head.head <;> rfl
  | k + 1 => by
    have ih := rst_inv R k
    unfold rst at ih ⊢
    rw [rstK]
    split
    · exact ih
    · rename_i d hd
      exact ih.fold (fun f hf => R.known (ih.mem d (List.mem_of_getElem? hd)) hf)
theorem rst_stable {p : D} {k : Nat} (h : (rst p k).1.length ≤ k) : ∀ j, rst p (k + j) = rst p k
  | 0 => rfl
  | j + 1 => by
    have ih := rst_stable h j
    have : (rst p (k + j)).1[k + j]? = none := by rw [ih]; exact List.getElem?_eq_none (by omega)
    rw [← Nat.add_assoc, ← ih]
    unfold rst at this ⊢
    rw [rstK, this]
theorem reach_done {p : D} {k : Nat} (h : (rst p k).1.length ≤ k) (hk : k ≤ p.kids.length) : reach p = (rst p k).1 := by
  have := rst_stable h (p.kids.length - k)
  rw [show k + (p.kids.length - k) = p.kids.length by omega] at this
  unfold reach; rw [this]
theorem rst_next {p x : D} {k : Nat} (h : (rst p k).1[k]? = some x) : rst p (k + 1) = (callsOf (d2 x.kids)).foldl (reachStep (defsL p.kids)) (rst p k) := by
  unfold rst at h ⊢
  rw [rstK, h]; rfl

/-- Within a round. -/
def rin (p : D) (st : CS) (fs : List D) (j : Nat) : CS := (fs.take j).foldl (reachStep (defsL p.kids)) st
theorem rin_zero {p : D} {st : CS} {fs : List D} : rin p st fs 0 = st := by simp [rin]
theorem rin_next {p x : D} {st : CS} {fs : List D} {j : Nat} (h : fs[j]? = some x) : rin p st fs (j + 1) = reachStep (defsL p.kids) (rin p st fs j) x := by unfold rin; rw [take_next h, List.foldl_append]; rfl
theorem rin_all {p : D} {st : CS} {fs : List D} : rin p st fs fs.length = fs.foldl (reachStep (defsL p.kids)) st := by unfold rin; rw [List.take_length]
theorem rin_inv {p : D} {st : CS} {fs : List D} (h : RI p st) (hf : ∀ f, f ∈ fs → ∃ e, e ∈ p.kids ∧ kq f e.head = true ∧ kget (defsL p.kids) f = some e) (j : Nat) : RI p (rin p st fs j) :=
  h.fold fun f hm => hf f (List.mem_of_mem_take hm)

theorem reachStep_new {m : List (D × D)} {st : CS} {f e : D} (hs : seenB st.2 f = false) (hg : kget m f = some e) : reachStep m st f = (st.1 ++ [e], kset st.2 f true) := by
  unfold reachStep defOf; rw [hs, hg]; rfl
theorem reachStep_old {m : List (D × D)} {st : CS} {f : D} (hs : seenB st.2 f = true) : reachStep m st f = st := by
  unfold reachStep; rw [hs]; simp
theorem reachStep_len {m : List (D × D)} {st : CS} {f : D} : st.1.length ≤ (reachStep m st f).1.length := by
  unfold reachStep; split
  · simp
  · exact Nat.le_refl _
theorem foldl_len {m : List (D × D)} : ∀ (fs : List D) (st : CS), st.1.length ≤ (fs.foldl (reachStep m) st).1.length
  | [], st => Nat.le_refl _
  | f :: fs, st => by rw [List.foldl_cons]; exact Nat.le_trans reachStep_len (foldl_len fs _)
theorem rst_len {p x : D} {k : Nat} (h : (rst p k).1[k]? = some x) : (rst p k).1.length ≤ (rst p (k + 1)).1.length := by
  rw [rst_next h]; exact foldl_len _ _

/-- A nil slice that is handed over may be appended to. -/
theorem ACalls.adoptArg {P : Program} {f : FuncId} {pre post : List AV} {σ : Store} {e : TypeId} {sz : Nat} {R : AV → Store → Prop} (h : ACalls P f (pre ++ .acc [] σ.toks.length :: post) { σ with toks := σ.toks ++ [⟨0, e, sz⟩] } R) : ACalls P f (pre ++ .pv .nils :: post) σ R := by
  intro g w cargs hinv hlen hargs
  obtain ⟨i1, le1⟩ := hinv.adopt ⟨0, e, sz⟩
  refine (h _ w cargs i1 (by simpa using hlen) (fun i x v hx hv => ?_)).mono ?_
  · rcases Nat.lt_trichotomy i pre.length with hi | hi | hi
    · rw [List.getElem?_append_left hi] at hx
      exact (hargs i x v (by rw [List.getElem?_append_left hi]; exact hx) hv).mono le1 (fun _ _ h => h)
    · subst hi
      rw [List.getElem?_append_right (Nat.le_refl _), Nat.sub_self] at hx
      simp only [List.getElem?_cons_zero, Option.some.injEq] at hx
      subst hx
      have := hargs pre.length (.pv .nils) v (by rw [List.getElem?_append_right (Nat.le_refl _), Nat.sub_self]; rfl) hv
      exact this.adopt (xs := []) rfl hinv ⟨0, e, sz⟩ rfl (fun x hx => by simp at hx)
    · have e1 : ∀ (y : AV), (pre ++ y :: post)[i]? = post[i - pre.length - 1]? := by
        intro y
        rw [List.getElem?_append_right (by omega), show i - pre.length = (i - pre.length - 1) + 1 by omega, List.getElem?_cons_succ]
        rfl
      rw [e1] at hx
      exact (hargs i x v (by rw [e1]; exact hx) hv).mono le1 (fun _ _ h => h)
  · rintro e' w' ⟨v, r, σ', g', rfl, hR, hinv', hext, hra⟩
    exact ⟨v, r, σ', g', rfl, hR, hinv', Ext.trans (g' := { g with tb := g.tb ++ [none] }) (σ' := { σ with toks := σ.toks ++ [⟨0, e, sz⟩] }) (w' := w) ⟨le1, rfl, rfl, fun _ _ => rfl, Nat.le_refl _, rfl, rfl, rfl, hinv.lio, hinv.clo⟩ hext, hra⟩

/-! ### the store while this goes on -/
def withR (σ : Store) (m : List (D × D)) (e : TypeId) (st : CS) : Store := { σ with objs := σ.objs ++ [.map (mapK m) (mapV enc m), .map (mapK st.2) (mapV pbool st.2)], toks := σ.toks ++ [⟨st.1.length, e, 4⟩] }
section
variable {σ : Store} {m : List (D × D)} {e : TypeId} {st : CS}
theorem withR_get0 : (withR σ m e st).objs[σ.objs.length]? = some (.map (mapK m) (mapV enc m)) := by simp [withR]
theorem withR_get1 : (withR σ m e st).objs[σ.objs.length + 1]? = some (.map (mapK st.2) (mapV pbool st.2)) := by simp [withR]
theorem withR_tok : (withR σ m e st).toks[σ.toks.length]? = some ⟨st.1.length, e, 4⟩ := by simp [withR]
theorem withR_no : (withR σ m e st).objs.length = σ.objs.length + 2 := by simp [withR]
theorem withR_nt : (withR σ m e st).toks.length = σ.toks.length + 1 := by simp [withR]
theorem withR_cut : (withR σ m e st).cut (σ.objs.length + 2) (σ.toks.length + 1) = withR σ m e st := by simp [withR, Store.cut, List.take_of_length_le]
theorem withR_cut0 : (withR σ m e st).cut σ.objs.length σ.toks.length = σ := by simp [withR, Store.cut]
theorem withR_mem {ob : AObj} (h : ob ∈ (withR σ m e st).objs) (a b c : Nat) : ob ∈ σ.objs ∨ ob.clo a b c = true := by
  simp only [withR, List.mem_append, List.mem_cons, List.not_mem_nil, or_false] at h
  rcases h with h | rfl | rfl
  · exact .inl h
  · exact .inr rfl
  · exact .inr rfl
end
end Go.Aw

/- Programs of the package flat, six: names and labels that are changed. No program is named. -/
namespace Go.Aw
open Go
/-- A function, with what it holds, that gives a datum for a datum wherever the objects are these. -/
def RenAt (P : Program) (G : List (Nat × PV)) (O : List AObj) (f : FuncId) (cl : List AV) (h : D → D) : Prop :=
  Callable P f ∧ AV.noLs cl = true ∧ ∀ σ : Store, σ.gl = G → σ.objs = O → ∀ x : D, x.size ≤ 1000000000 → x.text.size ≤ 40 → PurAt P σ f (.pv (enc x) :: cl) (.pv (enc (h x)))
/-- The same of numbers. -/
def LabAt (P : Program) (G : List (Nat × PV)) (O : List AObj) (f : FuncId) (cl : List AV) (h : Int → D) : Prop :=
  Callable P f ∧ AV.noLs cl = true ∧ ∀ σ : Store, σ.gl = G → σ.objs = O → ∀ n : Int, 0 ≤ n → n ≤ 1000000000 → PurAt P σ f (.pv (.int .i64 n) :: cl) (.pv (enc (h n)))
theorem formed_text {d : D} (h : formed d = true) : d.text.size ≤ 40 := by
  rw [formed_eq] at h
  split at h
  · simp only [Bool.and_eq_true, decide_eq_true_eq] at h
    rw [h.1]; decide
  · split at h
    · simp only [Bool.and_eq_true] at h
      have := h.2
      unfold isSym at this
      simp only [Bool.and_eq_true, Bool.not_eq_true', Bool.or_eq_false_iff, decide_eq_false_iff_not] at this
      have := this.1.1.1.2
      omega
    · split at h
      · simp only [Bool.and_eq_true, decide_eq_true_eq] at h
        rw [h.1.2]; decide
      · cases h
/-- Where a renamer is. -/
abbrev renBox (fl fn : FuncId) (cl cn : List AV) (bare : Bool) : AObj := .box [.func (.func fl) cl, .func (.func fn) cn, .pv (.bool bare)]
@[go_sem high] theorem seq_enc2 (x y : D) : seqPV 4 0 [(0, AV.pv (enc x)), (1, AV.pv (enc y))] = some [enc x, enc y] := by simp [seqPV, toPV, atomToPV, nrm_enc, enc_cells]
@[go_sem high] theorem seq_enc3 (x y z : D) : seqPV 4 0 [(0, AV.pv (enc x)), (1, AV.pv (enc y)), (2, AV.pv (enc z))] = some [enc x, enc y, enc z] := by simp [seqPV, toPV, atomToPV, nrm_enc, enc_cells]
/-- A list that grows behind some elements. -/
def outK (pre : List D) (l : List D) (h : D → D) (k : Nat) : List D := pre ++ (l.take k).map h
section
variable {pre l : List D} {h : D → D} {k : Nat} {x : D}
theorem outK_zero : outK pre l h 0 = pre := by simp [outK]
theorem outK_next (hx : l[k]? = some x) : outK pre l h (k + 1) = outK pre l h k ++ [h x] := by unfold outK; rw [take_next hx]; simp
theorem outK_all : outK pre l h l.length = pre ++ l.map h := by unfold outK; rw [List.take_length]
theorem outK_len (hk : k ≤ l.length) : (outK pre l h k).length = pre.length + k := by unfold outK; rw [List.length_append, List.length_map, List.length_take]; omega
end
theorem rexpr_num {lab nm : D → D} {bare : Bool} {d : D} (h : (d.kind == 1) = true) : rexpr lab nm bare d = d := by rw [rexpr_eq, if_pos h]
theorem rexpr_sym {lab nm : D → D} {bare : Bool} {d : D} (h1 : (d.kind == 1) = false) (h : (d.kind == 2) = true) : rexpr lab nm bare d = nm d := by rw [rexpr_eq, if_neg (by rw [h1]; decide), if_pos h]
section
variable {lab nm : D → D} {bare : Bool} {d : D} (h1 : (d.kind == 1) = false) (h2 : (d.kind == 2) = false)
include h1 h2
theorem rexpr_quote (h3 : decide (d.head.text = sQuote) = true) : rexpr lab nm bare d = d := by rw [rexpr_eq, if_neg (by rw [h1]; decide), if_neg (by rw [h2]; decide), if_pos h3]
theorem rexpr_let (h3 : decide (d.head.text = sQuote) = false) (h4 : decide (d.head.text = sLet) = true) : rexpr lab nm bare d = dlist ([d.head, nm (d1 d.kids)] ++ (parts d).map (rexpr lab nm bare)) := by
  rw [rexpr_eq, if_neg (by rw [h1]; decide), if_neg (by rw [h2]; decide), if_neg (by rw [h3]; decide), if_pos h4]
theorem rexpr_call (h3 : decide (d.head.text = sQuote) = false) (h4 : decide (d.head.text = sLet) = false) (h5 : decide (d.head.text = sCall) = true) : rexpr lab nm bare d = dlist ((if bare = true then [lab (d1 d.kids)] else [d.head, lab (d1 d.kids)]) ++ (parts d).map (rexpr lab nm bare)) := by
  rw [rexpr_eq, if_neg (by rw [h1]; decide), if_neg (by rw [h2]; decide), if_neg (by rw [h3]; decide), if_neg (by rw [h4]; decide), if_pos h5]
theorem rexpr_other (h3 : decide (d.head.text = sQuote) = false) (h4 : decide (d.head.text = sLet) = false) (h5 : decide (d.head.text = sCall) = false) : rexpr lab nm bare d = dlist ([d.head] ++ (parts d).map (rexpr lab nm bare)) := by
  rw [rexpr_eq, if_neg (by rw [h1]; decide), if_neg (by rw [h2]; decide), if_neg (by rw [h3]; decide), if_neg (by rw [h4]; decide), if_neg (by rw [h5]; decide)]
end
/-! ### where the labels stand -/
def atK (l : List D) (k : Nat) : List (D × Int) := (l.zipIdx.take k).foldl (fun m x => kset m x.1.head (x.2 : Int)) []
theorem atK_zero {l : List D} : atK l 0 = [] := by simp [atK]
theorem atK_next {l : List D} {k : Nat} {x : D} (h : l[k]? = some x) : atK l (k + 1) = kset (atK l k) x.head (k : Int) := by
  unfold atK
  have hz : l.zipIdx[k]? = some (x, k) := by rw [List.getElem?_zipIdx, h]; simp
  rw [take_next hz, List.foldl_append]; rfl
theorem atK_all {l : List D} : atK l l.length = atL l := by
  unfold atK atL
  rw [List.take_of_length_le (by simp)]
theorem atK_bound {l : List D} : ∀ (k : Nat) (f : D), k ≤ l.length → 0 ≤ (kpar (atK l k) f).1 ∧ (kpar (atK l k) f).1 ≤ (k : Int)
  | 0, f, _ => by rw [atK_zero]; exact ⟨Int.le_refl _, Int.le_refl _⟩
  | k + 1, f, h => by
    obtain ⟨x, hx, _⟩ := get_lt (l := l) (k := k) (by omega)
    rw [atK_next hx, kpar_kset]
    have := atK_bound (l := l) k f (by omega)
    split
    · exact ⟨by show (0 : Int) ≤ (k : Int); omega, by show (k : Int) ≤ ((k + 1 : Nat) : Int); omega⟩
    · exact ⟨this.1, by omega⟩
theorem atL_bound {l : List D} (f : D) (h : l.length ≤ 1000000000) : 0 ≤ (kpar (atL l) f).1 ∧ (kpar (atL l) f).1 ≤ 1000000000 := by
  rw [← atK_all]
  have := atK_bound (l := l) l.length f (Nat.le_refl _)
  exact ⟨this.1, by omega⟩
/-- The store while the labels are laid down. -/
def withA (σ : Store) (fl : FuncId) (ps : List (D × Int)) : Store := { σ with objs := σ.objs ++ [.box [.func (.func fl) []], .map (mapK ps) (mapV pint ps), .box [.map (σ.objs.length + 1)]] }
section
variable {σ : Store} {fl : FuncId} {ps ps' : List (D × Int)}
theorem withA_get1 : (withA σ fl ps).objs[σ.objs.length + 1]? = some (.map (mapK ps) (mapV pint ps)) := by simp [withA]
theorem withA_get2 : (withA σ fl ps).objs[σ.objs.length + 2]? = some (.box [.map (σ.objs.length + 1)]) := by simp [withA]
theorem withA_toks : (withA σ fl ps).toks = σ.toks := rfl
theorem withA_no : (withA σ fl ps).objs.length = σ.objs.length + 3 := by simp [withA]
theorem withA_mem {ob : AObj} {nt nl : Nat} (h : ob ∈ (withA σ fl ps).objs) : ob ∈ σ.objs ∨ ob.clo (σ.objs.length + 3) nt nl = true := by
  simp only [withA, List.mem_append, List.mem_cons, List.not_mem_nil, or_false] at h
  rcases h with h | rfl | rfl | rfl
  · exact .inl h
  · right; simp [AObj.clo, AV.clos, AV.clo]
  · exact .inr rfl
  · right; simp [AObj.clo, AV.clos, AV.clo]
end
/-- And with the renamer. -/
def withB (σ : Store) (fc fl fn : FuncId) (ps : List (D × Int)) (bare : Bool) : Store := { withA σ fl ps with objs := (withA σ fl ps).objs ++ [renBox fc fn [.ptr σ.objs.length 0, .ptr (σ.objs.length + 2) 0] [] bare] }
section
variable {σ : Store} {fc fl fn : FuncId} {ps : List (D × Int)} {bare : Bool}
theorem withB_gl : (withB σ fc fl fn ps bare).gl = σ.gl := rfl
theorem withB_get0 : (withB σ fc fl fn ps bare).objs[σ.objs.length]? = some (.box [.func (.func fl) []]) := by simp [withB, withA]
theorem withB_get1 : (withB σ fc fl fn ps bare).objs[σ.objs.length + 1]? = some (.map (mapK ps) (mapV pint ps)) := by simp [withB, withA]
theorem withB_get2 : (withB σ fc fl fn ps bare).objs[σ.objs.length + 2]? = some (.box [.map (σ.objs.length + 1)]) := by simp [withB, withA]
theorem withB_get3 : (withB σ fc fl fn ps bare).objs[σ.objs.length + 3]? = some (renBox fc fn [.ptr σ.objs.length 0, .ptr (σ.objs.length + 2) 0] [] bare) := by simp [withB, withA]
theorem withB_take : (withB σ fc fl fn ps bare).objs.take (σ.objs.length + 4) = (withB σ fc fl fn ps bare).objs := List.take_of_length_le (by simp [withB, withA])
theorem withB_take0 : (withB σ fc fl fn ps bare).objs.take σ.objs.length = σ.objs := by simp [withB, withA]
theorem withB_mem {ob : AObj} {nt nl : Nat} (h : ob ∈ (withB σ fc fl fn ps bare).objs) : ob ∈ σ.objs ∨ ob.clo (σ.objs.length + 4) nt nl = true := by
  simp only [withB, withA, List.mem_append, List.mem_cons, List.not_mem_nil, or_false] at h
  rcases h with (h | rfl | rfl | rfl) | rfl
  · exact .inl h
  · right; simp [AObj.clo, AV.clos, AV.clo]
  · exact .inr rfl
  · right; simp [AObj.clo, AV.clos, AV.clo]
  · right; simp [AObj.clo, AV.clos, AV.clo]
theorem withB_toks : (withB σ fc fl fn ps bare).toks = σ.toks := rfl
end
end Go.Aw

/- Programs of the package flat, seven: sizes, labels that are reached. No program is named. -/
namespace Go.Aw
open Go
def sumTo (f : D → Nat) (l : List D) (k : Nat) : Nat := ((l.take k).map f).sum
theorem sumTo_zero {f : D → Nat} {l : List D} : sumTo f l 0 = 0 := by simp [sumTo]
theorem sumTo_next {f : D → Nat} {l : List D} {k : Nat} {x : D} (h : l[k]? = some x) : sumTo f l (k + 1) = sumTo f l k + f x := by unfold sumTo; rw [take_next h]; simp
theorem sumTo_all {f : D → Nat} {l : List D} : sumTo f l l.length = (l.map f).sum := by unfold sumTo; rw [List.take_length]
theorem sum_le {f : D → Nat} : ∀ {l : List D}, (∀ x, x ∈ l → f x ≤ x.size) → (l.map f).sum ≤ D.sizes l
  | [], _ => by simp [D.sizes]
  | x :: l, h => by
    have h1 := h x (by simp)
    have h2 := sum_le (l := l) (fun y hy => h y (by simp [hy]))
    simp only [List.map_cons, List.sum_cons, D.sizes]; omega
theorem sumTo_le {f : D → Nat} {l : List D} {k : Nat} (h : ∀ x, x ∈ l → f x ≤ x.size) : sumTo f l k ≤ D.sizes l := by
  have h1 := sum_le (l := l.take k) (fun x hx => h x (List.mem_of_mem_take hx))
  have h2 := sizes_append (l.take k) (l.drop k)
  rw [List.take_append_drop] at h2
  unfold sumTo; omega
theorem fsizes_sum : ∀ (i : Nat) (l : List D), fsizes i l = ((l.drop i).map fsize).sum
  | 0, [] => rfl
  | i + 1, [] => rfl
  | 0, x :: l => by rw [fsizes, fsizes_sum 0 l]; simp
  | i + 1, x :: l => by rw [fsizes, fsizes_sum i l]; rfl
theorem fsize_eq (d : D) : fsize d = 1 + ((parts d).map fsize).sum := by
  rw [parts_drop]
  cases d
  rw [fsize, fsizes_sum]
  rfl
mutual
theorem fsize_le : ∀ d : D, fsize d ≤ d.size
  | .mk k n t l => by
    have := fsizes_le (pdrop (.mk k n t l)) l
    simp only [fsize, D.size]; omega
theorem fsizes_le : ∀ (i : Nat) (l : List D), fsizes i l ≤ D.sizes l
  | _, [] => by simp [fsizes]
  | 0, x :: l => by
    have h1 := fsize_le x
    have h2 := fsizes_le 0 l
    simp only [fsizes, D.sizes]; omega
  | i + 1, x :: l => by
    have h2 := fsizes_le i l
    simp only [fsizes, D.sizes]; omega
end
theorem sizes_parts (d : D) : D.sizes (parts d) < d.size := by
  have h := sizes_drop_le d.kids (pdrop d)
  rw [← parts_drop] at h
  have := D.size_kids d; omega
/-- The number of expressions of a definition. -/
def bsize (d : D) : Nat := fsize (d2 d.kids)
def fSize (p : D) : Int × Int := if (fcheck p != 0) = true then (0, fcheck p) else (((p.kids.map bsize).sum : Nat), 0)
def fReach (p : D) : List D × Int := if (fcheck p != 0) = true then ([], fcheck p) else ((reach p).map D.head, 0)
theorem Right.bsize_le {p d : D} (R : Right p) (hd : d ∈ p.kids) : bsize d ≤ d.size := by
  obtain ⟨x0, x1, x2, ns, hk, _⟩ := R.def hd
  have h1 := D.size_kid_lt (d := d) (k := x2) (by rw [hk]; simp)
  have h2 := fsize_le x2
  unfold bsize
  rw [show d2 d.kids = x2 by rw [hk]; rfl]; omega
theorem sizes_kids (p : D) : D.sizes p.kids < p.size := by have := D.size_kids p; omega
theorem wrap_add {a b : Nat} (h : a + b ≤ 9223372036854775806) : IntKind.i64.wrap ((a : Int) + (b : Int)) = ((a + b : Nat) : Int) := by
  rw [wrap_id (by omega) (by omega)]; omega
end Go.Aw

/- Programs of the package flat, eight: two programs as one. No program is named. -/
namespace Go.Aw
open Go
section
variable {σ : Store} {e : TypeId} {p : D} {l : List D}
end
end Go.Aw

/- Loops whose private boxes change; what stands in a box may be appended to; data that are cut. No program is named. -/
namespace Go.Aw
open Go
section
variable {P : Program} {ty : TyT} {σ0 : Store} {N : Nat} {s s' : St} {Q : Exit → St → Prop}
theorem awp_loop_headKL {c : Code} {ι : Type} (no nt nl : Nat) (keep : List Nat) (m : ι → List (Nat × AV)) (L : ι → List (List AV)) (σf : ι → Store) (I : ι → Prop) (μ : ι → Nat) (i0 : ι) (hi0 : I i0) (h0 : Weak σ0 no nt nl s (headK s keep (m i0) (L i0) (σf i0)))
    (round : ∀ i, I i → AWp P σ0 N c (Then (Next σ0 (fun i => headK s keep (m i) (L i) (σf i)) I μ i) Q) (headK s keep (m i) (L i) (σf i))) : AWp P σ0 N (.loop c) Q s :=
  awp_loop_fam (fun i => headK s keep (m i) (L i) (σf i)) I μ i0 hi0 h0 round

/-- A slice without room that stands in a private box may be appended to from now on. -/
theorem awp_adoptL {c : Code} (i j : Nat) {cs : List AV} {x : AV} {xs : List PV} (e : TypeId) (sz : Nat) (hL : s.L[i]? = some cs) (hx : cs[j]? = some x) (hf : x.fullElems = some xs) (hs : allSz sz xs = true)
    (k : AWp P σ0 N c Q ⟨s.T, s.L.set i (cs.set j (.acc xs s.σ.toks.length)), { s.σ with toks := s.σ.toks ++ [⟨xs.length, e, sz⟩] }⟩) : AWp P σ0 N c Q s := by
  rintro g0 w0 a w ⟨g, r⟩
  obtain ⟨i1, le1⟩ := r.2.1.adopt ⟨xs.length, e, sz⟩
  have i2 : Inv { g with tb := g.tb ++ [none] } { s.σ with toks := s.σ.toks ++ [⟨xs.length, e, sz⟩] } (s.L.set i (cs.set j (.acc xs s.σ.toks.length))) w := by
    refine ⟨i1.lio, by simp only [List.length_set]; exact i1.llam, i1.ltb, i1.glob, i1.nodup, i1.low, i1.kept, i1.base, i1.cells, i1.objs, fun o ds b hds hb => ?_, i1.toks⟩
    rw [List.getElem?_set] at hds
    split at hds
    · subst_vars
      rw [if_pos (List.getElem?_eq_some_iff.1 hL).1] at hds
      cases hds
      obtain ⟨vs, e', h1, h2, h3, h4⟩ := r.2.1.priv _ cs b hL hb
      refine ⟨vs, e', h1, by rw [List.length_set]; exact h2, h3, fun n y v hy hv => ?_⟩
      rw [List.getElem?_set] at hy
      split at hy
      · subst_vars
        split at hy
        · cases hy
          exact (h4 _ x v hx hv).adopt hf r.2.1 ⟨xs.length, e, sz⟩ rfl (by simpa [allSz] using hs)
        · cases hy
      · exact (h4 n y v hy hv).mono le1 (fun _ _ h => h)
    · exact i1.priv o ds b hds hb
  exact k g0 w0 a w ⟨_, r.later (σ' := { s.σ with toks := s.σ.toks ++ [⟨xs.length, e, sz⟩] }) (L' := s.L.set i (cs.set j (.acc xs s.σ.toks.length))) le1 (fun _ _ h => h) i2 rfl rfl (fun _ _ => rfl) (Nat.le_refl _) rfl rfl rfl⟩

def adoptL (s : St) (i j : Nat) (e : TypeId) (sz : Nat) : Option St :=
  match s.L[i]? with
  | some cs => match cs[j]? with
    | some x => match x.fullElems with
      | some xs => if allSz sz xs = true then some ⟨s.T, s.L.set i (cs.set j (.acc xs s.σ.toks.length)), { s.σ with toks := s.σ.toks ++ [⟨xs.length, e, sz⟩] }⟩ else none
      | none => none
    | none => none
  | none => none

theorem awp_adoptL' {c : Code} (i j : Nat) (e : TypeId) (sz : Nat) (h : adoptL s i j e sz = some s') (k : AWp P σ0 N c Q s') : AWp P σ0 N c Q s := by
  unfold adoptL at h
  split at h
  · split at h
    · split at h
      · split at h
        · cases h; exact awp_adoptL i j e sz ‹_› ‹_› ‹_› ‹_› k
        · cases h
      · cases h
    · cases h
  · cases h
end
attribute [go_sem] adoptL
/-- A copy, as far as there is room. -/
def CutR (oc lf : Nat) (σ : Store) (r : AV) (σ' : Store) : Prop := ∃ (d' : D) (lf' : Nat), r = .pv (enc d') ∧ σ' = setC σ oc lf' ∧ d'.size + lf' ≤ lf
theorem setC_with {σ : Store} {o : Nat} {v v' : Int} {T : List Tok} : setC { setC σ o v with toks := T } o v' = { setC σ o v' with toks := T } := by simp [setC]
theorem enc_mk (k n : Int) (t : ByteArray) (l : List D) : enc (.mk k n t l) = .agg [.int .i64 k, .int .i64 n, .str t, .slice (l.map enc)] := by rw [enc_eq]; rfl
theorem cut_less {P : Program} {f : FuncId} {args : List AV} {σ : Store} {oc lf : Nat} {k n : Int} {tx : ByteArray}
    (h : ACalls P f args σ fun r σ' => ∃ (out : List D) (lv : Nat), WVt σ.objs.length σ.toks.length 0 r (.pv (enc (.mk k n tx out))) ∧ σ'.cut σ.objs.length σ.toks.length = setC σ oc lv ∧ D.sizes out + lv + 1 ≤ lf) : ACalls P f args σ (CutR oc lf σ) := by
  refine h.less ?_
  rintro r σ' ⟨out, lv, h1, h2, h3⟩
  refine ⟨_, _, _, h1, Nat.le_refl _, Nat.le_refl _, fun ob hob => ?_, ⟨_, lv, rfl, h2, by simp only [D.size]; omega⟩⟩
  have h4 : σ'.objs.take σ.objs.length = (setC σ oc lv).objs := congrArg Store.objs h2
  rw [h4] at hob
  exact setC_mem hob _ _ _
theorem cutR_some {oc lf : Nat} {σ : Store} (h : 0 < lf) : ∃ r σ', CutR oc lf σ r σ' := ⟨_, _, dnone, 0, rfl, rfl, by simp [dnone, D.size, D.sizes]; omega⟩
end Go.Aw

/- Programs of the package flat, ten: two right programs joined are one that is right, and its canonical form is that of the first. No program is named. -/
namespace Go.Aw
open Go
/-! ### a program and itself -/
theorem find_self {l : List D} {x : D} (h : Apart l) (hx : x ∈ l) : l.find? (fun d => deq d.head x.head) = some x := by
  induction l with
  | nil => simp at hx
  | cons y r ih =>
    have h := List.pairwise_cons.1 h
    rw [List.find?_cons]
    cases hd : deq y.head x.head with
    | true =>
      rcases List.mem_cons.1 hx with rfl | hx
      · rfl
      · have := h.1 x hx
        rw [deq_of hd, kq_refl] at this; cases this
    | false =>
      rcases List.mem_cons.1 hx with rfl | hx
      · rw [deq_refl] at hd; cases hd
      · exact ih h.2 hx
theorem isSym_es (lt : Int → Bool) : isSym lt es = false := rfl
theorem formed_num {d : D} (h : formed d = true) (hk : d.kind = 1) : d.text = es ∧ d.kids = [] := by
  rw [formed_eq, if_pos (by rw [hk]; rfl)] at h
  simp only [Bool.and_eq_true, beq_iff_eq, decide_eq_true_eq] at h
  exact ⟨h.1, List.eq_nil_of_length_eq_zero (by omega)⟩
theorem formed_sym {d : D} (h : formed d = true) (hk : d.kind = 2) : d.num = 0 ∧ d.kids = [] ∧ isSym isAtom d.text = true := by
  rw [formed_eq, if_neg (by rw [hk]; decide), if_pos (by rw [hk]; rfl)] at h
  simp only [Bool.and_eq_true, beq_iff_eq] at h
  exact ⟨h.1.1, List.eq_nil_of_length_eq_zero (by omega), h.2⟩
theorem isLabel_kind {d : D} (h : isLabel d = true) : d.kind = 1 ∨ d.kind = 2 := by
  unfold isLabel isName at h
  split at h
  · rename_i h1; exact .inl (by simpa using h1)
  · simp only [Bool.and_eq_true, beq_iff_eq] at h; exact .inr h.1
theorem D.ext' {a b : D} (h1 : a.kind = b.kind) (h2 : a.num = b.num) (h3 : a.text = b.text) (h4 : a.kids = b.kids) : a = b := by
  cases a; cases b; simp only [D.kind, D.num, D.text, D.kids] at *; subst h1 h2 h3 h4; rfl
/-- Labels with one key are one label. -/
theorem label_eq {a b : D} (ha : isLabel a = true) (hb : isLabel b = true) (fa : formed a = true) (fb : formed b = true) (h : kq a b = true) : a = b := by
  obtain ⟨hn, ht⟩ := kq_iff.1 h
  rcases isLabel_kind ha with ka | ka <;> rcases isLabel_kind hb with kb | kb
  · exact D.ext' (ka.trans kb.symm) hn ht ((formed_num fa ka).2.trans (formed_num fb kb).2.symm)
  · have h1 := (formed_num fa ka).1
    have h2 := (formed_sym fb kb).2.2
    rw [← ht, h1, isSym_es] at h2; cases h2
  · have h1 := (formed_num fb kb).1
    have h2 := (formed_sym fa ka).2.2
    rw [ht, h1, isSym_es] at h2; cases h2
  · exact D.ext' (ka.trans kb.symm) hn ht ((formed_sym fa ka).2.1.trans (formed_sym fb kb).2.1.symm)

section
variable {p d : D} (R : Right p)
include R
theorem Right.label (hd : d ∈ p.kids) : isLabel d.head = true ∧ Aw.formed d.head = true := by
  obtain ⟨x0, x1, x2, ns, hk, _, hl, _⟩ := R.def hd
  rw [head_cons hk]
  exact ⟨hl, formed_kids (formed_kids R.formed hd) (by rw [hk]; simp)⟩
end
/-! ### heads of a list that is right -/
def DefOk (d : D) : Prop := ∃ x0 x1 x2 ns, d.kids = [x0, x1, x2] ∧ d.kind = 3 ∧ isLabel x0 = true ∧ names x1 = some ns ∧ ns.length ≤ 8
theorem chead_zero {ps : List (D × Int)} {d : D} (h : DefOk d) (hn : (kpar ps d.head).2 = false) : chead ps d = (0, kset ps d.head (nlist (names (d1 d.kids))).length) := by
  obtain ⟨x0, x1, x2, ns, hk, hk3, hl, hns, h8⟩ := h
  have hkd : kidsOf d 3 false = some [x0, x1, x2] := by
    unfold kidsOf; rw [if_neg (by rw [hk, hk3]; simp), hk]
  rw [head_cons hk] at hn ⊢
  rw [chead_some hkd, if_neg (by simp [hl]), if_neg (by simp [hn]), hns]
  have hd : d1 d.kids = x1 := by rw [hk]; rfl
  have hlt : ¬ decide ((8 : Int) < ns.length) = true := by simp; omega
  simp only [if_neg hlt, hd, hns]
  rfl
theorem headsGo_zero : ∀ {l : List D} {ps : List (D × Int)}, Apart l → (∀ d, d ∈ l → DefOk d ∧ (kpar ps d.head).2 = false) → (headsGo ps l).1 = 0
  | [], _, _, _ => rfl
  | y :: l, ps, ha, h => by
    have ha := List.pairwise_cons.1 ha
    have hy := h y (by simp)
    have hc := chead_zero hy.1 hy.2
    rw [headsGo, if_neg (by rw [hc]; simp), hc]
    refine headsGo_zero ha.2 (fun d hd => ⟨(h d (by simp [hd])).1, ?_⟩)
    rw [kpar_kset, show kq d.head y.head = false by rw [kq_comm]; exact ha.1 d hd]
    exact (h d (by simp [hd])).2

/-! ### what more is known does no harm -/
section
variable {p q : D} (R : Right p) (S : Right q) (hlen : (joinL p q).1.length ≤ 4000) (hchk : dcheck (joinD p q) = 0) (hap : (joinL p q).2 = false)
include R S
include hlen hchk
include hap
end
theorem fcanon_ok {p : D} (h : (fcanon p).2 = 0) : fcheck p = 0 := by
  unfold fcanon at h
  split at h
  · rename_i hc; simp only at h; rw [h] at hc; simp at hc
  · rename_i hc; simpa using hc
end Go.Aw

/- Programs of the package flat, eleven: a canonical form is not greater than the program. No program is named. -/
namespace Go.Aw
open Go
theorem dlist_size (l : List D) : (dlist l).size = 1 + D.sizes l := rfl
theorem sizes_map {h : D → D} : ∀ {l : List D}, (∀ x, x ∈ l → (h x).size ≤ x.size) → D.sizes (l.map h) ≤ D.sizes l
  | [], _ => by simp
  | x :: l, hx => by
    have h1 := hx x (by simp)
    have h2 := sizes_map (l := l) (fun y hy => hx y (by simp [hy]))
    simp only [List.map_cons, D.sizes]; omega
theorem rexpr_size {lab : D → D} (hl : ∀ f, (lab f).size ≤ 1) : ∀ d : D, okE d = true → (rexpr lab id false d).size ≤ d.size := by
  intro d
  induction d using D.ind with
  | _ k n t l ih =>
    intro hok
    have hpm : D.sizes ((parts (.mk k n t l)).map (rexpr lab id false)) ≤ D.sizes (parts (.mk k n t l)) := sizes_map fun x hx => ih x (parts_mem hx) (okE_parts hok x hx)
    have hsz := D.size_kids (.mk k n t l)
    have hdr : ∀ i, D.sizes (l.take i) + D.sizes (l.drop i) = D.sizes l := fun i => by rw [← sizes_append, List.take_append_drop]
    generalize hd : D.mk k n t l = d at *
    have hk : d.kids = l := by rw [← hd]; rfl
    rcases okE_kind hok with h | h | h
    · rw [rexpr_num (by rw [h]; rfl)]; omega
    · rw [rexpr_sym (by rw [h]; rfl) (by rw [h]; rfl)]; exact Nat.le_refl _
    · have e1 : (d.kind == 1) = false := by rw [h]; rfl
      have e2 : (d.kind == 2) = false := by rw [h]; rfl
      obtain ⟨hne, h2, _⟩ := okE_list hok h
      obtain ⟨x0, r, hx⟩ := kids_cons hne
      have hh := head_cons hx
      have e3 : (d.kind != 3) = false := by rw [h]; rfl
      have hpp : parts d = if decide (d.head.text = sQuote) = true then [] else if decide (d.head.text = sLet) = true then d.kids.drop 2 else if decide (d.head.text = sCall) = true then d.kids.drop 2 else d.kids.drop 1 := by
        unfold parts; rw [if_neg (by rw [e3]; decide)]
      by_cases hq : decide (d.head.text = sQuote) = true
      · rw [rexpr_quote e1 e2 hq]; omega
      have hq' : decide (d.head.text = sQuote) = false := by simpa using hq
      rw [if_neg hq] at hpp
      rw [hk] at hx hsz
      by_cases hL : decide (d.head.text = sLet) = true
      · rw [rexpr_let e1 e2 hq' hL, dlist_size, sizes_append]
        rw [if_pos hL] at hpp
        have h2l := h2 (.inl (of_decide_eq_true hL))
        rw [hpp, hk] at hpm
        rw [hk] at h2l
        rw [hx] at h2l hpm hsz
        match r, h2l with
        | x1 :: r, _ =>
          have h1 : d1 d.kids = x1 := by rw [hk, hx]; rfl
          rw [hh, h1, hpp, hk, hx]
          simp only [D.sizes, id, List.drop_succ_cons, List.drop_zero] at hpm hsz ⊢
          omega
      have hL' : decide (d.head.text = sLet) = false := by simpa using hL
      rw [if_neg hL] at hpp
      by_cases hC : decide (d.head.text = sCall) = true
      · rw [rexpr_call e1 e2 hq' hL' hC, if_neg (by decide), dlist_size, sizes_append]
        rw [if_pos hC] at hpp
        have h2l := h2 (.inr (of_decide_eq_true hC))
        rw [hpp, hk] at hpm
        rw [hk] at h2l
        rw [hx] at h2l hpm hsz
        match r, h2l with
        | x1 :: r, _ =>
          have h1 : d1 d.kids = x1 := by rw [hk, hx]; rfl
          have h3 := hl x1
          have h4 := x1.size_pos
          rw [hh, h1, hpp, hk, hx]
          simp only [D.sizes, List.drop_succ_cons, List.drop_zero] at hpm hsz ⊢
          omega
      have hC' : decide (d.head.text = sCall) = false := by simpa using hC
      rw [if_neg hC] at hpp
      rw [rexpr_other e1 e2 hq' hL' hC', dlist_size, sizes_append]
      rw [hpp, hk, hx] at hpm
      rw [hx] at hsz
      rw [hh, hpp, hk, hx]
      simp only [D.sizes, List.drop_succ_cons, List.drop_zero] at hpm hsz ⊢
      omega
theorem nodup_sizes : ∀ {l r : List D}, l.Nodup → (∀ x, x ∈ l → x ∈ r) → D.sizes l ≤ D.sizes r
  | [], r, _, _ => Nat.zero_le _
  | x :: l, r, hn, hs => by
    obtain ⟨a, b, rfl⟩ := List.append_of_mem (hs x (by simp))
    have hn := List.nodup_cons.1 hn
    have := nodup_sizes (l := l) (r := a ++ b) hn.2 (fun y hy => by
      have h := hs y (by simp [hy])
      simp only [List.mem_append, List.mem_cons] at h ⊢
      rcases h with h | rfl | h
      · exact .inl h
      · exact (hn.1 hy).elim
      · exact .inr h)
    rw [sizes_append] at this
    rw [sizes_append]
    simp only [D.sizes]
    omega
theorem canon_size {p : D} (R : Right p) : (canonD p).size ≤ p.size := by
  have hri := rst_inv R p.kids.length
  have hnd : (reach p).Nodup := by
    refine List.Pairwise.imp ?_ hri.apart
    intro a b hab e
    subst e; rw [kq_refl] at hab; cases hab
  have h1 : D.sizes (reach p) ≤ D.sizes p.kids := nodup_sizes hnd hri.mem
  have h2 : D.sizes (canonL (reach p) dnum id false) ≤ D.sizes (reach p) := by
    unfold canonL
    refine sizes_map fun d hd => ?_
    have hdp : d ∈ p.kids := hri.mem d hd
    obtain ⟨x0, x1, x2, ns, hk, _⟩ := R.def hdp
    have hok := R.ok hdp
    have e2 : d2 d.kids = x2 := by rw [hk]; rfl
    have e1 : d1 d.kids = x1 := by rw [hk]; rfl
    rw [e2] at hok
    have h3 := rexpr_size (lab := fun f => dnum (kpar (atL (reach p)) f).1) (fun f => Nat.le_refl _) x2 hok
    have h4 := D.size_kids d
    have h5 := D.size_kids x1
    have h6 := x0.size_pos
    rw [hk] at h4
    unfold rdef
    rw [e1, e2, dlist_size]
    simp only [D.sizes, dlist_size, List.map_id] at h4 ⊢
    have h7 : (dnum (kpar (atL (reach p)) d.head).1).size = 1 := rfl
    omega
  unfold canonD
  rw [dlist_size]
  have := D.size_kids p
  omega
theorem fcanon_size {p : D} (hp : p.size ≤ 900000000) : (fcanon p).1.size ≤ 900000000 := by
  unfold fcanon
  split
  · show dnone.size ≤ _; decide
  · rename_i h
    have := canon_size (p := p) ⟨by simpa using h, hp⟩
    simp only; omega
end Go.Aw

/- Layer 17's specification (one): names, labels, forms, and what is wrong with a body, told of data as trees; the same as the program's own checker's. No program is named. -/
namespace Go.Aw
open Go
/-! ### the words, written out (no rewriting by unfolding: the decisions' instances follow) -/
theorem eQuote : sQuote = ⟨#[113, 117, 111, 116, 101]⟩ := Eq.trans rfl rfl
theorem eIf : sIf = ⟨#[105, 102]⟩ := Eq.trans rfl rfl
theorem eLet : sLet = ⟨#[108, 101, 116]⟩ := Eq.trans rfl rfl
theorem eCall : sCall = ⟨#[99, 97, 108, 108]⟩ := Eq.trans rfl rfl

/-! ### bytes, symbols -/
theorem letter_tab : (List.range 256).all (fun c => letter (c : Int) == isAtom (c : Int)) = true := by kernel_rfl
theorem letter_atom {c : Nat} (h : c < 256) : letter (c : Int) = isAtom (c : Int) := by
  have := List.all_eq_true.1 letter_tab c (List.mem_range.2 h)
  simpa using this
theorem bt_nat (s : ByteArray) (i : Nat) : ∃ c : Nat, c < 256 ∧ bt s i = (c : Int) := by
  refine ⟨((s.data[((i : Int)).toNat]?).getD 0).toNat, UInt8.toNat_lt _, rfl⟩
theorem isSym_letter (s : ByteArray) : isSym letter s = isSym isAtom s := by
  have h : (fun i => letter (bt s i)) = fun i => isAtom (bt s i) := by
    funext i
    obtain ⟨c, hc, e⟩ := bt_nat s i
    rw [e, letter_atom hc]
  unfold isSym
  rw [h]

/-! ### names -/
def words7 : List ByteArray := [⟨#[113, 117, 111, 116, 101]⟩, ⟨#[105, 102]⟩, ⟨#[102, 110]⟩, ⟨#[108, 101, 116]⟩, ⟨#[114, 101, 99]⟩, ⟨#[115, 101, 113]⟩, ⟨#[117, 112]⟩]
def resI (s : ByteArray) : Int := idxOf (fun w => decide (w = s)) words7
def reserved (s : ByteArray) : Int := if resI s < 0 then 0 else 3 + resI s
def name04 (s : ByteArray) : Bool := isSym letter s && reserved s == 0
def rname (s : ByteArray) : Bool := name04 s && !(decide (s = sCall))
theorem idxOf_nonneg {α : Type} {p : α → Bool} {l : List α} : (0 ≤ idxOf p l) ↔ l.any p = true := by
  rw [← idxOf_any]; simp
theorem reserved_zero (s : ByteArray) : (reserved s == 0) = !(words7.any fun w => decide (w = s)) := by
  unfold reserved resI
  have h := idxOf_nonneg (p := fun w => decide (w = s)) (l := words7)
  cases hb : words7.any fun w => decide (w = s) with
  | true =>
    have h0 := h.2 hb
    rw [if_neg (by omega)]
    simp; omega
  | false =>
    have h0 : ¬ 0 ≤ idxOf (fun w => decide (w = s)) words7 := fun h0 => by rw [h.1 h0] at hb; cases hb
    rw [if_pos (by omega)]; rfl
theorem isRes_eq (s : ByteArray) : isRes s = (words7.any (fun w => decide (w = s)) || decide (s = sCall)) := by
  have e : ∀ l : List ByteArray, (kfind (.str s) (l.map .str)).isSome = l.any fun w => decide (s = w) := by
    intro l
    induction l with
    | nil => rfl
    | cons x l ih =>
      simp only [List.map_cons, kfind, List.any_cons]
      have hk : (PV.str s).keq (.str x) = decide (s = x) := by simp [PV.keq, pvAtomEq]
      rw [hk]
      cases hx : decide (s = x) with
      | true => simp
      | false => simp [← ih]
  have h8 : resK = (words7 ++ [sCall]).map .str := rfl
  unfold isRes
  rw [h8, e, List.any_append]
  have hc : (fun w => decide (s = w)) = fun w : ByteArray => decide (w = s) := by funext w; simp [eq_comm]
  have hs : (List.any [sCall] fun w => decide (s = w)) = decide (s = sCall) := by simp
  rw [hs, hc]
theorem rname_eq {d : D} (hf : formed d = true) (hk : d.kind = 2) : rname d.text = isName d := by
  have h := (formed_sym hf hk).2.2
  unfold rname name04 isName
  rw [isSym_letter, h, reserved_zero, isRes_eq, hk]
  simp [Bool.not_or]
def rlabel (d : D) : Bool := if (d.kind == 2) = true then rname d.text else if (d.kind == 1) = true then decide (0 ≤ d.num) && decide (d.num < 2147483648) else false
theorem rlabel_eq {d : D} (hf : formed d = true) : rlabel d = isLabel d := by
  unfold rlabel isLabel
  rcases formed_kind hf with h | h | h
  · rw [if_neg (by rw [h]; decide), if_pos (by rw [h]; rfl), if_pos (by rw [h]; rfl)]
    congr 1
    by_cases h2 : d.num < 2147483648
    · rw [decide_eq_true h2, decide_eq_true (by omega)]
    · rw [decide_eq_false h2, decide_eq_false (by omega)]
  · rw [if_pos (by rw [h]; rfl), if_neg (by rw [h]; decide), rname_eq hf h]
  · rw [if_neg (by rw [h]; decide), if_neg (by rw [h]; decide), if_neg (by rw [h]; decide)]
    unfold isName; rw [h]; rfl

/-! ### primitives -/
def ar2 : List ByteArray := [⟨#[43]⟩, ⟨#[45]⟩, ⟨#[42]⟩, ⟨#[113, 117, 111, 116]⟩, ⟨#[114, 101, 109]⟩, ⟨#[60]⟩, ⟨#[61]⟩, ⟨#[99, 111, 110, 115]⟩, ⟨#[109, 97, 114, 107]⟩]
def ar1 : List ByteArray := [⟨#[102, 105, 114, 115, 116]⟩, ⟨#[114, 101, 115, 116]⟩, ⟨#[99, 111, 117, 110, 116]⟩, ⟨#[108, 105, 115, 116, 63]⟩, ⟨#[110, 117, 109, 63]⟩, ⟨#[115, 121, 109, 63]⟩, ⟨#[115, 116, 111, 112]⟩]
def arityR (s : ByteArray) : Int × Bool := if (ar2.any fun w => decide (s = w)) = true then (2, true) else if (ar1.any fun w => decide (s = w)) = true then (1, true) else (0, false)
theorem arityR_eq (s : ByteArray) : arityR s = arity s := by
  unfold arityR
  split
  · rename_i h
    obtain ⟨w, hw, he⟩ := List.any_eq_true.1 h
    obtain rfl := of_decide_eq_true he
    simp only [ar2, List.mem_cons, List.not_mem_nil, or_false] at hw
    rcases hw with rfl | rfl | rfl | rfl | rfl | rfl | rfl | rfl | rfl <;> rfl
  · split
    · rename_i h
      obtain ⟨w, hw, he⟩ := List.any_eq_true.1 h
      obtain rfl := of_decide_eq_true he
      simp only [ar1, List.mem_cons, List.not_mem_nil, or_false] at hw
      rcases hw with rfl | rfl | rfl | rfl | rfl | rfl | rfl <;> rfl
    · rename_i h2 h1
      unfold arity
      have : primL.find? (fun p => decide (p.1 = s)) = none := by
        rw [List.find?_eq_none]
        intro p hp hq
        have hq := of_decide_eq_true hq
        have hm : p.1 ∈ ar2 ∨ p.1 ∈ ar1 := by
          simp only [primL, List.mem_cons, List.not_mem_nil, or_false] at hp
          rcases hp with rfl | rfl | rfl | rfl | rfl | rfl | rfl | rfl | rfl | rfl | rfl | rfl | rfl | rfl | rfl | rfl <;> simp [ar1, ar2]
        rcases hm with hm | hm
        · exact h2 (List.any_eq_true.2 ⟨p.1, hm, by simp [hq]⟩)
        · exact h1 (List.any_eq_true.2 ⟨p.1, hm, by simp [hq]⟩)
      rw [this]

/-! ### words, forms -/
def word (d : D) : ByteArray := if (d.kind != 3 || (d.kids.length : Int) == 0 || d.head.kind != 2) = true then es else d.head.text
def kidsR (d : D) : List D := if decide (word d = es) = true then [] else if decide (word d = sQuote) = true then [] else if decide (word d = sLet) = true then d.kids.drop 2 else if decide (word d = sCall) = true then d.kids.drop 2 else d.kids.drop 1
def form (d : D) : Bool :=
  if (d.kind == 1) = true then true else if (d.kind == 2) = true then rname d.text else
  if decide (word d = es) = true then false else
  if decide (word d = sQuote) = true then (d.kids.length : Int) == 2 else
  if decide (word d = sIf) = true then (d.kids.length : Int) == 4 else
  if decide (word d = sLet) = true then ((d.kids.length : Int) == 4 && (d1 d.kids).kind == 2) && rname (d1 d.kids).text else
  if decide (word d = sCall) = true then decide ((1 : Int) < d.kids.length) && rlabel (d1 d.kids) else (arity (word d)).2
theorem word_list {d : D} (hk : d.kind = 3) (hn : d.kids ≠ []) (hh : d.head.kind = 2) : word d = d.head.text := by
  have : d.kids.length ≠ 0 := fun e => hn (List.eq_nil_of_length_eq_zero e)
  unfold word
  rw [if_neg]
  rw [hk, hh]
  simp; omega
theorem word_none {d : D} (h : d.kind ≠ 3 ∨ d.kids = [] ∨ d.head.kind ≠ 2) : word d = es := by
  unfold word
  rw [if_pos]
  rcases h with h | h | h
  · simp [h]
  · simp [h]
  · simp [h]

theorem word_ne {d : D} (h : decide (word d = es) = false) : d.kind = 3 ∧ d.kids ≠ [] ∧ d.head.kind = 2 ∧ word d = d.head.text ∧ (1 : Int) ≤ d.kids.length := by
  have hc : ¬ (d.kind ≠ 3 ∨ d.kids = [] ∨ d.head.kind ≠ 2) := fun hc => by rw [word_none hc] at h; exact absurd h (by decide)
  have h1 : d.kind = 3 := Decidable.byContradiction fun e => hc (.inl e)
  have h2 : d.kids ≠ [] := fun e => hc (.inr (.inl e))
  have h3 : d.head.kind = 2 := Decidable.byContradiction fun e => hc (.inr (.inr e))
  have : d.kids.length ≠ 0 := fun e => h2 (List.eq_nil_of_length_eq_zero e)
  exact ⟨h1, h2, h3, word_list h1 h2 h3, by omega⟩
/-- The names bound in one of the expressions that stand in one. -/
def inb (b : List ByteArray) (d : D) (i : Nat) : List ByteArray := if (decide (word d = sLet) && (i : Int) == 1) = true then b ++ [(d1 d.kids).text] else b
def goB (ps : List (D × Int)) (b : List ByteArray) (d : D) : Nat → List D → Int
  | _, [] => 0
  | i, x :: l => if (cexpr ps (inb b d i) x != 0) = true then cexpr ps (inb b d i) x else goB ps b d (i + 1) l
theorem goB_step {ps : List (D × Int)} {b : List ByteArray} {d x : D} {k : Nat} (h : (kidsR d)[k]? = some x) :
    goB ps b d k ((kidsR d).drop k) = if (cexpr ps (inb b d k) x != 0) = true then cexpr ps (inb b d k) x else goB ps b d (k + 1) ((kidsR d).drop (k + 1)) := by
  rw [drop_cons h, goB]
def body1 (ps : List (D × Int)) (b : List ByteArray) (d : D) : Int :=
  if (!form d) = true then 4 else
  if (d.kind == 2 && !(b.any fun y => decide (y = d.text))) = true then 12 else
  if (decide (word d = sCall) && !(kpar ps (d1 d.kids)).2) = true then 5 else
  if (decide (word d = sCall) && (kpar ps (d1 d.kids)).1 != (d.kids.length : Int) - 2) = true then 11 else
  if ((arity (word d)).2 && (arity (word d)).1 != (d.kids.length : Int) - 1) = true then 11 else goB ps b d 0 (kidsR d)
theorem goB_cll {ps : List (D × Int)} {b : List ByteArray} {d : D} (hw : decide (word d = sLet) = false) : ∀ (l : List D) (i : Nat), goB ps b d i l = cll ps b l
  | [], i => rfl
  | x :: l, i => by
    have hi : inb b d i = b := by unfold inb; rw [hw]; rfl
    rw [goB, cll_cons, hi, goB_cll hw l (i + 1)]
theorem any_comm (b : List ByteArray) (s : ByteArray) : (b.any fun y => decide (y = s)) = b.any fun y => decide (s = y) := by
  congr 1; funext y; simp [eq_comm]
theorem arity_es : arity es = (0, false) := rfl
theorem sEs_ne {s : ByteArray} (h : isSym isAtom s = true) : decide (s = es) = false := by
  rw [decide_eq_false_iff_not]
  rintro rfl
  rw [isSym_es] at h; cases h
theorem cexpr_body {ps : List (D × Int)} {b : List ByteArray} {d : D} (hf : formed d = true) : cexpr ps b d = body1 ps b d := by
  rw [cexpr_eq]
  unfold body1
  rcases formed_kind hf with hk | hk | hk
  · have hw : word d = es := word_none (.inl (by rw [hk]; decide))
    have hF : form d = true := by unfold form; rw [if_pos (by rw [hk]; rfl)]
    have hK : kidsR d = [] := by unfold kidsR; rw [if_pos (by rw [hw]; rfl)]
    have hC : decide (es = sCall) = false := by decide
    simp only [hk, hF, hw, hK, hC, arity_es]; rfl
  · have hw : word d = es := word_none (.inl (by rw [hk]; decide))
    have hF : form d = rname d.text := by unfold form; rw [if_neg (by rw [hk]; decide), if_pos (by rw [hk]; rfl)]
    have hK : kidsR d = [] := by unfold kidsR; rw [if_pos (by rw [hw]; rfl)]
    have hC : decide (es = sCall) = false := by decide
    rw [hF, rname_eq hf hk, any_comm]
    simp only [hk, hw, hK, hC, arity_es]
    cases isName d <;> cases (b.any fun y => decide (d.text = y)) <;> rfl
  · have hk1 : (d.kind == 1) = false := by rw [hk]; rfl
    have hk2 : (d.kind == 2) = false := by rw [hk]; rfl
    simp only [hk1, hk2, Bool.false_and, Bool.false_eq_true, if_false]
    by_cases hb : ((d.kids.length : Int) == 0 || d.head.kind != 2) = true
    · rw [if_pos hb]
      have hw : word d = es := by
        refine word_none ?_
        simp only [Bool.or_eq_true, beq_iff_eq, bne_iff_ne] at hb
        rcases hb with hb | hb
        · exact .inr (.inl (List.eq_nil_of_length_eq_zero (by omega)))
        · exact .inr (.inr hb)
      have hF : form d = false := by unfold form; rw [if_neg (by rw [hk1]; decide), if_neg (by rw [hk2]; decide), if_pos (by rw [hw]; rfl)]
      rw [hF]; rfl
    · rw [if_neg hb]
      simp only [Bool.or_eq_true, beq_iff_eq, bne_iff_ne, not_or, Decidable.not_not] at hb
      have hn : d.kids ≠ [] := fun e => hb.1 (by rw [e]; rfl)
      have hw : word d = d.head.text := word_list hk hn hb.2
      obtain ⟨x0, r, hx⟩ := kids_cons hn
      have hh : d.head = x0 := head_cons hx
      have hf0 : formed d.head = true := by rw [hh]; exact formed_kids hf (by rw [hx]; simp)
      have hE : decide (word d = es) = false := by rw [hw]; exact sEs_ne (formed_sym hf0 hb.2).2.2
      have hform : form d = (if decide (word d = sQuote) = true then (d.kids.length : Int) == 2 else
          if decide (word d = sIf) = true then (d.kids.length : Int) == 4 else
          if decide (word d = sLet) = true then ((d.kids.length : Int) == 4 && (d1 d.kids).kind == 2) && rname (d1 d.kids).text else
          if decide (word d = sCall) = true then decide ((1 : Int) < d.kids.length) && rlabel (d1 d.kids) else (arity (word d)).2) := by
        unfold form; simp only [hk1, hk2, hE, Bool.false_eq_true, if_false]
      have hkids : kidsR d = (if decide (word d = sQuote) = true then [] else if decide (word d = sLet) = true then d.kids.drop 2 else if decide (word d = sCall) = true then d.kids.drop 2 else d.kids.drop 1) := by
        unfold kidsR; simp only [hE, Bool.false_eq_true, if_false]
      rw [← hw]
      cases hq : decide (word d = sQuote) with
      | true =>
        have hwq := of_decide_eq_true hq
        have hC : decide (word d = sCall) = false := by rw [hwq]; decide
        have hA : arity (word d) = (0, false) := by rw [hwq]; rfl
        rw [hform, hkids, hC, hA]
        simp only [hq, if_true]
        by_cases h2 : d.kids.length = 2
        · simp [h2, goB]
        · have : ((d.kids.length : Int) == 2) = false := by rw [beq_eq_false_iff_ne]; omega
          have h3 : ((d.kids.length : Int) != 2) = true := by rw [bne_iff_ne]; omega
          simp [this, h3]
      | false =>
        cases hi : decide (word d = sIf) with
        | true =>
          have hwi := of_decide_eq_true hi
          have hC : decide (word d = sCall) = false := by rw [hwi]; decide
          have hL : decide (word d = sLet) = false := by rw [hwi]; decide
          have hA : arity (word d) = (0, false) := by rw [hwi]; rfl
          rw [hform, hkids, hC, hA, goB_cll hL]
          simp only [hq, hi, hL, hC, if_true, Bool.false_eq_true, if_false]
          by_cases h2 : d.kids.length = 4
          · simp [h2]
          · have : ((d.kids.length : Int) == 4) = false := by rw [beq_eq_false_iff_ne]; omega
            have h3 : ((d.kids.length : Int) != 4) = true := by rw [bne_iff_ne]; omega
            simp [this, h3]
        | false =>
          cases hl : decide (word d = sLet) with
          | true =>
            have hwl := of_decide_eq_true hl
            have hC : decide (word d = sCall) = false := by rw [hwl]; decide
            have hA : arity (word d) = (0, false) := by rw [hwl]; rfl
            rw [hform, hkids, hC, hA]
            simp only [hq, hi, hl, hC, if_true, Bool.false_eq_true, if_false]
            by_cases h4 : d.kids.length = 4
            · match hkk : d.kids, h4 with
              | [y0, y1, y2, y3], _ =>
                have hf1 : formed y1 = true := formed_kids hf (by rw [hkk]; simp)
                have hd1 : d1 [y0, y1, y2, y3] = y1 := rfl
                have hg1 : ([y0, y1, y2, y3] : List D).getD 1 dnone = y1 := rfl
                have hi0 : inb b d 0 = b := by unfold inb; simp
                have hi1 : inb b d 1 = b ++ [y1.text] := by unfold inb; rw [hl, hkk]; rfl
                have hc2 : ∀ b : List ByteArray, cnth ps b 2 [y0, y1, y2, y3] = cexpr ps b y2 := fun b => cnth_get ps b 2 _ y2 rfl
                have hc3 : ∀ b : List ByteArray, cnth ps b 3 [y0, y1, y2, y3] = cexpr ps b y3 := fun b => cnth_get ps b 3 _ y3 rfl
                have hgo : goB ps b d 0 (([y0, y1, y2, y3] : List D).drop 2) = if (cexpr ps b y2 != 0) = true then cexpr ps b y2 else if (cexpr ps (b ++ [y1.text]) y3 != 0) = true then cexpr ps (b ++ [y1.text]) y3 else 0 := by
                  simp only [List.drop_succ_cons, List.drop_zero, goB, hi0, hi1]
                have h44 : ((([y0, y1, y2, y3] : List D).length : Int) != 4) = false := rfl
                have h45 : ((([y0, y1, y2, y3] : List D).length : Int) == 4) = true := rfl
                rw [hgo, hc2, hc3]
                simp only [hd1, hg1, h44, h45, Bool.true_and, Bool.false_or]
                have hnm : (y1.kind == 2 && rname y1.text) = isName y1 := by
                  by_cases hy : y1.kind = 2
                  · rw [rname_eq hf1 hy, hy]; simp
                  · unfold isName
                    have : (y1.kind == 2) = false := by rw [beq_eq_false_iff_ne]; exact hy
                    rw [this]; rfl
                rw [hnm]
                cases isName y1 with
                | false => rfl
                | true =>
                  by_cases h2 : cexpr ps b y2 = 0
                  · by_cases h3 : cexpr ps (b ++ [y1.text]) y3 = 0
                    · simp [h2, h3]
                    · simp [h2, h3]
                  · simp [h2]
            · have : ((d.kids.length : Int) == 4) = false := by rw [beq_eq_false_iff_ne]; omega
              have h3 : ((d.kids.length : Int) != 4) = true := by rw [bne_iff_ne]; omega
              simp [this, h3]
          | false =>
            cases hc : decide (word d = sCall) with
            | true =>
              have hwc := of_decide_eq_true hc
              have hA : arity (word d) = (0, false) := by rw [hwc]; rfl
              rw [hform, hkids, hA, goB_cll hl]
              simp only [hq, hi, hl, hc, if_true, Bool.false_eq_true, if_false, Bool.true_and, Bool.false_and]
              unfold ccall
              by_cases h2 : d.kids.length < 2
              · have e1 : decide ((d.kids.length : Int) < 2) = true := decide_eq_true (by omega)
                have e2 : decide ((1 : Int) < d.kids.length) = false := decide_eq_false (by omega)
                simp [e1, e2]
              · have e1 : decide ((d.kids.length : Int) < 2) = false := decide_eq_false (by omega)
                have e2 : decide ((1 : Int) < d.kids.length) = true := decide_eq_true (by omega)
                obtain ⟨x1, hx1, hx1m⟩ := get_lt (l := d.kids) (k := 1) (by omega)
                have hg1 : d.kids.getD 1 dnone = x1 := getD_of hx1
                have hd1 : d1 d.kids = x1 := hg1
                rw [hd1, hg1, rlabel_eq (formed_kids hf hx1m), e1, e2]
                simp only [Bool.false_or, Bool.true_and]
            | false =>
              rw [hform, hkids, goB_cll hl]
              simp only [hq, hi, hl, hc, Bool.false_eq_true, if_false, Bool.false_and]
              cases h2 : (arity (word d)).2 with
              | false => rfl
              | true => simp

/-- A number's digits. -/
def itoaB (n : Int) : ByteArray := ⟨(Lib.itoa n).toArray⟩

/-! ### definitions as structs -/
structure Df where
  lab : D
  ps : List ByteArray
  bod : D
def encDf (d : Df) : PV := .agg [.int .i64 d.lab.kind, .int .i64 d.lab.num, .str d.lab.text, .slice (d.lab.kids.map enc), .slice (d.ps.map .str), .int .i64 d.bod.kind, .int .i64 d.bod.num, .str d.bod.text, .slice (d.bod.kids.map enc)]
@[go_sem] theorem encDf_cells (d : Df) : (encDf d).cells = [.int .i64 d.lab.kind, .int .i64 d.lab.num, .str d.lab.text, .slice (d.lab.kids.map enc), .slice (d.ps.map .str), .int .i64 d.bod.kind, .int .i64 d.bod.num, .str d.bod.text, .slice (d.bod.kids.map enc)] := rfl
@[go_sem] theorem allSz_df (l : List Df) : allSz 9 (l.map encDf) = true := by simp [allSz, encDf_cells]
@[go_sem] theorem nrm_df (d : Df) : (encDf d).nrm = encDf d := rfl
@[go_sem high] theorem seq_df (x : Df) : seqPV 9 0 [(0, AV.pv (encDf x))] = some [encDf x] := by simp [seqPV, toPV, atomToPV, nrm_df, encDf_cells]
theorem agg_df (a b : D) (p : List ByteArray) : PV.agg [.int .i64 a.kind, .int .i64 a.num, .str a.text, .slice (a.kids.map enc), .slice (p.map .str), .int .i64 b.kind, .int .i64 b.num, .str b.text, .slice (b.kids.map enc)] = encDf ⟨a, p, b⟩ := rfl
def toDf (d : D) : Df := ⟨d0 d.kids, nlist (names (d1 d.kids)), d2 d.kids⟩
def findI (l : List Df) (f : D) : Int := idxOf (fun d => deq d.lab f) l
/-- What is known of labels is what the definitions say. -/
def LP (l : List Df) (ps : List (D × Int)) : Prop := ∀ f, isLabel f = true → formed f = true → kpar ps f = (match l.find? fun d => deq d.lab f with | some d => ((d.ps.length : Int), true) | none => (0, false))
theorem LP.neg {l : List Df} {ps : List (D × Int)} (h : LP l ps) {f : D} (hf : isLabel f = true) (ff : formed f = true) (hn : findI l f < 0) : (kpar ps f).2 = false := by
  rw [h f hf ff, idxOf_neg hn]
theorem LP.pos {l : List Df} {ps : List (D × Int)} (h : LP l ps) {f : D} (hf : isLabel f = true) (ff : formed f = true) (hn : ¬ findI l f < 0) : 0 ≤ findI l f ∧ ∃ d, l[(findI l f).toNat]? = some d ∧ kpar ps f = ((d.ps.length : Int), true) := by
  obtain ⟨h0, d, h1, h2⟩ := idxOf_get hn
  refine ⟨h0, d, h1, ?_⟩
  rw [h f hf ff, h2]
end Go.Aw

/- Layer 17's specification (two): sizes, depths, expressions in order. No program is named. -/
namespace Go.Aw
open Go
theorem sizes_sum : ∀ l : List D, D.sizes l = (l.map D.size).sum
  | [] => rfl
  | d :: l => by simp [D.sizes, sizes_sum l]
theorem size_sum (d : D) : d.size = 1 + sumTo D.size d.kids d.kids.length := by rw [sumTo_all, D.size_kids, sizes_sum]
theorem deeps_snoc : ∀ (l : List D) (x : D), D.deeps (l ++ [x]) = max (D.deeps l) x.deep
  | [], x => by simp [D.deeps]
  | d :: l, x => by simp only [List.cons_append, D.deeps, deeps_snoc l x]; omega
theorem deep_kids (d : D) : d.deep = 1 + D.deeps d.kids := by cases d; rfl
theorem deeps_next {l : List D} {k : Nat} {x : D} (h : l[k]? = some x) : (if D.deeps (l.take k) < x.deep then ((x.deep : Nat) : Int) else ((D.deeps (l.take k) : Nat) : Int)) = ((D.deeps (l.take (k + 1)) : Nat) : Int) := by
  rw [take_next h, deeps_snoc]
  split <;> omega
/-- The first ones of a list, turned to data. -/
def outN {α : Type} (l : List α) (h : α → D) (k : Nat) : List D := (l.take k).map h
section
variable {α : Type} {l : List α} {h : α → D} {k : Nat} {x : α}
theorem outN_zero : outN l h 0 = [] := by simp [outN]
theorem outN_next (hx : l[k]? = some x) : outN l h (k + 1) = outN l h k ++ [h x] := by unfold outN; rw [take_next hx]; simp
theorem outN_all : outN l h l.length = l.map h := by unfold outN; rw [List.take_length]
theorem outN_len (hk : k ≤ l.length) : (outN l h k).length = k := by unfold outN; rw [List.length_map, List.length_take]; omega
end
def symsD (l : List ByteArray) : D := dlist (l.map dsym)

/-! ### expressions that have been checked -/
def GoodE (d : D) : Prop := formed d = true ∧ ∃ (ps : List (D × Int)) (b : List ByteArray), cexpr ps b d = 0
section
variable {d x : D} (h : GoodE d)
include h
theorem GoodE.ok : okE d = true := by obtain ⟨h1, ps, b, h2⟩ := h; exact okE_of d b h2 h1
theorem GoodE.part (hx : x ∈ parts d) : GoodE x := by
  obtain ⟨h1, ps, b, h2⟩ := h
  by_cases hk : d.kind = 3
  · obtain ⟨b', hb⟩ := cexpr_parts h2 hk x hx
    exact ⟨formed_kids h1 (parts_mem hx), ps, b', hb⟩
  · rw [parts_nil hk] at hx; simp at hx
theorem GoodE.head (hk : d.kind = 3) : d.head.kind = 2 ∧ d.kids ≠ [] := by
  obtain ⟨h1, ps, b, h2⟩ := h
  have := cexpr_list h2 hk
  exact ⟨this.2.1, this.1⟩
theorem GoodE.word (hk : d.kind = 3) : word d = d.head.text ∧ decide (Aw.word d = es) = false := by
  obtain ⟨hh, hn⟩ := h.head hk
  have hw := word_list hk hn hh
  refine ⟨hw, ?_⟩
  obtain ⟨x0, r, hx⟩ := kids_cons hn
  have hf0 : formed d.head = true := by rw [head_cons hx]; exact formed_kids h.1 (by rw [hx]; simp)
  rw [hw]; exact sEs_ne (formed_sym hf0 hh).2.2
theorem GoodE.kids : kidsR d = parts d := by
  by_cases hk : d.kind = 3
  · obtain ⟨hw, he⟩ := h.word hk
    unfold kidsR parts
    have e3 : (d.kind != 3) = false := by rw [hk]; rfl
    simp only [he, e3, Bool.false_eq_true, if_false]
    rw [hw]
  · rw [parts_nil hk]
    unfold kidsR
    rw [if_pos (by rw [word_none (.inl hk)]; rfl)]
theorem GoodE.two (hw : Aw.word d = sLet ∨ Aw.word d = sCall) : 2 ≤ d.kids.length := by
  have hk : d.kind = 3 := by
    refine Decidable.byContradiction fun e => ?_
    rw [word_none (.inl e)] at hw
    rcases hw with hw | hw <;> exact absurd hw (by decide)
  exact okE_two h.ok hk (by rw [← (h.word hk).1]; exact hw)
theorem GoodE.isCall : decide (Aw.word d = sCall) = Aw.isCall d := by
  unfold Aw.isCall
  by_cases hk : d.kind = 3
  · rw [(h.word hk).1, hk]; simp
  · rw [word_none (.inl hk)]
    have : (d.kind == 3) = false := by rw [beq_eq_false_iff_ne]; exact hk
    rw [this]; rfl
/-- What is called is a label. -/
theorem GoodE.label (hc : Aw.isCall d = true) : 2 ≤ d.kids.length ∧ isLabel (d1 d.kids) = true ∧ formed (d1 d.kids) = true := by
  obtain ⟨hk, ht⟩ := isCall_iff.1 hc
  obtain ⟨h1, ps, b, h2⟩ := h
  obtain ⟨_, _, hc⟩ := cexpr_list h2 hk
  rcases hc with ⟨e, _⟩ | ⟨e, _⟩ | ⟨e, _⟩ | ⟨_, hc⟩ | ⟨_, _, _, e, _⟩
  · rw [ht] at e; exact absurd e sC_ne_Q
  · rw [ht] at e; exact absurd e.symm sI_ne_C
  · rw [ht] at e; exact absurd e sC_ne_L
  · obtain ⟨h3, h4, _⟩ := ccall_zero hc
    refine ⟨h3, h4, formed_kids h1 ?_⟩
    obtain ⟨x1, hx1, hm⟩ := get_lt (l := d.kids) (k := 1) (by omega)
    rw [show d1 d.kids = x1 from getD_of hx1]; exact hm
  · exact absurd ht e
end
theorem Right.good {p d : D} (R : Right p) (hd : d ∈ p.kids) : GoodE (d2 d.kids) := ⟨R.bodyF hd, _, _, R.body hd⟩

/-! ### the expressions in one, in order -/
mutual
def exprsL : D → List D
  | .mk k n t l => .mk k n t l :: exprsLs (pdrop (.mk k n t l)) l
def exprsLs : Nat → List D → List D
  | _, [] => []
  | 0, x :: l => exprsL x ++ exprsLs 0 l
  | i + 1, _ :: l => exprsLs i l
end
theorem exprsLs_drop : ∀ (i : Nat) (l : List D), exprsLs i l = (l.drop i).flatMap exprsL
  | 0, [] => rfl
  | i + 1, [] => rfl
  | 0, x :: l => by rw [exprsLs, exprsLs_drop 0 l]; rfl
  | i + 1, x :: l => by rw [exprsLs, exprsLs_drop i l]; rfl
theorem exprsL_eq (d : D) : exprsL d = d :: (parts d).flatMap exprsL := by
  rw [parts_drop]
  cases d
  rw [exprsL, exprsLs_drop]
  rfl
end Go.Aw
namespace Go.Aw
open Go
section
variable {σ : Store} {k n m : Nat} {e : TypeId} {sz : Nat}
end
end Go.Aw
namespace Go.Aw
open Go
end Go.Aw

/- Layer 17's specification (three): labels as strings, the definitions. No program is named. -/
namespace Go.Aw
open Go
/-! ### digits -/
def dval (l : List UInt8) : Nat := l.foldl (fun a c => a * 10 + (c.toNat - 48)) 0
theorem digit_nat {n : Nat} (h : n < 10) : (UInt8.ofNat (48 + n)).toNat = 48 + n := by
  rw [UInt8.toNat_ofNat']; omega
theorem dval_dec : ∀ u : Nat, dval (Lib.decDigits u) = u := by
  intro u
  induction u using Nat.strongRecOn with
  | _ u ih =>
    rw [Lib.decDigits]
    split
    · rename_i h
      simp only [dval, List.foldl_cons, List.foldl_nil, digit_nat h]; omega
    · rename_i h
      have := ih (u / 10) (by omega)
      simp only [dval] at this ⊢
      rw [List.foldl_append, this]
      simp only [List.foldl_cons, List.foldl_nil, digit_nat (Nat.mod_lt u (by omega : 10 > 0))]
      omega
theorem dec_head : ∀ u : Nat, ∃ (c : UInt8) (r : List UInt8), Lib.decDigits u = c :: r ∧ 48 ≤ c.toNat ∧ c.toNat ≤ 57 := by
  intro u
  induction u using Nat.strongRecOn with
  | _ u ih =>
    rw [Lib.decDigits]
    split
    · rename_i h
      exact ⟨_, [], rfl, by rw [digit_nat h]; omega, by rw [digit_nat h]; omega⟩
    · obtain ⟨c, r, h1, h2, h3⟩ := ih (u / 10) (by omega)
      exact ⟨c, r ++ _, by rw [h1]; rfl, h2, h3⟩
theorem itoa_nat {n : Int} (h : 0 ≤ n) : Lib.itoa n = Lib.decDigits n.toNat := by unfold Lib.itoa; rw [if_neg (by omega)]
theorem itoaB_inj {n m : Int} (hn : 0 ≤ n) (hm : 0 ≤ m) (h : itoaB n = itoaB m) : n = m := by
  unfold itoaB at h
  have h1 : Lib.itoa n = Lib.itoa m := by
    have := congrArg (fun b : ByteArray => b.data.toList) h
    simpa using this
  rw [itoa_nat hn, itoa_nat hm] at h1
  have h2 := congrArg dval h1
  rw [dval_dec, dval_dec] at h2
  omega
theorem itoaB_digit {n : Int} (hn : 0 ≤ n) : isDigit (bt (itoaB n) 0) = true := by
  obtain ⟨c, r, h1, h2, h3⟩ := dec_head n.toNat
  have : bt (itoaB n) 0 = (c.toNat : Int) := by
    unfold itoaB
    rw [itoa_nat hn, h1]
    rfl
  rw [this]
  unfold isDigit
  rw [decide_eq_true (by omega), decide_eq_true (by omega)]; rfl
theorem sym_digit {lt : Int → Bool} {s : ByteArray} (h : isSym lt s = true) : isDigit (bt s 0) = false := by
  unfold isSym at h
  simp only [Bool.and_eq_true, Bool.not_eq_true', Bool.or_eq_false_iff] at h
  exact h.1.1.2

/-! ### a label as a string -/
def keyS (d : D) : ByteArray := if (d.kind == 2) = true then d.text else itoaB d.num
theorem label_num {d : D} (h : isLabel d = true) (hk : d.kind = 1) : 0 ≤ d.num ∧ d.num ≤ 2147483647 := by
  unfold isLabel at h
  rw [if_pos (by rw [hk]; rfl)] at h
  simpa using h
theorem label_range {d : D} (h : isLabel d = true) (hf : formed d = true) : 0 ≤ d.num ∧ d.num ≤ 2147483647 := by
  rcases isLabel_kind h with hk | hk
  · exact label_num h hk
  · rw [(formed_sym hf hk).1]; omega
theorem keyS_kq {a b : D} (ha : isLabel a = true) (hb : isLabel b = true) (fa : formed a = true) (fb : formed b = true) : decide (keyS a = keyS b) = kq a b := by
  cases hq : kq a b with
  | true => rw [label_eq ha hb fa fb hq]; simp
  | false =>
    rw [decide_eq_false_iff_not]
    intro h
    have hne : ¬ a = b := fun e => by rw [e, kq_refl] at hq; cases hq
    unfold keyS at h
    rcases isLabel_kind ha with ka | ka <;> rcases isLabel_kind hb with kb | kb
    · rw [if_neg (by rw [ka]; decide), if_neg (by rw [kb]; decide)] at h
      have := itoaB_inj (label_num ha ka).1 (label_num hb kb).1 h
      exact hne (D.ext' (ka.trans kb.symm) this ((formed_num fa ka).1.trans (formed_num fb kb).1.symm) ((formed_num fa ka).2.trans (formed_num fb kb).2.symm))
    · rw [if_neg (by rw [ka]; decide), if_pos (by rw [kb]; rfl)] at h
      have h1 := sym_digit (formed_sym fb kb).2.2
      rw [← h, itoaB_digit (label_num ha ka).1] at h1; cases h1
    · rw [if_pos (by rw [ka]; rfl), if_neg (by rw [kb]; decide)] at h
      have h1 := sym_digit (formed_sym fa ka).2.2
      rw [h, itoaB_digit (label_num hb kb).1] at h1; cases h1
    · rw [if_pos (by rw [ka]; rfl), if_pos (by rw [kb]; rfl)] at h
      exact hne (D.ext' (ka.trans kb.symm) ((formed_sym fa ka).1.trans (formed_sym fb kb).1.symm) h ((formed_sym fa ka).2.1.trans (formed_sym fb kb).2.1.symm))

/-! ### a set of strings -/
def sK (ps : List (D × Int)) : List PV := ps.map fun p => .str (keyS p.1)
def sV (ps : List (D × Int)) : List PV := ps.map fun _ => .bool true
theorem kfind_sK (x : ByteArray) : ∀ ps : List (D × Int), kfind (.str x) (sK ps) = ps.findIdx? fun p => decide (x = keyS p.1)
  | [] => rfl
  | p :: r => by
    have hk : (PV.str x).keq (.str (keyS p.1)) = decide (x = keyS p.1) := by simp [PV.keq, pvAtomEq]
    have ih := kfind_sK x r
    simp only [sK] at ih
    simp only [sK, List.map_cons, kfind, List.findIdx?_cons, hk, ih]
theorem sK_fits (ps : List (D × Int)) : (sK ps).all (KS.fits (.one .str)) = true := by
  simp only [sK, List.all_map, List.all_eq_true]
  intro p _; rfl
section
variable {ty : TyT} {s : St} {t kt et : TypeId} {ti te tk : TyI} {o : Nat} {ps : List (D × Int)}
theorem look_str (h : ty t = some ti) (hk : ti.kind = .map kt et) (h1 : ty et = some te) (h2 : ty kt = some tk) (h3 : tk.ks = some (.one .str)) (h4 : te.kind = .bool) (h5 : te.zero = [.bool false]) (ho : s.σ.objs[o]? = some (.map (sK ps) (sV ps))) (x : ByteArray) :
    lookAV ty s t (.map o) (.pv (.str x)) false = some (.pv (.bool (ps.any fun p => decide (x = keyS p.1)))) := by
  have hko : keyOk ty kt (.str x) (sK ps) = true := by
    simp only [keyOk, h2, h3, sK_fits, Bool.and_true]; rfl
  simp only [lookAV, h, hk, h1, mapOf, ho, toPV, atomToPV, Option.map_some, PV.nrm, hko, kfind_sK]
  cases hj : ps.findIdx? fun p => decide (x = keyS p.1) with
  | none =>
    have : (ps.any fun p => decide (x = keyS p.1)) = false := by
      rw [List.findIdx?_eq_none_iff] at hj
      rw [List.any_eq_false]
      intro p hp; simp [hj p hp]
    simp [this, okAV, zeroAV, h4, h5, TyK.agg]
  | some j =>
    rw [List.findIdx?_eq_some_iff_getElem] at hj
    obtain ⟨h6, h7, _⟩ := hj
    have : (ps.any fun p => decide (x = keyS p.1)) = true := List.any_eq_true.2 ⟨_, List.getElem_mem h6, h7⟩
    simp [this, okAV, sV, h6]
theorem put_str (h : ty t = some ti) (hk : ti.kind = .map kt et) (h2 : ty kt = some tk) (h3 : tk.ks = some (.one .str)) (ho : s.σ.objs[o]? = some (.map (sK ps) (sV ps))) (x : ByteArray) (hn : (ps.any fun p => decide (x = keyS p.1)) = false) :
    putAV ty s t (.map o) (.pv (.str x)) (.pv (.bool true)) = some { s.σ with objs := s.σ.objs.set o (.map (sK ps ++ [.str x]) (sV ps ++ [.bool true])) } := by
  have hko : keyOk ty kt (.str x) (sK ps) = true := by
    simp only [keyOk, h2, h3, sK_fits, Bool.and_true]; rfl
  have hf : kfind (.str x) (sK ps) = none := by
    rw [kfind_sK, List.findIdx?_eq_none_iff]
    intro p hp
    have := List.any_eq_false.1 hn p hp
    simpa using this
  simp only [putAV, h, hk, ho, toPV, atomToPV, Option.map_some, PV.nrm, hko, kput, hf]
end
/-- Labels that are right. -/
def LabOk (ps : List (D × Int)) : Prop := ∀ q, q ∈ ps → isLabel q.1 = true ∧ formed q.1 = true
theorem kpar_any (ps : List (D × Int)) (d : D) : (kpar ps d).2 = ps.any fun q => kq d q.1 := by
  unfold kpar kget
  cases h : ps.find? fun q => kq d q.1 with
  | none =>
    rw [List.find?_eq_none] at h
    have : (ps.any fun q => kq d q.1) = false := by rw [List.any_eq_false]; exact h
    rw [this]; rfl
  | some q =>
    have h1 := List.find?_some h
    have : (ps.any fun q => kq d q.1) = true := List.any_eq_true.2 ⟨q, List.mem_of_find?_eq_some h, h1⟩
    rw [this]; rfl
theorem seen_kpar {ps : List (D × Int)} (h : LabOk ps) {d : D} (hl : isLabel d = true) (hf : formed d = true) : (ps.any fun q => decide (keyS d = keyS q.1)) = (kpar ps d).2 := by
  rw [kpar_any]
  induction ps with
  | nil => rfl
  | cons q r ih =>
    rw [List.any_cons, List.any_cons, ih (fun q hq => h q (by simp [hq])), keyS_kq hl (h q (by simp)).1 hf (h q (by simp)).2]
theorem kset_new {ps : List (D × Int)} {d : D} {v : Int} (h : (kpar ps d).2 = false) : kset ps d v = ps ++ [(d, v)] := by
  rw [kpar_any] at h
  induction ps with
  | nil => rfl
  | cons q r ih =>
    simp only [List.any_cons, Bool.or_eq_false_iff] at h
    rw [kset, if_neg (by rw [h.1]; decide), ih h.2]; rfl
theorem sK_snoc {ps : List (D × Int)} {d : D} {v : Int} : sK (ps ++ [(d, v)]) = sK ps ++ [.str (keyS d)] := by simp [sK]
theorem sV_snoc {ps : List (D × Int)} {d : D} {v : Int} : sV (ps ++ [(d, v)]) = sV ps ++ [.bool true] := by simp [sV]

/-! ### a store with the set and the list of definitions -/
def withS (σ : Store) (ps : List (D × Int)) (e : TypeId) (n : Nat) : Store := { σ with objs := σ.objs ++ [.map (sK ps) (sV ps)], toks := σ.toks ++ [⟨n, e, 9⟩] }
section
variable {σ : Store} {ps ps' : List (D × Int)} {e : TypeId} {n m : Nat}
theorem withS_get : (withS σ ps e n).objs[σ.objs.length]? = some (.map (sK ps) (sV ps)) := by simp [withS]
theorem withS_tok : (withS σ ps e n).toks[σ.toks.length]? = some ⟨n, e, 9⟩ := by simp [withS]
theorem withS_cut : (withS σ ps e n).cut (σ.objs.length + 1) (σ.toks.length + 1) = withS σ ps e n := by simp [withS, Store.cut, List.take_of_length_le]
theorem withS_mem {ob : AObj} {nt nl : Nat} (h : ob ∈ (withS σ ps e n).objs) : ob ∈ σ.objs ∨ ob.clo (σ.objs.length + 1) nt nl = true := by
  simp only [withS, List.mem_append, List.mem_cons, List.not_mem_nil, or_false] at h
  rcases h with h | rfl
  · exact .inl h
  · exact .inr rfl
end
/-! ### the definitions -/
def rdefs (p : D) : List Df := if (fcheck p != 0) = true then [] else p.kids.map toDf
def dfK (l : List D) (k : Nat) : List Df := (l.take k).map toDf
theorem dfK_zero {l : List D} : dfK l 0 = [] := by simp [dfK]
theorem dfK_next {l : List D} {k : Nat} {x : D} (h : l[k]? = some x) : dfK l (k + 1) = dfK l k ++ [toDf x] := by unfold dfK; rw [take_next h]; simp
theorem dfK_all {l : List D} : dfK l l.length = l.map toDf := by unfold dfK; rw [List.take_length]
theorem dfK_len {l : List D} {k : Nat} (h : k ≤ l.length) : (dfK l k).length = k := by unfold dfK; rw [List.length_map, List.length_take]; omega
theorem kidsOf_no1 {d : D} (h : (d.kind != 3) = true) : kidsOf d 3 false = none := by unfold kidsOf; rw [if_pos]; rw [h]; rfl
theorem kidsOf_no2 {d : D} (h : ((d.kids.length : Int) != 3) = true) : kidsOf d 3 false = none := by
  unfold kidsOf
  rw [if_pos]
  simp only [bne_iff_ne] at h
  by_cases h1 : (d.kids.length : Int) < 3
  · simp [h1]
  · have : (3 : Int) < d.kids.length := by omega
    simp [this]
theorem kidsOf_yes {d : D} (h1 : (d.kind != 3) = false) (h2 : ((d.kids.length : Int) != 3) = false) : ∃ x0 x1 x2, d.kids = [x0, x1, x2] ∧ kidsOf d 3 false = some [x0, x1, x2] := by
  simp only [bne_eq_false_iff_eq] at h2
  have hl : d.kids.length = 3 := by omega
  match hk : d.kids, hl with
  | [x0, x1, x2], _ =>
    refine ⟨x0, x1, x2, rfl, ?_⟩
    unfold kidsOf
    rw [if_neg, hk]
    rw [h1, hk]; simp
theorem form_two {d : D} (hf : form d = true) (hw : word d = sLet ∨ word d = sCall) : 2 ≤ d.kids.length := by
  have hk : d.kind = 3 := by
    refine Decidable.byContradiction fun e => ?_
    rw [word_none (.inl e)] at hw
    rcases hw with hw | hw <;> exact absurd hw (by decide)
  unfold form at hf
  have e1 : (d.kind == 1) = false := by rw [hk]; rfl
  have e2 : (d.kind == 2) = false := by rw [hk]; rfl
  rcases hw with hw | hw
  · have a1 : decide (word d = es) = false := by rw [hw]; decide
    have a2 : decide (word d = sQuote) = false := by rw [hw]; decide
    have a3 : decide (word d = sIf) = false := by rw [hw]; decide
    have a4 : decide (word d = sLet) = true := by rw [hw]; decide
    simp only [e1, e2, a1, a2, a3, a4, Bool.false_eq_true, if_false, if_true, Bool.and_eq_true, beq_iff_eq] at hf
    omega
  · have a1 : decide (word d = es) = false := by rw [hw]; decide
    have a2 : decide (word d = sQuote) = false := by rw [hw]; decide
    have a3 : decide (word d = sIf) = false := by rw [hw]; decide
    have a4 : decide (word d = sLet) = false := by rw [hw]; decide
    have a5 : decide (word d = sCall) = true := by rw [hw]; decide
    simp only [e1, e2, a1, a2, a3, a4, a5, Bool.false_eq_true, if_false, if_true, Bool.and_eq_true, decide_eq_true_eq] at hf
    omega
theorem form_call {d : D} (hf : form d = true) (ff : formed d = true) (hw : word d = sCall) : isLabel (d1 d.kids) = true ∧ formed (d1 d.kids) = true := by
  have h2 := form_two hf (.inr hw)
  obtain ⟨x1, hx1, hm⟩ := get_lt (l := d.kids) (k := 1) (by omega)
  have hd1 : d1 d.kids = x1 := getD_of hx1
  have hf1 : formed (d1 d.kids) = true := by rw [hd1]; exact formed_kids ff hm
  refine ⟨?_, hf1⟩
  have hk : d.kind = 3 := by
    refine Decidable.byContradiction fun e => ?_
    rw [word_none (.inl e)] at hw
    exact absurd hw (by decide)
  unfold form at hf
  have e1 : (d.kind == 1) = false := by rw [hk]; rfl
  have e2 : (d.kind == 2) = false := by rw [hk]; rfl
  have a1 : decide (word d = es) = false := by rw [hw]; decide
  have a2 : decide (word d = sQuote) = false := by rw [hw]; decide
  have a3 : decide (word d = sIf) = false := by rw [hw]; decide
  have a4 : decide (word d = sLet) = false := by rw [hw]; decide
  have a5 : decide (word d = sCall) = true := by rw [hw]; decide
  simp only [e1, e2, a1, a2, a3, a4, a5, Bool.false_eq_true, if_false, if_true, Bool.and_eq_true, decide_eq_true_eq] at hf
  rw [← rlabel_eq hf1]; exact hf.2
theorem inb_no {b : List ByteArray} {d : D} {k : Nat} (h : decide (word d = sLet) = false) : inb b d k = b := by unfold inb; rw [h]; rfl
theorem inb_other {b : List ByteArray} {d : D} {k : Nat} (h : ((k : Int) == 1) = false) : inb b d k = b := by unfold inb; rw [h]; simp
theorem inb_yes {b : List ByteArray} {d : D} {k : Nat} (h : decide (word d = sLet) = true) (hk : ((k : Int) == 1) = true) : inb b d k = b ++ [(d1 d.kids).text] := by unfold inb; rw [h, hk]; rfl
theorem get_d1 {l : List D} (h : 2 ≤ l.length) : l[1]? = some (d1 l) := by
  obtain ⟨x, hx, _⟩ := get_lt (l := l) (k := 1) (by omega)
  rw [hx, show d1 l = x from getD_of hx]
theorem inb_len (b : List ByteArray) (d : D) (k : Nat) : (inb b d k).length ≤ b.length + 1 := by unfold inb; split <;> simp
theorem kidsR_len (d : D) : (kidsR d).length ≤ d.kids.length := by
  unfold kidsR
  split
  · simp
  · split
    · simp
    · split
      · simp
      · split <;> simp
theorem kidsR_mem {d x : D} (h : x ∈ kidsR d) : x ∈ d.kids := by
  unfold kidsR at h
  split at h
  · simp at h
  · split at h
    · simp at h
    · split at h
      · exact List.mem_of_mem_drop h
      · split at h <;> exact List.mem_of_mem_drop h
end Go.Aw
namespace Go.Aw
open Go
theorem LabOk.kset {ps : List (D × Int)} (h : LabOk ps) {d : D} {v : Int} (hl : isLabel d = true) (hf : formed d = true) (hn : (kpar ps d).2 = false) : LabOk (kset ps d v) := by
  rw [kset_new hn]
  intro q hq
  simp only [List.mem_append, List.mem_singleton] at hq
  rcases hq with hq | rfl
  · exact h q hq
  · exact ⟨hl, hf⟩
theorem toDf_of {d x0 x1 x2 : D} {ns : List ByteArray} (hk : d.kids = [x0, x1, x2]) (hn : names x1 = some ns) : toDf d = ⟨x0, ns, x2⟩ := by
  have h0 : d0 d.kids = x0 := by rw [hk]; rfl
  have h1 : d1 d.kids = x1 := by rw [hk]; rfl
  have h2 : d2 d.kids = x2 := by rw [hk]; rfl
  unfold toDf
  rw [h0, h1, h2, hn]; rfl
theorem lp_of {p : D} (hh : (heads p).1 = 0) : LP (p.kids.map toDf) (heads p).2 := by
  intro f hf ff
  obtain ⟨hdc, hk3, hne, _, he⟩ := heads_ok hh
  have hfp := dcheck_formed hdc
  have h := hh
  rw [he] at h
  rw [he, (headsGo_apart h).2.2 f]
  have key : ∀ l : List D, (∀ d, d ∈ l → d ∈ p.kids) → (match l.find? fun d => kq f d.head with | some d => (((nlist (names (d1 d.kids))).length : Int), true) | none => (0, false)) = (match (l.map toDf).find? fun d => deq d.lab f with | some d => ((d.ps.length : Int), true) | none => (0, false)) := by
    intro l
    induction l with
    | nil => intro _; rfl
    | cons y l ih =>
      intro hl
      obtain ⟨x0, x1, x2, ns, hk, _, hlab, hns, _⟩ := def_ok hh (hl y (by simp))
      have hyh : y.head = x0 := head_cons hk
      have hyf : formed x0 = true := formed_kids (formed_kids hfp (hl y (by simp))) (by rw [hk]; simp)
      have e : deq (toDf y).lab f = kq f y.head := by
        rw [toDf_of hk hns, hyh]
        show deq x0 f = kq f x0
        cases hq : kq f x0 with
        | true => rw [label_eq hf hlab ff hyf hq, deq_refl]
        | false =>
          cases hd : deq x0 f with
          | false => rfl
          | true => rw [deq_of hd, kq_refl] at hq; cases hq
      rw [List.map_cons, List.find?_cons, List.find?_cons, e]
      cases kq f y.head with
      | true => rfl
      | false => exact ih fun d hd => hl d (by simp [hd])
  exact key _ fun _ h => h
theorem dfs_small {p : D} (hh : (heads p).1 = 0) (hp : p.size ≤ 1000000000) : ∀ x, x ∈ p.kids.map toDf → x.lab.size ≤ 1000000000 ∧ x.ps.length ≤ 1000000000 := by
  intro x hx
  obtain ⟨d, hd, rfl⟩ := List.mem_map.1 hx
  obtain ⟨x0, x1, x2, ns, hk, _, _, hns, h8⟩ := def_ok hh hd
  rw [toDf_of hk hns]
  have h1 := D.size_kid_lt hd
  have h2 := D.size_kid_lt (d := d) (k := x0) (by rw [hk]; simp)
  exact ⟨by show x0.size ≤ _; omega, by show ns.length ≤ _; omega⟩
end Go.Aw

/- Layer 17 (four): what Main, Labels, Def, Calls, Same give. No program is named. -/
namespace Go.Aw
open Go
def pars (d : D) : List ByteArray := textsL (d1 d.kids).kids
def fLabels (p : D) : List D × Int := if (fcheck p != 0) = true then ([], fcheck p) else (p.kids.map D.head, 0)
def fSame (p q : D) : Bool × Int := if ((fcanon p).2 != 0) = true then (false, (fcanon p).2) else ((fcanon q).2 == 0 && deq (fcanon p).1 (fcanon q).1, (fcanon q).2)
theorem namesGo_texts : ∀ {l : List D} {acc ns : List ByteArray}, namesGo acc l = some ns → ns = acc ++ textsL l
  | [], acc, ns, h => by simp [namesGo] at h; subst h; simp [textsL]
  | x :: l, acc, ns, h => by
    rw [namesGo] at h
    split at h
    · cases h
    · split at h
      · cases h
      · rw [namesGo_texts h]; simp [textsL]
theorem names_texts {d : D} {ns : List ByteArray} (h : names d = some ns) : ns = textsL d.kids := by
  unfold names at h
  split at h
  · cases h
  · have := namesGo_texts h
    simpa using this
theorem dlist_kids (l : List D) : (dlist l).kids = l := rfl
end Go.Aw

/- A field of a struct that is a value. No program is named. -/
namespace Go.Aw
open Go
variable {P : Program} {ty : TyT} {σ0 : Store} {N : Nat} {s : St} {o : Oper} {os : List Oper} {ops : Array Oper} {K : St → Prop}
end Go.Aw

/- Layer 17 (five): the program's answers and the specification's. No program is named. -/
namespace Go.Aw
open Go
section
variable {p d : D} (R : Right p)
include R
theorem Right.no : (fcheck p != 0) = false := by rw [R.chk]; rfl
theorem Right.rdefs : rdefs p = p.kids.map toDf := by unfold Aw.rdefs; rw [if_neg (by rw [R.no]; decide)]
theorem Right.df (hd : d ∈ p.kids) : ∃ x0 x1 x2 ns, d.kids = [x0, x1, x2] ∧ names x1 = some ns ∧ toDf d = ⟨x0, ns, x2⟩ ∧ d.head = x0 ∧ pars d = ns ∧ d2 d.kids = x2 ∧ ns.length ≤ 8 := by
  obtain ⟨x0, x1, x2, ns, hk, _, _, hn, h8⟩ := R.def hd
  refine ⟨x0, x1, x2, ns, hk, hn, toDf_of hk hn, head_cons hk, ?_, by rw [hk]; rfl, h8⟩
  unfold pars
  rw [show d1 d.kids = x1 by rw [hk]; rfl, names_texts hn]
theorem Right.len : (Aw.rdefs p).length ≤ 4000 := by rw [R.rdefs, List.length_map]; exact (heads_ok R.heads).2.2.2.1
theorem Right.labels : (fLabels p).1 = (Aw.rdefs p).map Df.lab := by
  unfold fLabels
  rw [if_neg (by rw [R.no]; decide), R.rdefs, List.map_map]
  refine List.map_congr_left fun x hx => ?_
  obtain ⟨x0, x1, x2, ns, hkk, hn, ht, hh, _⟩ := R.df hx
  show x.head = (toDf x).lab
  rw [ht, hh]
theorem Right.size : (fSize p).1 = ((((Aw.rdefs p).map fun d => fsize d.bod).sum : Nat) : Int) := by
  unfold fSize
  rw [if_neg (by rw [R.no]; decide), R.rdefs, List.map_map]
  rfl
end
end Go.Aw

/- Layer 17's specification (six): calls, what is reached. No program is named. -/
namespace Go.Aw
open Go
theorem deq_kq {a b : D} (ha : isLabel a = true) (hb : isLabel b = true) (fa : formed a = true) (fb : formed b = true) : deq a b = kq b a := by
  cases hq : kq b a with
  | true => rw [label_eq hb ha fb fa hq, deq_refl]
  | false =>
    cases hd : deq a b with
    | false => rfl
    | true => rw [deq_of hd, kq_refl] at hq; cases hq

/-! ### calls -/
def cstep (out : List D) (e : D) : List D := if (isCall e && !(out.any fun y => deq y (d1 e.kids))) = true then out ++ [d1 e.kids] else out
def crK (d : D) (k : Nat) : List D := ((exprsL d).take k).foldl cstep []
theorem crK_all {d : D} : crK d (exprsL d).length = (exprsL d).foldl cstep [] := by unfold crK; rw [List.take_length]
structure CI (st : CS) : Prop where
  lab : ∀ y, y ∈ st.1 → isLabel y = true ∧ formed y = true
  seen : ∀ f, isLabel f = true → formed f = true → seenB st.2 f = st.1.any fun y => deq y f
theorem callStep_ci {d : D} (hg : GoodE d) {st : CS} (h : CI st) : (callStep d st).1 = cstep st.1 d ∧ CI (callStep d st) := by
  unfold callStep cstep
  cases hc : isCall d with
  | false => simp only [Bool.false_and, Bool.false_eq_true, if_false]; exact ⟨trivial, h⟩
  | true =>
    obtain ⟨_, hl, hf⟩ := hg.label hc
    rw [h.seen _ hl hf]
    cases hs : st.1.any fun y => deq y (d1 d.kids) with
    | true => simp only [Bool.not_true, Bool.and_false, Bool.false_eq_true, if_false]; exact ⟨trivial, h⟩
    | false =>
      simp only [Bool.not_false, Bool.and_self, if_true]
      refine ⟨trivial, ⟨fun y hy => ?_, fun f h1 h2 => ?_⟩⟩
      · simp only [List.mem_append, List.mem_singleton] at hy
        rcases hy with hy | rfl
        · exact h.lab y hy
        · exact ⟨hl, hf⟩
      · rw [seenB_kset, h.seen f h1 h2, List.any_append]
        simp only [List.any_cons, List.any_nil, Bool.or_false]
        rw [deq_kq hl h1 hf h2, Bool.or_comm]
theorem calls_fold : ∀ {d : D} {st : CS}, GoodE d → CI st → (callsD d st).1 = (exprsL d).foldl cstep st.1 ∧ CI (callsD d st) := by
  intro d
  induction d using D.ind with
  | _ k n t l ih =>
    intro st hg hc
    have hf : ∀ (r : List D) (st : CS), (∀ x, x ∈ r → x ∈ parts (.mk k n t l)) → CI st → (r.foldl (fun st x => callsD x st) st).1 = (r.flatMap exprsL).foldl cstep st.1 ∧ CI (r.foldl (fun st x => callsD x st) st) := by
      intro r
      induction r with
      | nil => intro st _ h; exact ⟨rfl, h⟩
      | cons x r ihr =>
        intro st hm h
        have h1 := ih x (parts_mem (hm x (by simp))) (st := st) (hg.part (hm x (by simp))) h
        have h2 := ihr (callsD x st) (fun y hy => hm y (by simp [hy])) h1.2
        rw [List.foldl_cons, List.flatMap_cons, List.foldl_append, ← h1.1]
        exact h2
    have h1 := callStep_ci hg hc
    have h2 := hf (parts (.mk k n t l)) (callStep (.mk k n t l) st) (fun _ h => h) h1.2
    rw [callsD_eq, exprsL_eq, List.foldl_cons, ← h1.1]
    exact h2
theorem ci_nil : CI ([], []) := ⟨fun y hy => by simp at hy, fun f _ _ => rfl⟩
theorem crK_calls {d : D} (hg : GoodE d) : crK d (exprsL d).length = callsOf d := by rw [crK_all]; exact (calls_fold hg ci_nil).1.symm
theorem callsOf_lab {d : D} (hg : GoodE d) : ∀ y, y ∈ callsOf d → isLabel y = true ∧ formed y = true := (calls_fold hg ci_nil).2.lab
section
variable {p x : D} (R : Right p)
include R
theorem Right.findI (hx : x ∈ p.kids) : 0 ≤ findI (Aw.rdefs p) x.head ∧ (Aw.rdefs p)[(Aw.findI (Aw.rdefs p) x.head).toNat]? = some (toDf x) := by
  have hfind : (Aw.rdefs p).find? (fun d => deq d.lab x.head) = some (toDf x) := by
    rw [R.rdefs]
    have hs := find_self R.apart hx
    have key : ∀ l : List D, (∀ d, d ∈ l → d ∈ p.kids) → (l.map toDf).find? (fun d => deq d.lab x.head) = (l.find? fun d => deq d.head x.head).map toDf := by
      intro l
      induction l with
      | nil => intro _; rfl
      | cons y l ih =>
        intro hl
        obtain ⟨x0, x1, x2, ns, hkk, hn, ht, hh, _⟩ := R.df (hl y (by simp))
        rw [List.map_cons, List.find?_cons, List.find?_cons, ih fun d hd => hl d (by simp [hd])]
        have e : deq (toDf y).lab x.head = deq y.head x.head := by rw [ht, hh]
        rw [e]
        cases deq y.head x.head <;> rfl
    rw [key _ fun _ h => h, hs]; rfl
  have hn : ¬ Aw.findI (Aw.rdefs p) x.head < 0 := fun h => by
    have := idxOf_neg h
    rw [hfind] at this; cases this
  obtain ⟨h0, d, h1, h2⟩ := idxOf_get hn
  rw [hfind] at h2
  cases h2
  exact ⟨h0, h1⟩
theorem Right.head_size (hx : x ∈ p.kids) : x.head.size ≤ 900000000 := by
  obtain ⟨x0, x1, x2, ns, hkk, _, _, hh, _⟩ := R.df hx
  have h1 := D.size_kid_lt hx
  have h2 := D.size_kid_lt (d := x) (k := x0) (by rw [hkk]; simp)
  have := R.sz
  rw [hh]; omega
end
end Go.Aw
namespace Go.Aw
open Go
section
variable {p y0 : D} (R : Right p)
include R
theorem Right.first : ∃ y0, (Aw.rdefs p)[0]? = some (toDf y0) ∧ rst p 0 = ([y0], [(y0.head, true)]) ∧ (toDf y0).lab = y0.head := by
  obtain ⟨y, r, hk⟩ := kids_cons R.ne
  obtain ⟨x0, x1, x2, ns, hkk, hns, htd, hxh, _⟩ := R.df (d := y) (by rw [hk]; simp)
  refine ⟨y, by rw [R.rdefs, hk]; rfl, ?_, by rw [htd, hxh]⟩
  show ([p.head], [(p.head.head, true)]) = _
  rw [head_cons hk]
end
end Go.Aw

/- Runs that are told whole: an evaluation of a function at given values, and that the machine's call gives what it gives. No program is named. -/
namespace Go.Aw
open Go
structure Cfg where
  P : Program
  ty : TyT
  sh : FuncId → List Tmp
  dm : FuncId → Nat → Nat × List Nat × Bool
  ca : FuncId → Bool
  orc : FuncId → List AV → Option AV

inductive Gate where
  | on | off | bad

def gateOf (ops : Array Oper) (o : Oper) (T : List (Nat × AV)) : Gate :=
  match o.guard with
  | none => .on
  | some _ => match guardTmp ops o with
    | some (d, want) => match Aw.get T d with
      | .pv (.bool b) => match b, want with
        | true, true => .on
        | false, false => .on
        | _, _ => .off
      | .tuple [] => .off
      | _ => .bad
    | none => .bad

def callOf (s : St) (o : Oper) : Option (FuncId × List AV) :=
  match o.op with
  | .call c => match c.callee with
    | .value fo => match ev s fo with
      | .func (.func f) caps => some (f, c.args.toList.map (ev s) ++ caps)
      | _ => none
    | _ => none
  | _ => none

def lower1 (x : AV) : AV := match toPV x with
  | some p => .pv p
  | none => x
def lowerT : AV → AV
  | .tuple xs => .tuple (xs.map lower1)
  | x => lower1 x
def cloT (no nt : Nat) : AV → Bool
  | .tuple xs => AV.clos no nt 0 xs
  | x => x.clo no nt 0

/-- What is left of a call's store. -/
def finR (σ : Store) (r : AV) (σ' : Store) : AV × Store :=
  match cloT σ.objs.length σ.toks.length (lowerT r) && (σ'.objs.take σ.objs.length).all (AObj.clo σ.objs.length σ.toks.length 0) with
  | true => (lowerT r, { σ'.cut σ.objs.length σ.toks.length with gl := σ.gl })
  | false => (r, { σ' with gl := σ.gl })

def isFin : Exit → Bool
  | .normal => true
  | .ret => true
  | _ => false

mutual
def evF (C : Cfg) : Nat → FuncId → List AV → Store → Option (AV × Store)
  | 0, _, _, _ => none
  | n + 1, f, args, σ => match C.orc f args with
    | some r => some (r, σ)
    | none => match C.P.funcs[f]? with
      | some fn => match fn.body with
        | some c => match decide (args.length ≤ fn.ntmps) with
          | true => match evC C n f fn.ntmps c ⟨argT 0 args, [], σ⟩ with
            | some (e, s) => match isFin e with
              | true => match resAV C.ty s fn.results.toList with
                | some l => match AV.noLs l with
                  | true => some (finR σ (oneOf l) s.σ)
                  | false => none
                | none => none
              | false => none
            | none => none
          | false => none
        | none => none
      | none => none
def evC (C : Cfg) : Nat → FuncId → Nat → Code → St → Option (Exit × St)
  | 0, _, _, _, _ => none
  | n + 1, f, N, c, s => match c with
    | .skip => some (.normal, s)
    | .ret => some (.ret, s)
    | .exit id => some (.exit id, s)
    | .seq x y => match evC C n f N x s with
      | some (.normal, s') => evC C n f N y s'
      | r => r
    | .block id c => match evC C n f N c s with
      | some (.exit id', s') => match Nat.beq id' id with
        | true => some (.normal, s')
        | false => some (.exit id', s')
      | r => r
    | .loop c => match evC C n f N c s with
      | some (.normal, s') => evC C n f N (.loop c) s'
      | r => r
    | .cond c x y => match ev s c with
      | .pv (.bool true) => evC C n f N x s
      | .pv (.bool false) => evC C n f N y s
      | _ => none
    | .region _ ops false => match evO C n f N ops ops.toList s with
      | some s' => some (.normal, s')
      | none => none
    | .region id ops true => match drawOk ops (C.dm f id).1 && decide ((C.dm f id).1 < ops.size) with
      | true => match evU C n f N (viewX (C.dm f id).2.1 (C.dm f id).2.2 s) ops (ops.toList.take (C.dm f id).1) s with
        | some s' => match evO C n f N ops (ops.toList.drop (C.dm f id).1) s' with
          | some s' => some (.normal, s')
          | none => none
        | none => none
      | false => none
    | _ => none
def evO (C : Cfg) : Nat → FuncId → Nat → Array Oper → List Oper → St → Option St
  | 0, _, _, _, _, _ => none
  | _ + 1, _, _, _, [], s => some s
  | n + 1, f, N, ops, o :: os, s => match dstOk N o.dst with
    | true => match gateOf ops o s.T with
      | .bad => none
      | .off => evO C n f N ops os (s.put o.dst (.tuple []))
      | .on => match callOf s o with
        | some (g, args) => match C.ca g && AV.noLs args with
          | true => match evF C n g args s.σ with
            | some (r, σ') => evO C n f N ops os (({ s with σ := σ' } : St).put o.dst r)
            | none => none
          | false => none
        | none => match stepOp C.ty (C.sh f) s o with
          | some s' => evO C n f N ops os s'
          | none => none
    | false => none
def evU (C : Cfg) : Nat → FuncId → Nat → View → Array Oper → List Oper → St → Option St
  | 0, _, _, _, _, _, _ => none
  | _ + 1, _, _, _, _, [], s => some s
  | n + 1, f, N, V, ops, o :: os, s => match dstOk N o.dst with
    | true => match gateOf ops o s.T with
      | .bad => none
      | .off => evU C n f N V ops os ⟨putT s.T o.dst (.tuple []), s.L, s.σ⟩
      | .on => match effOf C.ty (V.st s.T) o with
        | some (.call g args) => match C.ca g && AV.noLs args && V.objs.isEmpty with
          | true => match evF C n g args s.σ with
            | some (r, σ') => evU C n f N V ops os ⟨putT s.T o.dst r, s.L, σ'⟩
            | none => none
          | false => none
        | some e => match viewOk V e with
          | true => match effStep s o.dst e with
            | some s' => evU C n f N V ops os s'
            | none => none
          | false => none
        | none => none
    | false => none
end
section
variable {P : Program} {ty : TyT} {σ0 : Store} {N : Nat} {s s' : St} {o : Oper} {ops : Array Oper} {os : List Oper} {K : St → Prop} {V : View} {Q : Exit → St → Prop} {c : Code}
theorem awp_gl (h : s.σ.gl = σ0.gl → AWp P σ0 N c Q s) : AWp P σ0 N c Q s := by
  rintro g0 w0 a w ⟨g, r⟩
  exact h r.1.gl g0 w0 a w ⟨g, r⟩

theorem al_gl (h : s.σ.gl = σ0.gl → AOpsL P σ0 N ops os K s) : AOpsL P σ0 N ops os K s := by
  rintro l hl g0 w0 a w nx ⟨g, r⟩ hn
  exact h r.1.gl l hl g0 w0 a w nx ⟨g, r⟩ hn

theorem gate_on (h : gateOf ops o s.T = .on) : o.guard = none ∨ ∃ d b, guardTmp ops o = some (d, b) ∧ get s.T d = .pv (.bool b) := by
  unfold gateOf at h
  split at h
  · exact .inl ‹_›
  · split at h
    · rename_i d want hg
      split at h
      · rename_i b hb
        split at h
        · exact .inr ⟨d, true, hg, hb⟩
        · exact .inr ⟨d, false, hg, hb⟩
        · cases h
      · cases h
      · cases h
    · cases h

theorem gate_off {T : List (Nat × AV)} (h : gateOf ops o T = .off) : ∃ d b, guardTmp ops o = some (d, b) ∧ off (get T d) b = true := by
  unfold gateOf at h
  split at h
  · cases h
  · split at h
    · rename_i d want hg
      split at h
      · rename_i b hb
        split at h
        · cases h
        · cases h
        · rename_i h1 h2
          refine ⟨d, want, hg, ?_⟩
          rw [hb]
          cases b <;> cases want <;> simp_all [off]
      · rename_i hb
        exact ⟨d, want, hg, by rw [hb]; rfl⟩
      · cases h
    · cases h

theorem al_on (h : gateOf ops o s.T = .on) (hd : dstOk N o.dst = true) (k : AOp P σ0 N o (AOpsL P σ0 N ops os K) s) : AOpsL P σ0 N ops (o :: os) K s := by
  rcases gate_on h with hg | ⟨d, b, hg, hb⟩
  · exact al_cons hg k
  · exact al_take d b b hb rfl hg hd k

theorem al_off (h : gateOf ops o s.T = .off) (hd : dstOk N o.dst = true) (k : AOpsL P σ0 N ops os K (s.put o.dst (.tuple []))) : AOpsL P σ0 N ops (o :: os) K s := by
  obtain ⟨d, b, hg, hb⟩ := gate_off h
  intro l hl
  cases l with
  | nil => simp at hl
  | cons i l =>
    simp only [List.map_cons, List.cons.injEq] at hl
    exact aops_skip hl.1 hg hb hd (k l hl.2)

theorem gate_eff {e : Eff} (h : gateOf ops o s.T = .on) (he : effOf ty (V.st s.T) o = some e) : GateEff ty V ops s.T o e := by
  rcases gate_on h with hg | ⟨d, b, hg, hb⟩
  · exact .plain hg he
  · exact .yes hg hb he

theorem callOf_eq {g : FuncId} {args : List AV} (h : callOf s o = some (g, args)) : ∃ c fo caps, o.op = .call c ∧ c.callee = .value fo ∧ ev s fo = .func (.func g) caps ∧ args = c.args.toList.map (ev s) ++ caps := by
  unfold callOf at h
  split at h
  · rename_i c hc
    split at h
    · rename_i fo hfo
      split at h
      · rename_i f caps hf
        cases h
        exact ⟨c, fo, caps, hc, hfo, hf, rfl⟩
      · cases h
    · cases h
  · cases h

theorem lower1_wv {no nt : Nat} {x : AV} (h : (lower1 x).clo no nt 0 = true) : WV no nt 0 x (lower1 x) := by
  unfold lower1 at h ⊢
  split
  · exact .pv ‹_›
  · rename_i hx
    rw [hx] at h
    exact .same h

theorem lowerT_wvt {no nt : Nat} {r : AV} (h : cloT no nt (lowerT r) = true) : WVt no nt 0 r (lowerT r) := by
  cases r with
  | tuple xs =>
    simp only [lowerT, cloT, WVt] at h ⊢
    induction xs with
    | nil => trivial
    | cons x xs ih =>
      simp only [List.map_cons, AV.clos, Bool.and_eq_true] at h
      exact ⟨lower1_wv h.1, ih h.2⟩
  | _ =>
    simp only [lowerT] at h ⊢
    have h2 : ∀ (y : AV), (∀ xs, y ≠ .tuple xs) → cloT no nt y = true → y.clo no nt 0 = true := by
      intro y hy hc
      unfold cloT at hc
      split at hc
      · exact (hy _ rfl).elim
      · exact hc
    have h3 : ∀ (x : AV), (∀ xs, x ≠ .tuple xs) → ∀ xs, lower1 x ≠ .tuple xs := by
      intro x hx xs
      unfold lower1
      split
      · simp
      · exact hx xs
    have := lower1_wv (h2 _ (h3 _ (by simp)) h)
    unfold WVt
    split
    · rename_i e1 e2; cases e1
    · exact this
end
theorem ACalls.gl {P : Program} {f : FuncId} {args : List AV} {σ : Store} {R : AV → Store → Prop} (h : ACalls P f args σ R) : ACalls P f args σ fun r' s' => R r' s' ∧ s'.gl = σ.gl := by
  intro g' w cargs h1 h2 h3
  refine (h g' w cargs h1 h2 h3).mono ?_
  rintro e w' ⟨v, r1, σ1, g1, e1, e2, e3, e4, e5⟩
  exact ⟨v, r1, σ1, g1, e1, ⟨e2, e4.gl⟩, e3, e4, e5⟩

theorem appendStep_gl {s s' : St} {d : Option Tmp} {e : TypeId} {te : TyI} {x : AV} {ys : List PV} (h : appendStep s d e te x ys = some s') : s'.σ.gl = s.σ.gl := by
  unfold appendStep at h
  split at h
  · split at h
    · split at h
      · split at h
        · cases h; cases d <;> rfl
        · cases h
      · cases h
    · split at h
      · split at h
        · cases h; cases d <;> rfl
        · cases h
      · cases h
  · cases h

theorem effStep_gl {s s' : St} {d : Option Tmp} {e : Eff} (h : effStep s d e = some s') : s'.σ.gl = s.σ.gl := by
  cases e with
  | pure x => simp only [effStep, Option.some.injEq] at h; subst h; rfl
  | box cs => simp only [effStep, Option.some.injEq] at h; subst h; rfl
  | append e te x ys =>
    simp only [effStep] at h
    split at h
    · rename_i s1 h1
      have := appendStep_gl h1
      cases h; exact this
    · cases h
  | call => simp [effStep] at h
  | path => simp [effStep] at h
  | storeL i off ti ds =>
    simp only [effStep] at h
    split at h
    · split at h
      · cases h; rfl
      · cases h
    · cases h

theorem evF_gl {C : Cfg} {n : Nat} {f : FuncId} {args : List AV} {σ σ' : Store} {r : AV} (h : evF C n f args σ = some (r, σ')) : σ'.gl = σ.gl := by
  cases n with
  | zero => simp [evF] at h
  | succ n =>
    simp only [evF] at h
    split at h
    · cases h; rfl
    · split at h
      · split at h
        · split at h
          · split at h
            · split at h
              · split at h
                · split at h
                  · simp only [finR] at h
                    split at h <;> cases h <;> rfl
                  · cases h
                · cases h
              · cases h
            · cases h
          · cases h
        · cases h
      · cases h

/-- From the head of a loop on. -/
def AWpL (P : Program) (σ0 : Store) (N : Nat) (c : Code) (Q : Exit → St → Prop) (s : St) : Prop :=
  ∀ g0 w0 a w, Rel g0 σ0 w0 N s a w → ∀ b k cs, ∃ e a' w', lift g0 σ0 w0 N Q e a' w' ∧ Arrives P (lone (b.at a (.code c :: .inLoop c :: k)) cs w) b k cs e a' w'

theorem awp_loopL {P : Program} {σ0 : Store} {N : Nat} {c : Code} {Q : Exit → St → Prop} {s : St} (h : AWpL P σ0 N c Q s) : AWp P σ0 N (.loop c) Q s := by
  intro g0 w0 a w r b k cs
  obtain ⟨e₂, a₂, w₂, hq₂, harr₂⟩ := h g0 w0 a w r b k cs
  exact ⟨e₂, a₂, w₂, hq₂, .of_steps (.one step_loop) harr₂⟩

theorem awpL_round {P : Program} {σ0 : Store} {N : Nat} {c : Code} {Q : Exit → St → Prop} {s : St} (hw : AWp P σ0 N c (Then (AWpL P σ0 N c Q) Q) s) : AWpL P σ0 N c Q s := by
  intro g0 w0 a w r b k cs
  obtain ⟨e₁, a₁, w₁, ⟨s₁, hq, r₁⟩, harr⟩ := hw g0 w0 a w r b (.inLoop c :: k) cs
  cases e₁ with
  | normal =>
    obtain ⟨e₂, a₂, w₂, hq₂, harr₂⟩ := hq g0 w0 a₁ w₁ r₁ b k cs
    exact ⟨e₂, a₂, w₂, hq₂, .of_steps (Steps.trans harr (.one step_inLoop)) harr₂⟩
  | exit id => exact ⟨_, a₁, w₁, ⟨s₁, hq, r₁⟩, .pass (x := .inLoop c) rfl (fun _ _ => .inl (by simp)) harr⟩
  | goto l => exact ⟨_, a₁, w₁, ⟨s₁, hq, r₁⟩, .pass (x := .inLoop c) rfl (fun _ _ => .inl (by simp)) harr⟩
  | ret => exact ⟨_, a₁, w₁, ⟨s₁, hq, r₁⟩, .pass (x := .inLoop c) rfl (fun _ _ => .inl (by simp)) harr⟩
  | panic ch => exact ⟨_, a₁, w₁, ⟨s₁, hq, r₁⟩, .pass (x := .inLoop c) rfl (fun _ _ => .inl (by simp)) harr⟩
  | outgrown => exact ⟨_, a₁, w₁, ⟨s₁, hq, r₁⟩, .pass (x := .inLoop c) rfl (fun _ _ => .inl (by simp)) harr⟩

structure CfgOk (C : Cfg) (G : List (Nat × PV)) : Prop where
  hty : TyOk C.P C.ty
  hsz : ∀ t ti, C.ty t = some ti → ti.size ≠ 0
  hca : ∀ f, C.ca f = true → Callable C.P f
  horc : ∀ f args r, C.orc f args = some r → Pur C.P G f args r

theorem ev_sound {C : Cfg} {G : List (Nat × PV)} (H : CfgOk C G) : ∀ n : Nat,
    (∀ f args σ r σ', σ.gl = G → evF C n f args σ = some (r, σ') → ACalls C.P f args σ fun r' s' => r' = r ∧ s' = σ') ∧
    (∀ f N c s e s' σ0 (Q : Exit → St → Prop), σ0.gl = G → evC C n f N c s = some (e, s') → Q e s' → AWp C.P σ0 N c Q s) ∧
    (∀ f N ops os s s' σ0 (K : St → Prop), σ0.gl = G → evO C n f N ops os s = some s' → K s' → AOpsL C.P σ0 N ops os K s) ∧
    (∀ f N V ops os s s' (K : St → Prop), s.σ.gl = G → evU C n f N V ops os s = some s' → (s'.σ.gl = G → K s') → UL C.P C.ty V N ops os K s) ∧
    (∀ f N c s e s' σ0 (Q : Exit → St → Prop), σ0.gl = G → evC C n f N (.loop c) s = some (e, s') → Q e s' → AWpL C.P σ0 N c Q s)
  | 0 => ⟨fun _ _ _ _ _ _ h => by simp [evF] at h, fun _ _ _ _ _ _ _ _ _ h => by simp [evC] at h, fun _ _ _ _ _ _ _ _ _ h => by simp [evO] at h, fun _ _ _ _ _ _ _ _ _ h => by simp [evU] at h, fun _ _ _ _ _ _ _ _ _ h => by simp [evC] at h⟩
  | n + 1 => by
    obtain ⟨ihF, ihC, ihO, ihU, ihL⟩ := ev_sound H n
    have loop : ∀ f N c s e s' σ0 (Q : Exit → St → Prop), σ0.gl = G → evC C (n + 1) f N (.loop c) s = some (e, s') → Q e s' → AWpL C.P σ0 N c Q s := by
      intro f N c s e s' σ0 Q hgl h hQ
      simp only [evC] at h
      refine awpL_round ?_
      split at h
      · rename_i s1 h1
        exact ihC f N c s .normal s1 σ0 _ hgl h1 (ihL f N c s1 e s' σ0 _ hgl h hQ)
      · rename_i hne
        refine ihC f N c s e s' σ0 _ hgl h ?_
        cases e <;> first | exact hQ | exact (hne _ h).elim
    refine ⟨?_, ?_, ?_, ?_, loop⟩
    · intro f args σ r σ' hgl h
      simp only [evF] at h
      split at h
      · rename_i r1 ho
        cases h
        exact H.horc f args _ ho _ hgl
      · split at h
        · rename_i fn hfn
          split at h
          · rename_i c hc
            split at h
            · rename_i hlen
              split at h
              · rename_i e s hs
                split at h
                · rename_i hfin
                  split at h
                  · rename_i l hl
                    split at h
                    · rename_i hnl
                      have key : ACalls C.P f args σ fun r' s' => r' = oneOf l ∧ s' = s.σ := by
                        refine acalls_of H.hty hfn hc (by simpa using hlen) (ihC f fn.ntmps c _ e s σ _ hgl hs ?_)
                        cases e <;> first | (cases hfin; done) | exact ⟨l, hl, hnl, rfl, rfl⟩
                      have key := key.gl
                      simp only [finR] at h
                      split at h
                      · rename_i hclo
                        cases h
                        simp only [Bool.and_eq_true, List.all_eq_true] at hclo
                        refine key.less ?_
                        rintro _ _ ⟨⟨rfl, rfl⟩, hg2⟩
                        exact ⟨_, _, _, lowerT_wvt hclo.1, Nat.le_refl _, Nat.le_refl _, fun ob hob => .inr (hclo.2 ob hob), rfl, by rw [← hg2]; rfl⟩
                      · cases h
                        refine key.mono ?_
                        rintro _ _ ⟨⟨rfl, rfl⟩, hg2⟩
                        exact ⟨rfl, by rw [← hg2]⟩
                    · cases h
                  · cases h
                · cases h
              · cases h
            · cases h
          · cases h
        · cases h
    · intro f N c s e s' σ0 Q hgl h hQ
      cases c <;> (try simp only [evC] at h) <;> try (cases h; done)
      case skip => cases h; exact awp_skip hQ
      case ret => cases h; exact awp_ret hQ
      case exit => cases h; exact awp_exit hQ
      case seq x y =>
        refine awp_seq ?_
        split at h
        · rename_i s1 h1
          exact ihC f N x s .normal s1 σ0 _ hgl h1 (ihC f N y s1 e s' σ0 _ hgl h hQ)
        · rename_i hne
          refine ihC f N x s e s' σ0 _ hgl h ?_
          cases e <;> first | exact hQ | exact (hne _ h).elim
      case block id c =>
        refine awp_block ?_
        split at h
        · rename_i id' s1 h1
          refine ihC f N c s (.exit id') s1 σ0 _ hgl h1 ?_
          split at h
          · rename_i hb
            have := Nat.eq_of_beq_eq_true hb
            cases h; subst this; exact inBlock_hit hQ
          · rename_i hb
            have : id' ≠ id := fun e => by subst e; simp at hb
            cases h; exact inBlock_miss this hQ
        · rename_i hne
          refine ihC f N c s e s' σ0 _ hgl h ?_
          cases e <;> first | exact hQ | exact (hne _ _ h).elim
      case loop c =>
        exact awp_loopL (loop f N c s e s' σ0 Q hgl (by simp only [evC]; exact h) hQ)
      case cond c x y =>
        split at h
        · rename_i hc
          exact awp_cond hc (fun _ => ihC f N x s e s' σ0 Q hgl h hQ) (fun e => by cases e)
        · rename_i hc
          exact awp_cond hc (fun e => by cases e) (fun _ => ihC f N y s e s' σ0 Q hgl h hQ)
        · cases h
      case region id ops draw =>
        cases draw with
        | false =>
          simp only [evC] at h
          split at h
          · rename_i s1 h1
            cases h
            exact awp_reg (ihO f N ops _ s s' σ0 _ hgl h1 hQ)
          · cases h
        | true =>
          simp only [evC] at h
          split at h
          · rename_i hok
            simp only [Bool.and_eq_true, decide_eq_true_eq] at hok
            split at h
            · rename_i s1 h1
              split at h
              · rename_i s2 h2
                cases h
                refine awp_gl fun hsg => ?_
                refine awp_regDX H.hty H.hsz _ (C.dm f id).2.1 (C.dm f id).2.2 hok.1 hok.2 ?_
                exact ihU f N _ ops _ s s1 _ (hsg.trans hgl) h1 fun _ => ihO f N ops _ s1 s' σ0 _ hgl h2 hQ
              · cases h
            · cases h
          · cases h
    · intro f N ops os s s' σ0 K hgl h hK
      cases os with
      | nil => simp only [evO] at h; cases h; exact al_nil hK
      | cons o os =>
        simp only [evO] at h
        split at h
        · rename_i hd
          split at h
          · cases h
          · rename_i hg
            exact al_off hg hd (ihO f N ops os _ s' σ0 K hgl h hK)
          · rename_i hg
            split at h
            · rename_i g args hcall
              split at h
              · rename_i hca
                simp only [Bool.and_eq_true] at hca
                split at h
                · rename_i r σ' hF
                  obtain ⟨c, fo, caps, k1, k2, k3, rfl⟩ := callOf_eq hcall
                  refine al_gl fun hsg => ?_
                  refine al_on hg hd (aop_call k1 k2 k3 (H.hca g hca.1) hca.2 hd ((ihF g _ s.σ r σ' (hsg.trans hgl) hF).mono ?_))
                  rintro _ _ ⟨rfl, rfl⟩
                  exact ihO f N ops os _ s' σ0 K hgl h hK
                · cases h
              · cases h
            · split at h
              · rename_i s1 h1
                exact al_on hg hd (aop_step H.hty h1 hd (ihO f N ops os _ s' σ0 K hgl h hK))
              · cases h
        · cases h
    · intro f N V ops os s s' K hgl h hK
      cases os with
      | nil => simp only [evU] at h; cases h; exact ul_nil (hK hgl)
      | cons o os =>
        simp only [evU] at h
        split at h
        · rename_i hd
          split at h
          · cases h
          · rename_i hg
            obtain ⟨d, b, hgt, hb⟩ := gate_off hg
            exact ⟨hd, .pure (.tuple []), .no hgt hb, ihU f N V ops os ⟨putT s.T o.dst (.tuple []), s.L, s.σ⟩ s' K hgl h hK⟩
          · rename_i hg
            split at h
            · rename_i g args he
              split at h
              · rename_i hca
                simp only [Bool.and_eq_true, List.isEmpty_iff] at hca
                split at h
                · rename_i r σ' hF
                  have hc := ihF g args s.σ r σ' hgl hF
                  refine ⟨hd, _, gate_eff hg he, H.hca g hca.1.1, hca.1.2, ?_, ?_⟩
                  · refine hc.mono ?_
                    rintro _ _ ⟨rfl, rfl⟩
                    refine ⟨fun o ob ho => by rw [hca.2] at ho; simp at ho, ?_⟩
                    exact ihU f N V ops os ⟨putT s.T o.dst _, s.L, _⟩ s' K ((evF_gl hF).trans hgl) h hK
                  · exact ⟨r, σ', ihU f N V ops os ⟨putT s.T o.dst r, s.L, σ'⟩ s' K ((evF_gl hF).trans hgl) h hK⟩
                · cases h
              · cases h
            · rename_i e hne he
              split at h
              · rename_i hv
                split at h
                · rename_i s1 h1
                  refine ⟨hd, e, gate_eff hg he, effStep_exec (n := fun T L σ => UL C.P C.ty V N ops os K ⟨T, L, σ⟩) hv h1 ?_⟩
                  exact ihU f N V ops os s1 s' K ((effStep_gl h1).trans hgl) h hK
                · cases h
              · cases h
            · cases h
        · cases h
end Go.Aw

/- A run that is told whole, from an empty store: what it gives is looked at. No program is named. -/
namespace Go.Aw
open Go
mutual
def peq : PV → PV → Bool
  | .slice xs, .slice ys => peqs xs ys
  | .agg xs, .agg ys => peqs xs ys
  | .ptr xs, .ptr ys => peqs xs ys
  | .int k n, .int j m => pvAtomEq (.int k n) (.int j m)
  | .bool a, .bool b => a == b
  | .str a, .str b => decide (a = b)
  | .nils, .nils => true
  | .nilp, .nilp => true
  | .nilif, .nilif => true
  | .nilmap, .nilmap => true
  | .nilfn, .nilfn => true
  | _, _ => false
def peqs : List PV → List PV → Bool
  | [], [] => true
  | x :: xs, y :: ys => peq x y && peqs xs ys
  | _, _ => false
end
mutual
theorem peq_eq : ∀ {a b : PV}, peq a b = true → a = b
  | .slice xs, b, h => by cases b <;> simp [peq] at h; rw [peqs_eq h]
  | .agg xs, b, h => by cases b <;> simp [peq] at h; rw [peqs_eq h]
  | .ptr xs, b, h => by cases b <;> simp [peq] at h; rw [peqs_eq h]
  | .int k n, b, h => by cases b <;> simp [peq] at h; exact pvAtomEq_eq h
  | .bool a, b, h => by cases b <;> simp [peq] at h; rw [h]
  | .str a, b, h => by cases b <;> simp [peq] at h; rw [h]
  | .nils, b, h => by cases b <;> simp [peq] at h; rfl
  | .nilp, b, h => by cases b <;> simp [peq] at h; rfl
  | .nilif, b, h => by cases b <;> simp [peq] at h; rfl
  | .nilmap, b, h => by cases b <;> simp [peq] at h; rfl
  | .nilfn, b, h => by cases b <;> simp [peq] at h; rfl
  | .iface t p, b, h => by cases b <;> simp [peq] at h
  | .map ks vs, b, h => by cases b <;> simp [peq] at h
  | .tab k zs, b, h => by cases b <;> simp [peq] at h
theorem peqs_eq : ∀ {a b : List PV}, peqs a b = true → a = b
  | [], [], _ => rfl
  | x :: xs, y :: ys, h => by
    simp only [peqs, Bool.and_eq_true] at h
    rw [peq_eq h.1, peqs_eq h.2]
  | [], _ :: _, h => by simp [peqs] at h
  | _ :: _, [], h => by simp [peqs] at h
end
/-- Does the run give this, and leave nothing? -/
def gives (o : Option (AV × Store)) (q : PV) : Bool :=
  match o with
  | some (r, σ) => match r, σ.objs, σ.toks with
    | .pv p, [], [] => peq p q
    | _, _, _ => false
  | none => false

theorem purAt_eval {C : Cfg} {G : List (Nat × PV)} (H : CfgOk C G) {n : Nat} {f : FuncId} {args : List AV} {q : PV} (h : gives (evF C n f args ⟨G, [], []⟩) q = true) : PurAt C.P ⟨G, [], []⟩ f args (.pv q) := by
  cases he : evF C n f args ⟨G, [], []⟩ with
  | none => rw [he] at h; cases h
  | some p =>
    obtain ⟨r, σ'⟩ := p
    rw [he] at h
    have hg := evF_gl he
    have hc := (ev_sound H n).1 f args ⟨G, [], []⟩ r σ' rfl he
    obtain ⟨gl, objs, toks⟩ := σ'
    simp only [gives] at h
    split at h
    · simp only at hg
      subst hg
      rw [peq_eq h] at hc
      exact hc
    · cases h
end Go.Aw

/- Whether what stands in no order may be exchanged: the same look, by a table of what stands before what. No program is named. -/
namespace Go.Aw
open Go
def precRow (t : List Nat) (es : List Nat) : Nat := es.foldl (fun a j => a ||| ((1 <<< j) ||| t.getD j 0)) 0
def precTab (ops : Array Oper) : Nat → List Nat
  | 0 => []
  | n + 1 => let t := precTab ops n; t ++ [precRow t (edges ops .any n)]
def drawOkT (ops : Array Oper) (m : Nat) : Bool :=
  goesOn ops .any && goesOn ops .text && goesOn ops .gc &&
  (let t := precTab ops ops.size
   (List.range ops.size).all fun i =>
    ((edges ops .any i).all fun j => decide (j < i)) &&
    (let p := t.getD i 0
     (List.range i).all fun k => p.testBit k || (decide (i < m) && (match ops[k]?, ops[i]? with | some ok, some oi => swapOk ops ok oi | _, _ => false))))

theorem precRow_bit {t : List Nat} {k : Nat} : ∀ {es : List Nat} {a : Nat}, (es.foldl (fun a j => a ||| ((1 <<< j) ||| t.getD j 0)) a).testBit k = true → a.testBit k = true ∨ ∃ j, j ∈ es ∧ (k = j ∨ (t.getD j 0).testBit k = true)
  | [], a, h => .inl h
  | j :: es, a, h => by
    rw [List.foldl_cons] at h
    rcases precRow_bit h with h | ⟨j', h1, h2⟩
    · simp only [Nat.testBit_or, Bool.or_eq_true] at h
      rcases h with h | h | h
      · exact .inl h
      · refine .inr ⟨j, by simp, .inl ?_⟩
        rw [Nat.one_shiftLeft, Nat.testBit_two_pow] at h
        simpa [eq_comm] using h
      · exact .inr ⟨j, by simp, .inr h⟩
    · exact .inr ⟨j', by simp [h1], h2⟩

theorem precTab_len (ops : Array Oper) : ∀ n, (precTab ops n).length = n
  | 0 => rfl
  | n + 1 => by simp [precTab, precTab_len ops n]
theorem precTab_get (ops : Array Oper) : ∀ n i, i < n → (precTab ops n).getD i 0 = precRow (precTab ops i) (edges ops .any i)
  | 0, i, h => by omega
  | n + 1, i, h => by
    simp only [precTab, List.getD_eq_getElem?_getD]
    by_cases hi : i < n
    · rw [List.getElem?_append_left (by rw [precTab_len]; exact hi)]
      have := precTab_get ops n i hi
      rw [List.getD_eq_getElem?_getD] at this
      exact this
    · have : i = n := by omega
      subst this
      rw [List.getElem?_append_right (by rw [precTab_len]; omega), precTab_len]
      simp

theorem precTab_sound (ops : Array Oper) (hd : ∀ i, i < ops.size → ∀ j, j ∈ edges ops .any i → j < i) : ∀ i, i < ops.size → ∀ k f, i + 1 ≤ f → ((precTab ops ops.size).getD i 0).testBit k = true → k ∈ precs ops f i := by
  intro i
  induction i using Nat.strongRecOn with
  | _ i ih =>
    intro hi k f hf h
    rw [precTab_get ops _ i hi] at h
    unfold precRow at h
    obtain ⟨f, rfl⟩ : ∃ g, f = g + 1 := ⟨f - 1, by omega⟩
    rw [precs, List.mem_append, List.mem_flatMap]
    rcases precRow_bit h with h | ⟨j, h1, h2⟩
    · simp at h
    · have hj := hd i hi j h1
      rcases h2 with rfl | h2
      · exact .inl h1
      · refine .inr ⟨j, h1, ih j hj (by omega) k f (by omega) ?_⟩
        rw [precTab_get ops _ j (by omega)]
        rw [precTab_get ops i j hj] at h2
        exact h2

theorem drawOk_of {ops : Array Oper} {m : Nat} (h : drawOkT ops m = true) : drawOk ops m = true := by
  simp only [drawOkT, drawOk, Bool.and_eq_true, List.all_eq_true, List.mem_range, Bool.or_eq_true, decide_eq_true_eq] at h ⊢
  refine ⟨h.1, fun i hi k hk => ?_⟩
  rcases (h.2 i hi).2 k hk with h1 | h1
  · left
    rw [List.contains_iff_mem]
    exact precTab_sound ops (fun i hi => (h.2 i hi).1) i hi k ops.size (by omega) h1
  · exact .inr h1
end Go.Aw

/- Layer 17 (seven): definitions by their labels, what the program says of them and what the specification. No program is named. -/
namespace Go.Aw
open Go
section
variable {p f : D}
variable (R : Right p)
include R
theorem Right.find_map : (Aw.rdefs p).find? (fun d => deq d.lab f) = (p.kids.find? fun d => deq d.head f).map toDf := by
  rw [R.rdefs]
  have key : ∀ l : List D, (∀ d, d ∈ l → d ∈ p.kids) → (l.map toDf).find? (fun d => deq d.lab f) = (l.find? fun d => deq d.head f).map toDf := by
    intro l
    induction l with
    | nil => intro _; rfl
    | cons y l ih =>
      intro hl
      obtain ⟨x0, x1, x2, ns, hkk, hn, ht, hh, _⟩ := R.df (hl y (by simp))
      rw [List.map_cons, List.find?_cons, List.find?_cons, ih fun d hd => hl d (by simp [hd])]
      have e : deq (toDf y).lab f = deq y.head f := by rw [ht, hh]
      rw [e]
      cases deq y.head f <;> rfl
  exact key _ fun _ h => h
theorem Right.find_none (h : Aw.findI (Aw.rdefs p) f < 0) : (findD p.kids f).2 = false := by
  have h1 := idxOf_neg h
  rw [R.find_map] at h1
  unfold findD
  cases he : p.kids.find? fun d => deq d.head f with
  | none => rfl
  | some y => rw [he] at h1; cases h1
end
end Go.Aw

/- Layer 17's specification (eight): other labels, canonical forms, programs as data. No program is named. -/
namespace Go.Aw
open Go
/-! ### the index of a label -/
def labK (ls : List D) (f : D) : Nat → D
  | 0 => f
  | n + 1 => if deq (ls.getD n dnone) f = true then dnum n else labK ls f n
def labF (ls : List D) (f : D) : D := labK ls f ls.length
theorem labK_yes {ls : List D} {f y : D} {n : Nat} (hy : ls[n]? = some y) (h : deq y f = true) : labK ls f (n + 1) = dnum n := by rw [labK, getD_of hy, if_pos h]
theorem labK_past {ls : List D} {f : D} {n : Nat} : ∀ m : Nat, (∀ i, n ≤ i → i < n + m → deq (ls.getD i dnone) f = false) → labK ls f (n + m) = labK ls f n
  | 0, _ => rfl
  | m + 1, h => by
    have e : n + (m + 1) = (n + m) + 1 := rfl
    rw [e, labK, if_neg (by rw [h (n + m) (by omega) (by omega)]; decide)]
    exact labK_past m fun i h1 h2 => h i h1 (by omega)
theorem labF_at {ls : List D} {f y : D} {n : Nat} (hy : ls[n]? = some y) (h : deq y f = true) (hu : ∀ i z, ls[i]? = some z → i ≠ n → deq z f = false) : labF ls f = dnum n := by
  have hlt := (List.getElem?_eq_some_iff.1 hy).1
  obtain ⟨m, hm⟩ : ∃ m, ls.length = (n + 1) + m := ⟨ls.length - (n + 1), by omega⟩
  unfold labF
  rw [hm, labK_past m, labK_yes hy h]
  intro i h1 h2
  obtain ⟨z, hz, _⟩ := get_lt (l := ls) (k := i) (by omega)
  rw [getD_of hz]
  exact hu i z hz (by omega)
def relI (lab : D → D) (d : D) (i : Nat) (x : D) : D := if i = 0 then x else if i = 1 ∧ word d = sCall then lab x else rexpr lab id false x
def outR (lab : D → D) (d : D) (k : Nat) : List D := (d.kids.take k).mapIdx (relI lab d)
theorem outR_zero {lab : D → D} {d : D} : outR lab d 0 = [] := by simp [outR]
theorem outR_next {lab : D → D} {d x : D} {k : Nat} (h : d.kids[k]? = some x) : outR lab d (k + 1) = outR lab d k ++ [relI lab d k x] := by
  have hk := (List.getElem?_eq_some_iff.1 h).1
  unfold outR
  rw [take_next h, List.mapIdx_append]
  simp only [List.mapIdx_cons, List.mapIdx_nil, List.length_take]
  rw [show 0 + min k d.kids.length = k by omega]
theorem outR_len {lab : D → D} {d : D} {k : Nat} (h : k ≤ d.kids.length) : (outR lab d k).length = k := by unfold outR; rw [List.length_mapIdx, List.length_take]; omega
theorem outR_all {lab : D → D} {d : D} : outR lab d d.kids.length = d.kids.mapIdx (relI lab d) := by unfold outR; rw [List.take_length]
theorem mapIdx_const {α β : Type} {f : Nat → α → β} {g : α → β} : ∀ {l : List α}, (∀ (i : Nat) x, l[i]? = some x → f i x = g x) → l.mapIdx f = l.map g
  | [], _ => rfl
  | x :: l, h => by
    rw [List.mapIdx_cons, List.map_cons, h 0 x rfl, mapIdx_const (f := fun i => f (i + 1)) (g := g) fun i y hy => h (i + 1) y (by simpa using hy)]
theorem rexpr_list {lab : D → D} {d : D} (hg : GoodE d) (hk : d.kind = 3) (hq : decide (word d = sQuote) = false) : rexpr lab id false d = dlist (d.kids.mapIdx (relI lab d)) := by
  obtain ⟨hw, he⟩ := hg.word hk
  obtain ⟨hh2, hne⟩ := hg.head hk
  obtain ⟨x0, r, hx⟩ := kids_cons hne
  have hh : d.head = x0 := head_cons hx
  have h1 : (d.kind == 1) = false := by rw [hk]; rfl
  have h2 : (d.kind == 2) = false := by rw [hk]; rfl
  rw [hw] at hq
  have hp : parts d = if decide (d.head.text = sLet) = true then d.kids.drop 2 else if decide (d.head.text = sCall) = true then d.kids.drop 2 else d.kids.drop 1 := by
    unfold parts
    rw [if_neg (by rw [hk]; decide), if_neg (by rw [hq]; decide)]
  cases hl : decide (d.head.text = sLet) with
  | true =>
    have htl := of_decide_eq_true hl
    obtain ⟨_, _, hc⟩ := cexpr_list hg.2.choose_spec.choose_spec hk
    have hl4 : d.kids.length = 4 ∧ isName (d1 d.kids) = true := by
      rcases hc with ⟨e, _⟩ | ⟨e, _⟩ | ⟨_, h3, h4, _⟩ | ⟨e, _⟩ | ⟨_, _, e, _⟩
      · rw [htl] at e; exact absurd e sL_ne_Q
      · rw [htl] at e; exact absurd e.symm sI_ne_L
      · exact ⟨h3, h4⟩
      · rw [htl] at e; exact absurd e.symm sC_ne_L
      · exact absurd htl e
    rw [rexpr_let h1 h2 hq hl, hp]
    simp only [hl, if_true]
    have hnc : ¬ word d = sCall := by rw [hw, htl]; exact sL_ne_C
    obtain ⟨h4, hnm⟩ := hl4
    match hkk : d.kids, h4 with
    | [y0, y1, y2, y3], _ =>
      rw [hkk] at hnm
      have hd1 : d1 [y0, y1, y2, y3] = y1 := rfl
      rw [hd1] at hnm ⊢
      have hy0 : d.head = y0 := head_cons hkk
      have hk1 : (y1.kind == 2) = true := by unfold isName at hnm; simp only [Bool.and_eq_true] at hnm; exact hnm.1
      have hk1' : (y1.kind == 1) = false := by rw [beq_iff_eq] at hk1; rw [hk1]; rfl
      have r1 : rexpr lab id false y1 = y1 := rexpr_sym hk1' hk1
      simp only [List.mapIdx_cons, List.mapIdx_nil, relI, hnc, and_false, if_false, if_true, List.drop_succ_cons, List.drop_zero, List.map_cons, List.map_nil, hy0, r1]
      rfl
  | false =>
    cases hc : decide (d.head.text = sCall) with
    | true =>
      have hwc : word d = sCall := by rw [hw]; exact of_decide_eq_true hc
      rw [rexpr_call h1 h2 hq hl hc, hp]
      simp only [hl, hc, Bool.false_eq_true, if_false, if_true]
      have h2l := hg.two (.inr hwc)
      match hkk : d.kids, h2l with
      | y0 :: y1 :: rr, _ =>
        have hy0 : d.head = y0 := head_cons hkk
        have hd1 : d1 (y0 :: y1 :: rr) = y1 := rfl
        rw [hd1, hy0]
        have hr : rr.mapIdx (fun i => relI lab d (i + 1 + 1)) = rr.map (rexpr lab id false) := mapIdx_const fun i x _ => by unfold relI; rw [if_neg (by omega), if_neg (by omega)]
        simp only [List.mapIdx_cons, List.drop_succ_cons, List.drop_zero]
        rw [hr]
        simp only [relI, hwc, if_true, if_false]
        rfl
    | false =>
      have hnc : ¬ word d = sCall := by rw [hw]; exact of_decide_eq_false hc
      rw [rexpr_other h1 h2 hq hl hc, hp]
      simp only [hl, hc, Bool.false_eq_true, if_false]
      rw [hx, hh]
      have hr : r.mapIdx (fun i => relI lab d (i + 1)) = r.map (rexpr lab id false) := mapIdx_const fun i x _ => by unfold relI; rw [if_neg (by omega), if_neg (by simp [hnc])]
      simp only [List.mapIdx_cons, List.drop_succ_cons, List.drop_zero]
      rw [hr]
      simp [relI]
theorem rexpr_leaf {lab : D → D} {d : D} (hg : GoodE d) (h : d.kind ≠ 3 ∨ word d = sQuote) : rexpr lab id false d = d := by
  rcases okE_kind hg.ok with hk | hk | hk
  · exact rexpr_num (by rw [hk]; rfl)
  · rw [rexpr_sym (by rw [hk]; rfl) (by rw [hk]; rfl)]; rfl
  · rcases h with h | h
    · exact absurd hk h
    · rw [(hg.word hk).1] at h
      exact rexpr_quote (by rw [hk]; rfl) (by rw [hk]; rfl) (by rw [h]; decide)
/-- Whatever stands in a list behind its first element, but a label, may be gone through. -/
theorem GoodE.kid {d x : D} {i : Nat} (hg : GoodE d) (hk : d.kind = 3) (hq : decide (Aw.word d = sQuote) = false) (hx : d.kids[i + 1]? = some x) (hc : ¬ (i = 0 ∧ Aw.word d = sCall)) : GoodE x := by
  obtain ⟨hw, he⟩ := hg.word hk
  rw [hw] at hq hc
  have hp : parts d = if decide (d.head.text = sLet) = true then d.kids.drop 2 else if decide (d.head.text = sCall) = true then d.kids.drop 2 else d.kids.drop 1 := by
    unfold parts
    rw [if_neg (by rw [hk]; decide), if_neg (by rw [hq]; decide)]
  have hdrop : ∀ j, j ≤ i + 1 → x ∈ d.kids.drop j := fun j hj => by
    refine List.mem_of_getElem? (i := i + 1 - j) ?_
    rw [List.getElem?_drop, show j + (i + 1 - j) = i + 1 by omega]; exact hx
  cases hl : decide (d.head.text = sLet) with
  | true =>
    rw [if_pos hl] at hp
    by_cases hi : i = 0
    · subst hi
      have htl := of_decide_eq_true hl
      obtain ⟨ps, b, hz⟩ := hg.2
      obtain ⟨_, _, hcc⟩ := cexpr_list hz hk
      have hnm : isName (d1 d.kids) = true := by
        rcases hcc with ⟨e, _⟩ | ⟨e, _⟩ | ⟨_, h3, h4, _⟩ | ⟨e, _⟩ | ⟨_, _, e, _⟩
        · rw [htl] at e; exact absurd e sL_ne_Q
        · rw [htl] at e; exact absurd e.symm sI_ne_L
        · exact h4
        · rw [htl] at e; exact absurd e.symm sC_ne_L
        · exact absurd htl e
      have hd1 : d1 d.kids = x := getD_of hx
      rw [hd1] at hnm
      refine ⟨formed_kids hg.1 (List.mem_of_getElem? hx), [], [x.text], ?_⟩
      have hk2 : x.kind = 2 := by unfold isName at hnm; simp only [Bool.and_eq_true, beq_iff_eq] at hnm; exact hnm.1
      rw [cexpr_eq, hk2, hnm]
      simp
    · exact hg.part (by rw [hp]; exact hdrop 2 (by omega))
  | false =>
    rw [if_neg (by rw [hl]; decide)] at hp
    cases hcl : decide (d.head.text = sCall) with
    | true =>
      rw [if_pos hcl] at hp
      have hi : i ≠ 0 := fun e => hc ⟨e, of_decide_eq_true hcl⟩
      exact hg.part (by rw [hp]; exact hdrop 2 (by omega))
    | false =>
      rw [if_neg (by rw [hcl]; decide)] at hp
      exact hg.part (by rw [hp]; exact hdrop 1 (by omega))

/-! ### programs as data -/
def dfD (d : Df) : D := dlist [d.lab, symsD d.ps, d.bod]
def progD (l : List Df) : D := dlist (l.map dfD)
def refCanon (p : D) : List Df := (reach p).mapIdx fun i x => ⟨dnum i, (toDf x).ps, rexpr (labF ((reach p).map D.head)) id false (toDf x).bod⟩
end Go.Aw

/- Layer 17 (nine): joined programs, by the specification. No program is named. -/
namespace Go.Aw
open Go
/-! ### definitions as data are themselves -/
theorem formed_list {d : D} (h : formed d = true) (hk : d.kind = 3) : d.num = 0 ∧ d.text = es := by
  rw [formed_eq, if_neg (by rw [hk]; decide), if_neg (by rw [hk]; decide), if_pos (by rw [hk]; rfl)] at h
  simp only [Bool.and_eq_true, beq_iff_eq, decide_eq_true_eq] at h
  exact ⟨h.1.1, h.1.2⟩
theorem dlist_of {d : D} (h : formed d = true) (hk : d.kind = 3) : dlist d.kids = d := by
  obtain ⟨h1, h2⟩ := formed_list h hk
  exact D.ext' hk.symm h1.symm h2.symm rfl
theorem dsym_of {d : D} (h : formed d = true) (hk : d.kind = 2) : dsym d.text = d := by
  obtain ⟨h1, h2, _⟩ := formed_sym h hk
  exact D.ext' hk.symm h1.symm rfl h2.symm
theorem namesGo_kinds : ∀ {l : List D} {acc ns : List ByteArray}, namesGo acc l = some ns → ∀ x, x ∈ l → isName x = true
  | [], acc, ns, _, x, hx => by simp at hx
  | y :: l, acc, ns, h, x, hx => by
    rw [namesGo] at h
    split at h
    · cases h
    · rename_i hy
      split at h
      · cases h
      · rcases List.mem_cons.1 hx with rfl | hx
        · simpa using hy
        · exact namesGo_kinds h x hx
theorem names_some {d : D} {ns : List ByteArray} (h : names d = some ns) : d.kind = 3 ∧ (∀ x, x ∈ d.kids → x.kind = 2) := by
  unfold names at h
  split at h
  · cases h
  · rename_i hk
    refine ⟨by simpa using hk, fun x hx => ?_⟩
    have := namesGo_kinds h x hx
    unfold isName at this
    simp only [Bool.and_eq_true, beq_iff_eq] at this
    exact this.1
theorem symsD_of {d : D} {ns : List ByteArray} (hf : formed d = true) (h : names d = some ns) : symsD ns = d := by
  obtain ⟨hk, hkk⟩ := names_some h
  rw [names_texts h]
  unfold symsD textsL
  rw [List.map_map]
  have : d.kids.map (dsym ∘ D.text) = d.kids := by
    conv => rhs; rw [← List.map_id d.kids]
    exact List.map_congr_left fun x hx => dsym_of (formed_kids hf hx) (hkk x hx)
  rw [this]
  exact dlist_of hf hk
section
variable {p d : D} (R : Right p)
include R
theorem Right.dfD (hd : d ∈ p.kids) : Aw.dfD (toDf d) = d := by
  obtain ⟨x0, x1, x2, ns, hk, hk3, _, hn, _⟩ := R.def hd
  have hf := formed_kids R.formed hd
  have hs := symsD_of (formed_kids hf (by rw [hk]; simp)) hn
  rw [toDf_of hk hn]
  show dlist [x0, symsD ns, x2] = d
  rw [hs, ← hk]
  exact dlist_of hf hk3
end
section
variable {p q x : D} {k : Nat} (R : Right p) (S : Right q)
end
end Go.Aw
namespace Go.Aw
open Go
end Go.Aw

/- Layer 17 (ten): what is reached is closed; the specification's canonical form is the program's. No program is named. -/
namespace Go.Aw
open Go
/-! ### what is reached is closed under calls -/
theorem reachStep_prefix {m : List (D × D)} {st : CS} {f : D} : st.1 <+: (reachStep m st f).1 := by
  unfold reachStep; split
  · exact List.prefix_append _ _
  · exact List.prefix_refl _
theorem fold_prefix {m : List (D × D)} : ∀ (fs : List D) (st : CS), st.1 <+: (fs.foldl (reachStep m) st).1
  | [], st => List.prefix_refl _
  | f :: fs, st => by rw [List.foldl_cons]; exact reachStep_prefix.trans (fold_prefix fs _)
theorem rst_prefix1 (p : D) (k : Nat) : (rst p k).1 <+: (rst p (k + 1)).1 := by
  cases h : (rst p k).1[k]? with
  | none =>
    have : rst p (k + 1) = rst p k := by
      unfold rst at h ⊢
      rw [rstK, h]
    rw [this]; exact List.prefix_refl _
  | some x => rw [rst_next h]; exact fold_prefix _ _
theorem rst_prefix (p : D) (k : Nat) : ∀ j, (rst p k).1 <+: (rst p (k + j)).1
  | 0 => List.prefix_refl _
  | j + 1 => (rst_prefix p k j).trans (rst_prefix1 p (k + j))
theorem reachStep_seen {m : List (D × D)} {st : CS} {f g : D} (h : seenB st.2 g = true) : seenB (reachStep m st f).2 g = true := by
  unfold reachStep; split
  · show seenB (kset st.2 f true) g = true
    rw [seenB_kset, h, Bool.or_true]
  · exact h
theorem fold_seen {m : List (D × D)} : ∀ (fs : List D) (st : CS) (g : D), seenB st.2 g = true → seenB (fs.foldl (reachStep m) st).2 g = true
  | [], st, g, h => h
  | f :: fs, st, g, h => by rw [List.foldl_cons]; exact fold_seen fs _ g (reachStep_seen h)
theorem fold_sees {m : List (D × D)} : ∀ (fs : List D) (st : CS) (g : D), g ∈ fs → seenB (fs.foldl (reachStep m) st).2 g = true
  | [], st, g, h => by simp at h
  | f :: fs, st, g, h => by
    rw [List.foldl_cons]
    rcases List.mem_cons.1 h with rfl | h
    · refine fold_seen fs _ g ?_
      unfold reachStep
      split
      · show seenB (kset st.2 g true) g = true
        rw [seenB_kset, kq_refl, Bool.true_or]
      · rename_i hs; simpa using hs
    · exact fold_sees fs _ g h
section
variable {p x f : D} (R : Right p)
include R
theorem Right.reach_mem (hx : x ∈ reach p) : x ∈ p.kids := (rst_inv R _).mem x hx
theorem Right.reach_apart : Apart (reach p) := (rst_inv R _).apart
theorem Right.closed (hx : x ∈ reach p) (hf : f ∈ callsOf (d2 x.kids)) : ∃ e, e ∈ reach p ∧ kq f e.head = true := by
  obtain ⟨k, hk, hxk⟩ := List.getElem_of_mem hx
  have hlen : (reach p).length ≤ p.kids.length := (rst_inv R _).len
  have hx' : (reach p)[k]? = some x := by rw [List.getElem?_eq_getElem hk, hxk]
  have hkn : k + (p.kids.length - k) = p.kids.length := by omega
  have hlt : k < (rst p k).1.length := by
    refine Decidable.byContradiction fun h => ?_
    have := reach_done (p := p) (k := k) (by omega) (by omega)
    rw [this] at hk; omega
  have hpre := rst_prefix p k (p.kids.length - k)
  rw [hkn] at hpre
  have hxr : (rst p k).1[k]? = some x := by
    obtain ⟨t, ht⟩ := hpre
    have : (reach p)[k]? = ((rst p k).1 ++ t)[k]? := by unfold reach; rw [ht]
    rw [this, List.getElem?_append_left hlt] at hx'
    exact hx'
  have hs := fold_sees (m := defsL p.kids) (callsOf (d2 x.kids)) (rst p k) f hf
  rw [← rst_next hxr, (rst_inv R (k + 1)).seen] at hs
  obtain ⟨e, he, hq⟩ := List.any_eq_true.1 hs
  have hkl : k + 1 ≤ p.kids.length := by omega
  have hpre2 := rst_prefix p (k + 1) (p.kids.length - (k + 1))
  rw [show k + 1 + (p.kids.length - (k + 1)) = p.kids.length by omega] at hpre2
  exact ⟨e, hpre2.subset he, hq⟩
end
/-! ### where labels stand -/
theorem atK_kpar {l : List D} (h : Apart l) : ∀ (k : Nat), k ≤ l.length → ∀ (i : Nat) (e f : D), i < k → l[i]? = some e → kq f e.head = true → kpar (atK l k) f = ((i : Int), true)
  | 0, _, i, e, f, hi, _, _ => by omega
  | k + 1, hk, i, e, f, hi, he, hq => by
    obtain ⟨x, hx, _⟩ := get_lt (l := l) (k := k) (by omega)
    rw [atK_next hx, kpar_kset]
    by_cases hik : i = k
    · subst hik
      rw [hx] at he; cases he
      rw [if_pos hq]
    · have hne : kq f x.head = false := by
        cases hc : kq f x.head with
        | false => rfl
        | true =>
          have h1 := List.pairwise_iff_getElem.1 h i k (by omega) (by omega) (by omega)
          have e1 : l[i]'(by omega) = e := (List.getElem?_eq_some_iff.1 he).2
          have e2 : l[k]'(by omega) = x := (List.getElem?_eq_some_iff.1 hx).2
          rw [e1, e2] at h1
          rw [kq_trans (kq_symm hq) hc] at h1; cases h1
      rw [if_neg (by rw [hne]; decide)]
      exact atK_kpar h k (by omega) i e f (by omega) he hq
theorem atL_kpar {l : List D} (h : Apart l) {i : Nat} {e f : D} (he : l[i]? = some e) (hq : kq f e.head = true) : kpar (atL l) f = ((i : Int), true) := by
  rw [← atK_all]
  exact atK_kpar h l.length (Nat.le_refl _) i e f (List.getElem?_eq_some_iff.1 he).1 he hq

/-! ### the same labels, the same expression -/
theorem rexpr_congr {lab lab' : D → D} {nm : D → D} {bare : Bool} : ∀ {d : D}, okE d = true → (∀ y, y ∈ exprsL d → isCall y = true → lab (d1 y.kids) = lab' (d1 y.kids)) → rexpr lab nm bare d = rexpr lab' nm bare d := by
  intro d
  induction d using D.ind with
  | _ k n t l ih =>
    intro hok h
    have hp : (parts (D.mk k n t l)).map (rexpr lab nm bare) = (parts (D.mk k n t l)).map (rexpr lab' nm bare) := by
      refine List.map_congr_left fun x hx => ih x (parts_mem hx) (okE_parts hok x hx) fun y hy hc => h y ?_ hc
      rw [exprsL_eq]
      exact List.mem_cons_of_mem _ (List.mem_flatMap.2 ⟨x, hx, hy⟩)
    rw [rexpr_eq, rexpr_eq lab', hp]
    by_cases hc : isCall (D.mk k n t l) = true
    · rw [h _ (by rw [exprsL_eq]; simp) hc]
    · have hc' : isCall (D.mk k n t l) = false := by simpa using hc
      by_cases h1 : ((D.mk k n t l).kind == 1) = true
      · rw [if_pos h1, if_pos h1]
      rw [if_neg h1, if_neg h1]
      by_cases h2 : ((D.mk k n t l).kind == 2) = true
      · rw [if_pos h2, if_pos h2]
      rw [if_neg h2, if_neg h2]
      by_cases h3 : decide ((D.mk k n t l).head.text = sQuote) = true
      · rw [if_pos h3, if_pos h3]
      rw [if_neg h3, if_neg h3]
      by_cases h4 : decide ((D.mk k n t l).head.text = sLet) = true
      · rw [if_pos h4, if_pos h4]
      rw [if_neg h4, if_neg h4]
      by_cases h5 : decide ((D.mk k n t l).head.text = sCall) = true
      · by_cases hk : (D.mk k n t l).kind = 3
        · exact absurd (isCall_iff.2 ⟨hk, of_decide_eq_true h5⟩) hc
        · rcases okE_kind hok with e | e | e
          · rw [e] at h1; exact absurd rfl h1
          · rw [e] at h2; exact absurd rfl h2
          · exact absurd e hk
      · rw [if_neg h5, if_neg h5]

/-! ### the canonical form -/
theorem map_mapIdx' {α β γ : Type} (g : β → γ) : ∀ (l : List α) (f : Nat → α → β), (l.mapIdx f).map g = l.mapIdx fun i x => g (f i x)
  | [], _ => rfl
  | x :: l, f => by rw [List.mapIdx_cons, List.map_cons, List.mapIdx_cons, map_mapIdx' g l]
theorem cstep_mem {f : D} : ∀ {l : List D} {out : List D}, f ∈ out → f ∈ l.foldl cstep out
  | [], _, h => h
  | e :: l, out, h => by
    rw [List.foldl_cons]
    refine cstep_mem ?_
    unfold cstep; split
    · exact List.mem_append_left _ h
    · exact h
theorem cstep_call {y : D} : ∀ {l : List D} {out : List D}, y ∈ l → isCall y = true → d1 y.kids ∈ l.foldl cstep out
  | [], _, h, _ => by simp at h
  | e :: l, out, h, hc => by
    rw [List.foldl_cons]
    rcases List.mem_cons.1 h with rfl | h
    · refine cstep_mem ?_
      unfold cstep
      rw [hc, Bool.true_and]
      split
      · simp
      · rename_i hs
        simp only [Bool.not_eq_true', Bool.not_eq_false] at hs
        obtain ⟨z, hz, hq⟩ := List.any_eq_true.1 hs
        rw [← deq_of hq]; exact hz
    · exact cstep_call h hc
theorem callsOf_call {d y : D} (hg : GoodE d) (hy : y ∈ exprsL d) (hc : isCall y = true) : d1 y.kids ∈ callsOf d := by
  rw [← crK_calls hg, crK_all]; exact cstep_call hy hc
section
variable {p x : D} (R : Right p)
include R
theorem Right.labF_eq {f : D} (hx : x ∈ reach p) (hf : f ∈ callsOf (d2 x.kids)) : labF ((reach p).map D.head) f = dnum (kpar (atL (reach p)) f).1 := by
  obtain ⟨e, he, hq⟩ := R.closed hx hf
  obtain ⟨i, hi, hie⟩ := List.getElem_of_mem he
  have hie' : (reach p)[i]? = some e := by rw [List.getElem?_eq_getElem hi, hie]
  obtain ⟨hfl, hff⟩ := callsOf_lab (R.good (R.reach_mem hx)) f hf
  obtain ⟨hel, hef⟩ := R.label (R.reach_mem he)
  rw [atL_kpar R.reach_apart hie' hq]
  refine labF_at (y := e.head) (by rw [List.getElem?_map, hie']; rfl) (by rw [deq_kq hel hfl hef hff]; exact hq) ?_
  intro j z hz hj
  rw [List.getElem?_map] at hz
  obtain ⟨w, hw, rfl⟩ := Option.map_eq_some_iff.1 hz
  obtain ⟨hwl, hwf⟩ := R.label (R.reach_mem (List.mem_of_getElem? hw))
  rw [deq_kq hwl hfl hwf hff]
  cases hc : kq f w.head with
  | false => rfl
  | true =>
    have hjl := (List.getElem?_eq_some_iff.1 hw).1
    have e1 : (reach p)[j]'hjl = w := (List.getElem?_eq_some_iff.1 hw).2
    have hk := kq_trans (kq_symm hq) hc
    rcases Nat.lt_or_gt_of_ne hj with h | h
    · have := List.pairwise_iff_getElem.1 R.reach_apart j i hjl hi h
      rw [e1, hie, kq_comm, hk] at this; cases this
    · have := List.pairwise_iff_getElem.1 R.reach_apart i j hi hjl h
      rw [e1, hie, hk] at this; cases this
theorem Right.canon : progD (refCanon p) = canonD p := by
  unfold progD refCanon canonD canonL
  congr 1
  rw [map_mapIdx']
  refine mapIdx_const fun i x hx => ?_
  have hxm := List.mem_of_getElem? hx
  have hxp := R.reach_mem hxm
  obtain ⟨x0, x1, x2, ns, hkk, hns, htd, hxh, _, hd2, _⟩ := R.df hxp
  have hg := R.good hxp
  have hf1 : Aw.formed x1 = true := formed_kids (formed_kids R.formed hxp) (by rw [hkk]; simp)
  have hs := symsD_of hf1 hns
  have h1 : kpar (atL (reach p)) x.head = ((i : Int), true) := atL_kpar R.reach_apart hx (kq_refl _)
  have h2 : d1 x.kids = x1 := by rw [hkk]; rfl
  unfold rdef
  simp only [h1]
  rw [h2, htd, hd2, List.map_id]
  show dlist [dnum i, symsD ns, rexpr (labF ((reach p).map D.head)) id false x2] = _
  rw [hs]
  rw [hd2] at hg
  have hx1 : dlist x1.kids = x1 := dlist_of hf1 (names_some hns).1
  rw [hx1]
  congr 3
  refine congrArg (fun z => [z]) (rexpr_congr hg.ok fun y hy hc => ?_)
  exact R.labF_eq hxm (by rw [hd2]; exact callsOf_call hg hy hc)
end
end Go.Aw
namespace Go.Aw
open Go
theorem fcanon_err (x : D) : (fcanon x).2 = fcheck x := by
  unfold fcanon
  split
  · rfl
  · rename_i h; simp at h; exact h.symm
section
variable {p : D} (R : Right p)
include R
theorem Right.fcanon : Aw.fcanon p = (canonD p, 0) := by unfold Aw.fcanon; rw [if_neg (by rw [R.no]; decide)]
end
theorem fSame_good {x y : D} (R : Right x) (S : Right y) : fSame x y = (deq (canonD x) (canonD y), 0) := by
  unfold fSame
  rw [R.fcanon, if_neg (by simp), S.fcanon]
  rfl
end Go.Aw

/- Programs of layer 17 whose labels are renamed: their expressions, what they call, what is reached, that they are right, and that their canonical form is the same. No program is named. -/
namespace Go.Aw
open Go
/-- An expression with other labels. -/
abbrev rnE (L : D → D) (d : D) : D := rexpr L id false d

/-- The shape of a list that is an expression, and of the same with other labels. -/
theorem rexpr_shape {d : D} (lab nm : D → D) (bare : Bool) (hok : okE d = true) (hk : d.kind = 3) :
    (d.head.text = sQuote ∧ parts d = [] ∧ rexpr lab nm bare d = d) ∨
    (∃ x r, d.head.text = sLet ∧ d.kids = d.head :: x :: r ∧ parts d = r ∧ rexpr lab nm bare d = dlist (d.head :: nm x :: r.map (rexpr lab nm bare))) ∨
    (∃ x r, d.head.text = sCall ∧ d.kids = d.head :: x :: r ∧ parts d = r ∧ rexpr lab nm bare d = dlist ((if bare = true then [lab x] else [d.head, lab x]) ++ r.map (rexpr lab nm bare))) ∨
    (∃ r, d.head.text ≠ sQuote ∧ d.head.text ≠ sLet ∧ d.head.text ≠ sCall ∧ d.kids = d.head :: r ∧ parts d = r ∧ rexpr lab nm bare d = dlist (d.head :: r.map (rexpr lab nm bare))) := by
  obtain ⟨hne, h2, _⟩ := okE_list hok hk
  obtain ⟨x0, r, hx⟩ := kids_cons hne
  have hh := head_cons hx
  have e3 : (d.kind != 3) = false := by rw [hk]; rfl
  have e1 : (d.kind == 1) = false := by rw [hk]; rfl
  have e2 : (d.kind == 2) = false := by rw [hk]; rfl
  have hpp : parts d = if decide (d.head.text = sQuote) = true then [] else if decide (d.head.text = sLet) = true then d.kids.drop 2 else if decide (d.head.text = sCall) = true then d.kids.drop 2 else d.kids.drop 1 := by
    unfold parts; rw [if_neg (by rw [e3]; decide)]
  by_cases hq : d.head.text = sQuote
  · exact .inl ⟨hq, by rw [hpp, if_pos (by simpa using hq)], rexpr_quote e1 e2 (by simpa using hq)⟩
  have hq' : decide (d.head.text = sQuote) = false := by simpa using hq
  rw [if_neg (by simpa using hq)] at hpp
  by_cases hL : d.head.text = sLet
  · have h2l := h2 (.inl hL)
    rw [hx] at h2l
    match r, h2l, hx with
    | x1 :: r, _, hx =>
      rw [if_pos (by simpa using hL), hx] at hpp
      have h1 : d1 d.kids = x1 := by rw [hx]; rfl
      refine .inr (.inl ⟨x1, r, hL, by rw [hh]; exact hx, hpp, ?_⟩)
      rw [rexpr_let e1 e2 hq' (by simpa using hL), h1, hpp]; rfl
  have hL' : decide (d.head.text = sLet) = false := by simpa using hL
  rw [if_neg (by simpa using hL)] at hpp
  by_cases hC : d.head.text = sCall
  · have h2l := h2 (.inr hC)
    rw [hx] at h2l
    match r, h2l, hx with
    | x1 :: r, _, hx =>
      rw [if_pos (by simpa using hC), hx] at hpp
      have h1 : d1 d.kids = x1 := by rw [hx]; rfl
      refine .inr (.inr (.inl ⟨x1, r, hC, by rw [hh]; exact hx, hpp, ?_⟩))
      rw [rexpr_call e1 e2 hq' hL' (by simpa using hC), h1, hpp]; rfl
  have hC' : decide (d.head.text = sCall) = false := by simpa using hC
  rw [if_neg (by simpa using hC), hx] at hpp
  refine .inr (.inr (.inr ⟨r, hq, hL, hC, by rw [hh]; exact hx, hpp, ?_⟩))
  rw [rexpr_other e1 e2 hq' hL' hC', hpp]; rfl

theorem head_dlist (x : D) (l : List D) : (dlist (x :: l)).head = x := rfl
theorem parts_list {d : D} (hk : d.kind = 3) : parts d = if decide (d.head.text = sQuote) = true then [] else if decide (d.head.text = sLet) = true then d.kids.drop 2 else if decide (d.head.text = sCall) = true then d.kids.drop 2 else d.kids.drop 1 := by
  unfold parts; rw [if_neg (by rw [hk]; decide)]

section
variable {L : D → D} {d : D}
/-- With other labels an expression has the parts that it had, with other labels. -/
theorem rnE_parts (hok : okE d = true) : parts (rnE L d) = (parts d).map (rnE L) := by
  rcases okE_kind hok with h | h | h
  · rw [show rnE L d = d from rexpr_num (by rw [h]; rfl), parts_nil (by omega)]; rfl
  · rw [show rnE L d = d from rexpr_sym (by rw [h]; rfl) (by rw [h]; rfl), parts_nil (by omega)]; rfl
  · rcases rexpr_shape L id false hok h with ⟨h1, h2, h3⟩ | ⟨x, r, h1, h2, h3, h4⟩ | ⟨x, r, h1, h2, h3, h4⟩ | ⟨r, h1, h2, h3, h4, h5, h6⟩
    · rw [show rnE L d = d from h3, h2]; rfl
    · rw [show rnE L d = _ from h4, h3, parts_list rfl, head_dlist, if_neg (by rw [h1]; decide), if_pos (by rw [h1]; decide)]; rfl
    · rw [show rnE L d = _ from h4, h3, if_neg (by decide), parts_list rfl]
      have hd : (dlist ([d.head, L x] ++ r.map (rexpr L id false))).head = d.head := rfl
      rw [hd, if_neg (by rw [h1]; decide), if_neg (by rw [h1]; decide), if_pos (by rw [h1]; decide)]; rfl
    · rw [show rnE L d = _ from h6, h5, parts_list rfl, head_dlist, if_neg (by simpa using h1), if_neg (by simpa using h2), if_neg (by simpa using h3)]; rfl
theorem rnE_kind (hok : okE d = true) : (rnE L d).kind = d.kind := by
  rcases okE_kind hok with h | h | h
  · rw [show rnE L d = d from rexpr_num (by rw [h]; rfl)]
  · rw [show rnE L d = d from rexpr_sym (by rw [h]; rfl) (by rw [h]; rfl)]
  · rw [h]
    rcases rexpr_shape L id false hok h with ⟨h1, h2, h3⟩ | ⟨x, r, h1, h2, h3, h4⟩ | ⟨x, r, h1, h2, h3, h4⟩ | ⟨r, h1, h2, h3, h4, h5, h6⟩
    · rw [show rnE L d = d from h3]; exact h
    · rw [show rnE L d = _ from h4]; rfl
    · rw [show rnE L d = _ from h4]; rfl
    · rw [show rnE L d = _ from h6]; rfl
theorem rnE_head (hok : okE d = true) (h : d.kind = 3) : (rnE L d).head = d.head := by
  rcases rexpr_shape L id false hok h with ⟨h1, h2, h3⟩ | ⟨x, r, h1, h2, h3, h4⟩ | ⟨x, r, h1, h2, h3, h4⟩ | ⟨r, h1, h2, h3, h4, h5, h6⟩
  · rw [show rnE L d = d from h3]
  · rw [show rnE L d = _ from h4]; rfl
  · rw [show rnE L d = _ from h4]; rfl
  · rw [show rnE L d = _ from h6]; rfl
theorem rnE_call (hok : okE d = true) (h : isCall d = true) : d1 (rnE L d).kids = L (d1 d.kids) := by
  obtain ⟨hk, ht⟩ := isCall_iff.1 h
  rcases rexpr_shape L id false hok hk with ⟨h1, h2, h3⟩ | ⟨x, r, h1, h2, h3, h4⟩ | ⟨x, r, h1, h2, h3, h4⟩ | ⟨r, h1, h2, h3, h4, h5, h6⟩
  · exact absurd (ht.symm.trans h1) sC_ne_Q
  · exact absurd (ht.symm.trans h1) sC_ne_L
  · rw [show rnE L d = _ from h4, h2]; rfl
  · exact absurd ht h3
theorem rnE_isCall (hok : okE d = true) : isCall (rnE L d) = isCall d := by
  unfold isCall
  rw [rnE_kind hok]
  by_cases hk : d.kind = 3
  · rw [rnE_head hok hk]
  · rw [show (d.kind == 3) = false by simpa using hk]; rfl
/-- Renamed twice is renamed once. -/
theorem rnE_comp {lab nm : D → D} {bare : Bool} : ∀ {d : D}, okE d = true → rexpr lab nm bare (rnE L d) = rexpr (fun f => lab (L f)) nm bare d := by
  intro d
  induction d using D.ind with
  | _ k n t l ih =>
    intro hok
    have hpm : ∀ x, x ∈ parts (D.mk k n t l) → rexpr lab nm bare (rnE L x) = rexpr (fun f => lab (L f)) nm bare x := fun x hx => ih x (parts_mem hx) (okE_parts hok x hx)
    generalize D.mk k n t l = d at *
    rcases okE_kind hok with h | h | h
    · rw [show rnE L d = d from rexpr_num (by rw [h]; rfl), rexpr_num (by rw [h]; rfl), rexpr_num (by rw [h]; rfl)]
    · have e1 : (d.kind == 1) = false := by rw [h]; rfl
      have e2 : (d.kind == 2) = true := by rw [h]; rfl
      rw [show rnE L d = d from rexpr_sym e1 e2, rexpr_sym e1 e2, rexpr_sym e1 e2]
    · have hm : ∀ r, parts d = r → (r.map (rexpr L id false)).map (rexpr lab nm bare) = r.map (rexpr (fun f => lab (L f)) nm bare) := fun r hr => by
        rw [List.map_map]; exact List.map_congr_left fun x hx => hpm x (by rw [hr]; exact hx)
      rcases rexpr_shape L id false hok h with ⟨h1, h2, h3⟩ | ⟨x, r, h1, h2, h3, h4⟩ | ⟨x, r, h1, h2, h3, h4⟩ | ⟨r, h1, h2, h3, h4, h5, h6⟩
      · rw [show rnE L d = d from h3]
        rw [rexpr_quote (by rw [h]; rfl) (by rw [h]; rfl) (by simpa using h1), rexpr_quote (by rw [h]; rfl) (by rw [h]; rfl) (by simpa using h1)]
      · rw [show rnE L d = _ from h4]
        rw [rexpr_let rfl rfl (by rw [head_dlist, h1]; decide) (by rw [head_dlist, h1]; decide), rexpr_let (by rw [h]; rfl) (by rw [h]; rfl) (by rw [h1]; decide) (by rw [h1]; decide), h3, ← hm r h3]
        rw [parts_list rfl, head_dlist, if_neg (by rw [h1]; decide), if_pos (by rw [h1]; decide), h2]; rfl
      · rw [show rnE L d = _ from h4, if_neg (by decide)]
        have hd : (dlist ([d.head, L x] ++ r.map (rexpr L id false))).head = d.head := rfl
        have hp : parts (dlist ([d.head, L x] ++ r.map (rexpr L id false))) = r.map (rexpr L id false) := by
          rw [parts_list rfl, hd, if_neg (by rw [h1]; decide), if_neg (by rw [h1]; decide), if_pos (by rw [h1]; decide)]; rfl
        rw [rexpr_call rfl rfl (by rw [hd, h1]; decide) (by rw [hd, h1]; decide) (by rw [hd, h1]; decide), rexpr_call (by rw [h]; rfl) (by rw [h]; rfl) (by rw [h1]; decide) (by rw [h1]; decide) (by rw [h1]; decide), h3, ← hm r h3, hp, h2]; rfl
      · rw [show rnE L d = _ from h6]
        rw [rexpr_other rfl rfl (by rw [head_dlist]; simpa using h1) (by rw [head_dlist]; simpa using h2) (by rw [head_dlist]; simpa using h3), rexpr_other (by rw [h]; rfl) (by rw [h]; rfl) (by simpa using h1) (by simpa using h2) (by simpa using h3), h5, ← hm r h5]
        rw [parts_list rfl, head_dlist, if_neg (by simpa using h1), if_neg (by simpa using h2), if_neg (by simpa using h3)]; rfl
end
/-! ### what is called -/
section
variable {L : D → D} {S : D → Prop} (hS : ∀ f g, S f → S g → kq (L f) (L g) = kq f g)
include hS
/-- The seen ones, when all are renamed. -/
def SeenL (L : D → D) (S : D → Prop) (st st' : CS) : Prop := st'.1 = st.1.map L ∧ ∀ f, S f → seenB st'.2 (L f) = seenB st.2 f
omit hS in
theorem seenL_nil : SeenL L S ([], []) ([], []) := ⟨rfl, fun f _ => rfl⟩
theorem callStep_rn {d : D} (hok : okE d = true) (hc : isCall d = true → S (d1 d.kids)) {st st' : CS} (h : SeenL L S st st') : SeenL L S (callStep d st) (callStep (rnE L d) st') := by
  unfold callStep
  rw [rnE_isCall hok]
  cases hi : isCall d with
  | false => simpa using h
  | true =>
    have hs := hc hi
    rw [rnE_call hok hi, h.2 _ hs]
    cases hb : seenB st.2 (d1 d.kids) with
    | true => simpa using h
    | false =>
      refine ⟨by simp [h.1], fun f hf => ?_⟩
      show seenB (kset st'.2 (L (d1 d.kids)) true) (L f) = seenB (kset st.2 (d1 d.kids) true) f
      rw [seenB_kset, seenB_kset, h.2 f hf, hS f _ hf hs]
theorem callsD_rn : ∀ {d : D}, okE d = true → (∀ y, y ∈ exprsL d → isCall y = true → S (d1 y.kids)) → ∀ {st st' : CS}, SeenL L S st st' → SeenL L S (callsD d st) (callsD (rnE L d) st') := by
  intro d
  induction d using D.ind with
  | _ k n t l ih =>
    intro hok hc st st' h
    have hpm : ∀ x, x ∈ parts (D.mk k n t l) → ∀ {st st' : CS}, SeenL L S st st' → SeenL L S (callsD x st) (callsD (rnE L x) st') := fun x hx => ih x (parts_mem hx) (okE_parts hok x hx) fun y hy hi => hc y (by rw [exprsL_eq]; exact List.mem_cons_of_mem _ (List.mem_flatMap.2 ⟨x, hx, hy⟩)) hi
    have h0 : SeenL L S (callStep (D.mk k n t l) st) (callStep (rnE L (D.mk k n t l)) st') := callStep_rn hS hok (fun hi => hc _ (by rw [exprsL_eq]; simp) hi) h
    rw [callsD_eq, callsD_eq, rnE_parts hok]
    generalize parts (D.mk k n t l) = r at *
    clear hc hok
    generalize callStep (D.mk k n t l) st = a at *
    generalize callStep (rnE L (D.mk k n t l)) st' = a' at *
    induction r generalizing a a' with
    | nil => exact h0
    | cons x r ihr =>
      rw [List.map_cons, List.foldl_cons, List.foldl_cons]
      exact ihr (fun y hy => hpm y (by simp [hy])) _ _ (hpm x (by simp) h0)
theorem callsOf_rn {d : D} (hok : okE d = true) (hc : ∀ y, y ∈ exprsL d → isCall y = true → S (d1 y.kids)) : callsOf (rnE L d) = (callsOf d).map L := (callsD_rn hS hok hc seenL_nil).1
end
end Go.Aw

/- Programs of layer 17 whose labels are renamed (two): what is reached, the canonical form. No program is named. -/
namespace Go.Aw
open Go
/-- A definition with other labels. -/
abbrev rnF (L : D → D) (d : D) : D := rdef L id false d
theorem rnF_d1 {L : D → D} {d : D} : d1 (rnF L d).kids = dlist ((d1 d.kids).kids.map id) := rfl
theorem rnF_d2 {L : D → D} {d : D} : d2 (rnF L d).kids = rnE L (d2 d.kids) := rfl

theorem find_kq {l : List D} {e f : D} (h : Apart l) (he : e ∈ l) (hq : kq f e.head = true) : l.find? (fun d => kq f d.head) = some e := by
  induction l with
  | nil => simp at he
  | cons y l ih =>
    have hl := List.pairwise_cons.1 h
    rw [List.find?_cons]
    rcases List.mem_cons.1 he with rfl | hm
    · rw [hq]
    · have : kq f y.head = false := by
        cases hy : kq f y.head with
        | false => rfl
        | true => have := hl.1 e hm; rw [kq_trans (kq_symm hy) hq] at this; cases this
      rw [this]; exact ih hl.2 hm

/-- Definitions of a program, the first one among them, that call none but themselves; renamed, they are among those of another one. -/
structure Renames (p q : D) (L : D → D) (K : List D) : Prop where
  sub : ∀ e, e ∈ K → e ∈ p.kids
  main : p.head ∈ K
  closed : ∀ x f, x ∈ K → f ∈ callsOf (d2 x.kids) → ∃ e, e ∈ K ∧ kq f e.head = true
  inj : ∀ a b, a ∈ K → b ∈ K → kq (L a.head) (L b.head) = kq a.head b.head
  into : ∀ e, e ∈ K → rnF L e ∈ q.kids
  first : q.head = rnF L p.head

section
variable {p q : D} {L : D → D} {K : List D} (R : Right p) (S : Right q) (H : Renames p q L K)
include R H
/-- What is called is a label of one of them. -/
theorem Renames.label {x f : D} (hx : x ∈ K) (hf : f ∈ callsOf (d2 x.kids)) : ∃ e, e ∈ K ∧ f = e.head := by
  obtain ⟨e, he, hq⟩ := H.closed x f hx hf
  obtain ⟨h1, h2⟩ := callsOf_lab (R.good (H.sub x hx)) f hf
  obtain ⟨h3, h4⟩ := R.label (H.sub e he)
  exact ⟨e, he, label_eq h1 h3 h2 h4 hq⟩
theorem Renames.calls {x : D} (hx : x ∈ K) : callsOf (rnE L (d2 x.kids)) = (callsOf (d2 x.kids)).map L := by
  have hg := R.good (H.sub x hx)
  refine callsOf_rn (S := fun f => ∃ e, e ∈ K ∧ f = e.head) ?_ hg.ok fun y hy hc => ?_
  · rintro f g ⟨a, ha, rfl⟩ ⟨b, hb, rfl⟩; exact H.inj a b ha hb
  · exact H.label R hx (callsOf_call hg hy hc)
include S
theorem Renames.fold {x : D} (hx : x ∈ K) : ∀ (fs : List D) (st st' : CS), (∀ f, f ∈ fs → f ∈ callsOf (d2 x.kids)) → RI p st → RI q st' → st'.1 = st.1.map (rnF L) → (∀ d, d ∈ st.1 → d ∈ K) →
    RI p (fs.foldl (reachStep (defsL p.kids)) st) ∧ RI q ((fs.map L).foldl (reachStep (defsL q.kids)) st') ∧ ((fs.map L).foldl (reachStep (defsL q.kids)) st').1 = (fs.foldl (reachStep (defsL p.kids)) st).1.map (rnF L) ∧ ∀ d, d ∈ (fs.foldl (reachStep (defsL p.kids)) st).1 → d ∈ K
  | [], st, st', _, i1, i2, i3, i4 => ⟨i1, i2, i3, i4⟩
  | f :: fs, st, st', hf, i1, i2, i3, i4 => by
    rw [List.map_cons, List.foldl_cons, List.foldl_cons]
    obtain ⟨e, he, rfl⟩ := H.label R hx (hf f (by simp))
    have hep := H.sub e he
    have g1 : kget (defsL p.kids) e.head = some e := by rw [defsL_get R.apart]; exact find_kq R.apart hep (kq_refl _)
    have g2 : kget (defsL q.kids) (L e.head) = some (rnF L e) := by rw [defsL_get S.apart]; exact find_kq S.apart (H.into e he) (kq_refl _)
    have hs : seenB st'.2 (L e.head) = seenB st.2 e.head := by
      rw [i2.seen, i1.seen, i3, List.any_map]
      have key : ∀ l : List D, (∀ d, d ∈ l → d ∈ K) → l.any ((fun d => kq (L e.head) d.head) ∘ rnF L) = l.any fun d => kq e.head d.head := by
        intro l
        induction l with
        | nil => intro _; rfl
        | cons y l ih =>
          intro h
          rw [List.any_cons, List.any_cons, ih fun d hd => h d (by simp [hd])]
          congr 1
          exact H.inj e y he (h y (by simp))
      exact key _ i4
    have j1 : RI p (reachStep (defsL p.kids) st e.head) := i1.step hep (kq_refl _) g1
    have j2 : RI q (reachStep (defsL q.kids) st' (L e.head)) := i2.step (H.into e he) (kq_refl _) g2
    refine Renames.fold hx fs _ _ (fun g hg => hf g (by simp [hg])) j1 j2 ?_ ?_
    · cases hb : seenB st.2 e.head with
      | true => rw [reachStep_old hb, reachStep_old (by rw [hs]; exact hb)]; exact i3
      | false => rw [reachStep_new hb g1, reachStep_new (by rw [hs]; exact hb) g2]; simp [i3]
    · cases hb : seenB st.2 e.head with
      | true => rw [reachStep_old hb]; exact i4
      | false =>
        rw [reachStep_new hb g1]
        intro d hd
        simp only [List.mem_append, List.mem_singleton] at hd
        rcases hd with hd | rfl
        · exact i4 d hd
        · exact he
theorem Renames.rst : ∀ k, (Aw.rst q k).1 = (Aw.rst p k).1.map (rnF L) ∧ ∀ d, d ∈ (Aw.rst p k).1 → d ∈ K
  | 0 => by
    refine ⟨?_, ?_⟩
    · show [q.head] = [p.head].map _; rw [H.first]; rfl
    · intro d hd
      have hd : d ∈ [p.head] := hd
      simp only [List.mem_singleton] at hd
      subst hd; exact H.main
  | k + 1 => by
    obtain ⟨h1, h2⟩ := Renames.rst k
    cases hx : (Aw.rst p k).1[k]? with
    | none =>
      have e1 : Aw.rst p (k + 1) = Aw.rst p k := by unfold Aw.rst at hx ⊢; rw [rstK, hx]
      have hx' : (Aw.rst q k).1[k]? = none := by rw [h1, List.getElem?_map, hx]; rfl
      have e2 : Aw.rst q (k + 1) = Aw.rst q k := by unfold Aw.rst at hx' ⊢; rw [rstK, hx']
      rw [e1, e2]; exact ⟨h1, h2⟩
    | some x =>
      have hx' : (Aw.rst q k).1[k]? = some (rnF L x) := by rw [h1, List.getElem?_map, hx]; rfl
      have hxK := h2 x (List.mem_of_getElem? hx)
      rw [rst_next hx, rst_next hx', rnF_d2, H.calls R hxK]
      obtain ⟨_, _, k3, k4⟩ := H.fold R S hxK (callsOf (d2 x.kids)) (Aw.rst p k) (Aw.rst q k) (fun _ h => h) (rst_inv R k) (rst_inv S k) h1 h2
      exact ⟨k3, k4⟩
/-- The renamed definitions are reached in the same order. -/
theorem Renames.reach : Aw.reach q = (Aw.reach p).map (rnF L) ∧ ∀ d, d ∈ Aw.reach p → d ∈ K := by
  have h1 : (Aw.rst p p.kids.length).1.length ≤ p.kids.length := (rst_inv R _).len
  have h2 : (Aw.rst q q.kids.length).1.length ≤ q.kids.length := (rst_inv S _).len
  have e1 := rst_stable h1 q.kids.length
  have e2 := rst_stable h2 p.kids.length
  rw [Nat.add_comm] at e2
  obtain ⟨h3, h4⟩ := H.rst R S (p.kids.length + q.kids.length)
  rw [e1, e2] at h3
  rw [e1] at h4
  exact ⟨h3, h4⟩
/-- The canonical forms are the same. -/
theorem Renames.canonL (label : Int → D) (nm : D → D) (bare : Bool) : Aw.canonL (Aw.reach q) label nm bare = Aw.canonL (Aw.reach p) label nm bare := by
  obtain ⟨hr, hK⟩ := H.reach R S
  unfold Aw.canonL
  rw [hr, List.map_map]
  have hpar : ∀ e, e ∈ Aw.reach p → kpar (atL ((Aw.reach p).map (rnF L))) (L e.head) = kpar (atL (Aw.reach p)) e.head := by
    intro e he
    obtain ⟨i, hi, hie⟩ := List.getElem_of_mem he
    have hie' : (Aw.reach p)[i]? = some e := by rw [List.getElem?_eq_getElem hi, hie]
    rw [atL_kpar R.reach_apart hie' (kq_refl _)]
    have ha : Apart ((Aw.reach p).map (rnF L)) := by rw [← hr]; exact S.reach_apart
    exact atL_kpar ha (by rw [List.getElem?_map, hie']; rfl) (kq_refl _)
  refine List.map_congr_left fun x hx => ?_
  have hg := R.good (R.reach_mem hx)
  show dlist [label (kpar (atL ((Aw.reach p).map (rnF L))) (L x.head)).1, dlist ((d1 (rnF L x).kids).kids.map nm), rexpr _ nm bare (rnE L (d2 x.kids))] = dlist [label (kpar (atL (Aw.reach p)) x.head).1, _, _]
  rw [rnE_comp hg.ok, hpar x hx, rnF_d1, dlist_kids, List.map_id]
  congr 3
  refine congrArg (fun z => [z]) (rexpr_congr hg.ok fun y hy hc => ?_)
  obtain ⟨e, he, hq⟩ := R.closed hx (callsOf_call hg hy hc)
  obtain ⟨h1, h2⟩ := callsOf_lab hg _ (callsOf_call hg hy hc)
  obtain ⟨h3, h4⟩ := R.label (R.reach_mem he)
  rw [label_eq h1 h3 h2 h4 hq, hpar e he]
theorem Renames.canon : canonD q = canonD p := by unfold canonD; rw [H.canonL R S]
end
end Go.Aw

/- Programs of layer 17 whose labels are renamed (three): that they are right. No program is named. -/
namespace Go.Aw
open Go
/-! ### what makes an expression right -/
theorem ccall_mk {ps : List (D × Int)} {b : List ByteArray} {l : List D} (h1 : 2 ≤ l.length) (h2 : isLabel (d1 l) = true) (h3 : (kpar ps (d1 l)).2 = true) (h4 : (kpar ps (d1 l)).1 = (l.length : Int) - 2) (h5 : cll ps b (l.drop 2) = 0) : ccall ps b l = 0 := by
  unfold ccall
  have g1 : l.getD 1 dnone = d1 l := rfl
  rw [g1, if_neg (by simp only [h2, Bool.not_true, Bool.or_false, decide_eq_true_eq]; omega), if_neg (by rw [h3]; simp), if_neg (by rw [h4]; simp)]
  exact h5
theorem cexpr_mk {ps : List (D × Int)} {b : List ByteArray} {d : D} (hk : d.kind = 3) (hne : d.kids ≠ []) (hh : d.head.kind = 2)
    (h : (d.head.text = sQuote ∧ d.kids.length = 2) ∨ (d.head.text = sIf ∧ d.kids.length = 4 ∧ cll ps b (d.kids.drop 1) = 0) ∨
      (d.head.text = sLet ∧ d.kids.length = 4 ∧ isName (d1 d.kids) = true ∧ cexpr ps b (d2 d.kids) = 0 ∧ cexpr ps (b ++ [(d1 d.kids).text]) (d.kids.getD 3 dnone) = 0) ∨
      (d.head.text = sCall ∧ ccall ps b d.kids = 0) ∨
      (d.head.text ≠ sQuote ∧ d.head.text ≠ sIf ∧ d.head.text ≠ sLet ∧ d.head.text ≠ sCall ∧ (arity d.head.text).2 = true ∧ (arity d.head.text).1 = (d.kids.length : Int) - 1 ∧ cll ps b (d.kids.drop 1) = 0)) : cexpr ps b d = 0 := by
  rw [cexpr_eq]
  have e1 : (d.kind == 1) = false := by rw [hk]; rfl
  have e2 : (d.kind == 2) = false := by rw [hk]; rfl
  have hl : d.kids.length ≠ 0 := fun e => hne (List.eq_nil_of_length_eq_zero e)
  have e4 : ((d.kids.length : Int) == 0) = false := by rw [beq_eq_false_iff_ne]; omega
  simp only [e1, e2, e4, hh, bne_self_eq_false, Bool.or_false, Bool.false_and, Bool.false_eq_true, if_false]
  rcases h with ⟨h1, h2⟩ | ⟨h1, h2, h3⟩ | ⟨h1, h2, h3, h4, h5⟩ | ⟨h1, h2⟩ | ⟨h1, h2, h3, h4, h5, h6, h7⟩
  · rw [if_pos (by simpa using h1), if_neg (by rw [h2]; decide)]
  · rw [if_neg (by rw [h1]; decide), if_pos (by simpa using h1), if_neg (by rw [h2]; decide)]; exact h3
  · have g2 : cnth ps b 2 d.kids = cexpr ps b (d2 d.kids) := cnth_get ps b 2 d.kids _ (by simp [d2, List.getD, h2])
    have g3 : cnth ps (b ++ [(d.kids.getD 1 dnone).text]) 3 d.kids = cexpr ps (b ++ [(d.kids.getD 1 dnone).text]) (d.kids.getD 3 dnone) := cnth_get ps _ 3 d.kids _ (by simp [List.getD, h2])
    have g1 : d.kids.getD 1 dnone = d1 d.kids := rfl
    rw [if_neg (by rw [h1]; decide), if_neg (by rw [h1]; decide), if_pos (by simpa using h1), g2, g3, g1, if_neg (by rw [h2, h3]; decide), if_neg (by rw [h4]; decide)]; exact h5
  · rw [if_neg (by rw [h1]; decide), if_neg (by rw [h1]; decide), if_neg (by rw [h1]; decide), if_pos (by simpa using h1)]; exact h2
  · rw [if_neg (by simpa using h1), if_neg (by simpa using h2), if_neg (by simpa using h3), if_neg (by simpa using h4), if_neg (by rw [h5]; decide), if_neg (by rw [h6]; simp)]; exact h7

section
variable {L : D → D} {ps ps' : List (D × Int)}
/-- An expression with other labels is right if these are known, as functions of as many names. -/
theorem cexpr_rn : ∀ (d : D) (b : List ByteArray), cexpr ps b d = 0 → formed d = true → (∀ y, y ∈ exprsL d → isCall y = true → isLabel (L (d1 y.kids)) = true ∧ kpar ps' (L (d1 y.kids)) = kpar ps (d1 y.kids)) → cexpr ps' b (rnE L d) = 0 := by
  intro d
  induction d using D.ind with
  | _ k n t l ih =>
    intro b h hf hc
    have hok := okE_of _ _ h hf
    have hpm : ∀ x, x ∈ parts (D.mk k n t l) → ∀ b, cexpr ps b x = 0 → cexpr ps' b (rnE L x) = 0 := fun x hx b hb => ih x (parts_mem hx) b hb (formed_kids hf (parts_mem hx)) fun y hy hi => hc y (by rw [exprsL_eq]; exact List.mem_cons_of_mem _ (List.mem_flatMap.2 ⟨x, hx, hy⟩)) hi
    have hc0 := hc (D.mk k n t l) (by rw [exprsL_eq]; simp)
    clear hc ih
    generalize D.mk k n t l = d at *
    have hcl : ∀ r, parts d = r → cll ps b r = 0 → cll ps' b (r.map (rnE L)) = 0 := fun r hr h0 => cll_zero.2 fun x hx => by
      obtain ⟨y, hy, rfl⟩ := List.mem_map.1 hx
      exact hpm y (by rw [hr]; exact hy) b (cll_zero.1 h0 y hy)
    rcases okE_kind hok with e | e | e
    · rw [show rnE L d = d from rexpr_num (by rw [e]; rfl), cexpr_eq, if_pos (by rw [e]; rfl)]
    · rw [show rnE L d = d from rexpr_sym (by rw [e]; rfl) (by rw [e]; rfl)]
      rw [cexpr_eq] at h ⊢
      rw [if_neg (by rw [e]; decide)] at h ⊢
      split at h
      · cases h
      · rename_i h1
        rw [if_neg h1]
        split at h
        · cases h
        · rename_i h2
          rw [if_neg h2, if_pos (by rw [e]; rfl)]
    · obtain ⟨hne, hh, hcs⟩ := cexpr_list h e
      rcases rexpr_shape L id false hok e with ⟨h1, h2, h3⟩ | ⟨x, r, h1, h2, h3, h4⟩ | ⟨x, r, h1, h2, h3, h4⟩ | ⟨r, h1, h2, h3, h4, h5, h6⟩
      · rw [show rnE L d = d from h3]
        refine cexpr_mk e hne hh (.inl ⟨h1, ?_⟩)
        rcases hcs with ⟨_, g⟩ | ⟨g, _⟩ | ⟨g, _⟩ | ⟨g, _⟩ | ⟨g, _⟩
        · exact g
        · exact absurd (g.symm.trans h1) sI_ne_Q
        · exact absurd (g.symm.trans h1) sL_ne_Q
        · exact absurd (g.symm.trans h1) sC_ne_Q
        · exact absurd h1 g
      · rw [show rnE L d = _ from h4]
        refine cexpr_mk rfl (by simp [dlist_kids]) hh (.inr (.inr (.inl ⟨h1, ?_⟩)))
        rcases hcs with ⟨g, _⟩ | ⟨g, _⟩ | ⟨_, g1, g2, g3, g4⟩ | ⟨g, _⟩ | ⟨_, _, g, _⟩
        · exact absurd (g.symm.trans h1) sQ_ne_L
        · exact absurd (g.symm.trans h1) sI_ne_L
        · rw [h2] at g1 g2 g3 g4
          match r, g1, g2, g3, g4, h3 with
          | [a, c], _, g2, g3, g4, h3 => exact ⟨rfl, g2, hpm a (by rw [h3]; simp) b g3, hpm c (by rw [h3]; simp) _ g4⟩
        · exact absurd (g.symm.trans h1) sC_ne_L
        · exact absurd h1 g
      · rw [show rnE L d = _ from h4, if_neg (by decide)]
        refine cexpr_mk rfl (by simp [dlist_kids]) hh (.inr (.inr (.inr (.inl ⟨h1, ?_⟩))))
        have hi := hc0 (isCall_iff.2 ⟨e, h1⟩)
        have e1 : d1 d.kids = x := by rw [h2]; rfl
        rw [e1] at hi
        rcases hcs with ⟨g, _⟩ | ⟨g, _⟩ | ⟨g, _⟩ | ⟨_, g⟩ | ⟨_, _, _, g, _⟩
        · exact absurd (g.symm.trans h1) sQ_ne_C
        · exact absurd (g.symm.trans h1) sI_ne_C
        · exact absurd (g.symm.trans h1) sL_ne_C
        · obtain ⟨c1, c2, c3, c4, c5⟩ := ccall_zero g
          rw [e1] at c2 c3 c4
          rw [h2] at c1 c4 c5
          refine ccall_mk (by simp [dlist_kids]) hi.1 (by rw [show d1 (dlist ([d.head, L x] ++ r.map (rexpr L id false))).kids = L x from rfl, hi.2]; exact c3) ?_ (hcl r h3 c5)
          rw [show d1 (dlist ([d.head, L x] ++ r.map (rexpr L id false))).kids = L x from rfl, hi.2, c4]
          simp [dlist_kids]
        · exact absurd h1 g
      · rw [show rnE L d = _ from h6]
        have hlen : (dlist (d.head :: r.map (rexpr L id false))).kids.length = d.kids.length := by rw [h4]; simp [dlist_kids]
        refine cexpr_mk rfl (by simp [dlist_kids]) hh ?_
        rw [hlen]
        rcases hcs with ⟨g, _⟩ | ⟨g, g1, g2⟩ | ⟨g, _⟩ | ⟨g, _⟩ | ⟨g1, g2, g3, g4, g5, g6, g7⟩
        · exact absurd g h1
        · rw [h4] at g2
          exact .inr (.inl ⟨g, g1, hcl r h5 g2⟩)
        · exact absurd g h2
        · exact absurd g h3
        · rw [h4] at g7
          exact .inr (.inr (.inr (.inr ⟨g1, g2, g3, g4, g5, g6, hcl r h5 g7⟩)))
end
/-! ### right data -/
theorem formed_dlist (l : List D) : formed (dlist l) = true ↔ ∀ x, x ∈ l → formed x = true := by
  rw [formed_eq, if_neg (show ¬((dlist l).kind == 1) = true from fun h => by cases h), if_neg (show ¬((dlist l).kind == 2) = true from fun h => by cases h), if_pos (show ((dlist l).kind == 3) = true from rfl)]
  have e1 : ((dlist l).num == 0) = true := rfl
  have e2 : decide ((dlist l).text = es) = true := rfl
  rw [e1, e2, dlist_kids]
  simp
theorem deeps_le {l : List D} {m : Nat} : D.deeps l ≤ m ↔ ∀ x, x ∈ l → x.deep ≤ m := by
  induction l with
  | nil => simp [D.deeps]
  | cons x l ih => simp only [D.deeps, Nat.max_le, ih, List.mem_cons, forall_eq_or_imp]
theorem deep_le_deeps {l : List D} {x : D} (h : x ∈ l) : x.deep ≤ D.deeps l := deeps_le.1 (Nat.le_refl _) x h
theorem deep_dlist (l : List D) : (dlist l).deep = 1 + D.deeps l := rfl
section
variable {L : D → D}
theorem formed_rn : ∀ {d : D}, okE d = true → formed d = true → (∀ y, y ∈ exprsL d → isCall y = true → formed (L (d1 y.kids)) = true) → formed (rnE L d) = true := by
  intro d
  induction d using D.ind with
  | _ k n t l ih =>
    intro hok hf hc
    have hpm : ∀ x, x ∈ parts (D.mk k n t l) → formed (rnE L x) = true := fun x hx => ih x (parts_mem hx) (okE_parts hok x hx) (formed_kids hf (parts_mem hx)) fun y hy hi => hc y (by rw [exprsL_eq]; exact List.mem_cons_of_mem _ (List.mem_flatMap.2 ⟨x, hx, hy⟩)) hi
    have hc0 := hc (D.mk k n t l) (by rw [exprsL_eq]; simp)
    clear hc ih
    generalize D.mk k n t l = d at *
    have hmp : ∀ r, parts d = r → ∀ x, x ∈ r.map (rexpr L id false) → formed x = true := fun r hr x hx => by
      obtain ⟨y, hy, rfl⟩ := List.mem_map.1 hx
      exact hpm y (by rw [hr]; exact hy)
    rcases okE_kind hok with e | e | e
    · rw [show rnE L d = d from rexpr_num (by rw [e]; rfl)]; exact hf
    · rw [show rnE L d = d from rexpr_sym (by rw [e]; rfl) (by rw [e]; rfl)]; exact hf
    · rcases rexpr_shape L id false hok e with ⟨h1, h2, h3⟩ | ⟨x, r, h1, h2, h3, h4⟩ | ⟨x, r, h1, h2, h3, h4⟩ | ⟨r, h1, h2, h3, h4, h5, h6⟩
      · rw [show rnE L d = d from h3]; exact hf
      · rw [show rnE L d = _ from h4, formed_dlist]
        intro y hy
        simp only [List.mem_cons] at hy
        rcases hy with rfl | rfl | hy
        · exact formed_kids hf (by rw [h2]; simp)
        · exact formed_kids hf (by rw [h2]; simp)
        · exact hmp r h3 y hy
      · rw [show rnE L d = _ from h4, if_neg (by decide), formed_dlist]
        intro y hy
        simp only [List.cons_append, List.nil_append, List.mem_cons] at hy
        have e1 : d1 d.kids = x := by rw [h2]; rfl
        rcases hy with rfl | rfl | hy
        · exact formed_kids hf (by rw [h2]; simp)
        · have := hc0 (isCall_iff.2 ⟨e, h1⟩); rwa [e1] at this
        · exact hmp r h3 y hy
      · rw [show rnE L d = _ from h6, formed_dlist]
        intro y hy
        simp only [List.mem_cons] at hy
        rcases hy with rfl | hy
        · exact formed_kids hf (by rw [h4]; simp)
        · exact hmp r h5 y hy
theorem deep_rn (hL : ∀ f, (L f).deep ≤ f.deep) : ∀ {d : D}, okE d = true → (rnE L d).deep ≤ d.deep := by
  intro d
  induction d using D.ind with
  | _ k n t l ih =>
    intro hok
    have hpm : ∀ x, x ∈ parts (D.mk k n t l) → (rnE L x).deep ≤ x.deep := fun x hx => ih x (parts_mem hx) (okE_parts hok x hx)
    clear ih
    generalize D.mk k n t l = d at *
    have hmp : ∀ r, parts d = r → ∀ x, x ∈ r.map (rexpr L id false) → x.deep ≤ D.deeps d.kids := fun r hr x hx => by
      obtain ⟨y, hy, rfl⟩ := List.mem_map.1 hx
      exact Nat.le_trans (hpm y (by rw [hr]; exact hy)) (deep_le_deeps (parts_mem (by rw [hr]; exact hy)))
    rcases okE_kind hok with e | e | e
    · rw [show rnE L d = d from rexpr_num (by rw [e]; rfl)]; exact Nat.le_refl _
    · rw [show rnE L d = d from rexpr_sym (by rw [e]; rfl) (by rw [e]; rfl)]; exact Nat.le_refl _
    · rcases rexpr_shape L id false hok e with ⟨h1, h2, h3⟩ | ⟨x, r, h1, h2, h3, h4⟩ | ⟨x, r, h1, h2, h3, h4⟩ | ⟨r, h1, h2, h3, h4, h5, h6⟩
      · rw [show rnE L d = d from h3]; exact Nat.le_refl _
      · rw [show rnE L d = _ from h4, deep_dlist, deep_kids d]
        refine Nat.add_le_add_left (deeps_le.2 fun y hy => ?_) 1
        simp only [List.mem_cons] at hy
        rcases hy with rfl | rfl | hy
        · exact deep_le_deeps (by rw [h2]; simp)
        · exact deep_le_deeps (by rw [h2]; simp)
        · exact hmp r h3 y hy
      · rw [show rnE L d = _ from h4, if_neg (by decide), deep_dlist, deep_kids d]
        refine Nat.add_le_add_left (deeps_le.2 fun y hy => ?_) 1
        simp only [List.cons_append, List.nil_append, List.mem_cons] at hy
        rcases hy with rfl | rfl | hy
        · exact deep_le_deeps (by rw [h2]; simp)
        · exact Nat.le_trans (hL x) (deep_le_deeps (by rw [h2]; simp))
        · exact hmp r h3 y hy
      · rw [show rnE L d = _ from h6, deep_dlist, deep_kids d]
        refine Nat.add_le_add_left (deeps_le.2 fun y hy => ?_) 1
        simp only [List.mem_cons] at hy
        rcases hy with rfl | hy
        · exact deep_le_deeps (by rw [h4]; simp)
        · exact hmp r h5 y hy
end
/-! ### what makes a program right -/
theorem bodies_mk {ps : List (D × Int)} : ∀ {l : List D}, (∀ d, d ∈ l → cexpr ps (nlist (names (d1 d.kids))) (d2 d.kids) = 0) → bodies ps l = 0
  | [], _ => rfl
  | y :: l, h => by
    rw [bodies, if_neg (by rw [h y (by simp)]; decide)]
    exact bodies_mk fun d hd => h d (by simp [hd])
theorem right_mk {q : D} (hd : dcheck q = 0) (hk : q.kind = 3) (hn : q.kids ≠ []) (hl : q.kids.length ≤ 4000) (hdef : ∀ d, d ∈ q.kids → DefOk d) (ha : Apart q.kids)
    (hb : ∀ d, d ∈ q.kids → cexpr (headsGo [] q.kids).2 (nlist (names (d1 d.kids))) (d2 d.kids) = 0) (hs : q.size ≤ 900000000) : Right q := by
  refine ⟨?_, hs⟩
  have h0 : (headsGo [] q.kids).1 = 0 := headsGo_zero ha fun d hd => ⟨hdef d hd, rfl⟩
  have hn0 : q.kids.length ≠ 0 := fun e => hn (List.eq_nil_of_length_eq_zero e)
  have hh : heads q = headsGo [] q.kids := by
    unfold heads
    rw [if_neg (by rw [hd]; decide), if_neg (by rw [hk]; simp only [bne_self_eq_false, Bool.false_or, beq_iff_eq]; omega), if_neg (by simp; omega)]
  unfold fcheck
  rw [hh, if_neg (by rw [h0]; decide)]
  exact bodies_mk hb
theorem par_mk {l : List D} (hdef : ∀ d, d ∈ l → DefOk d) (ha : Apart l) (f : D) : kpar (headsGo [] l).2 f = (match l.find? fun d => kq f d.head with | some d => ((nlist (names (d1 d.kids))).length, true) | none => (0, false)) :=
  (headsGo_apart (headsGo_zero ha fun d hd => ⟨hdef d hd, rfl⟩)).2.2 f
theorem names_dlist {x : D} (h : x.kind = 3) : names (dlist (x.kids.map id)) = names x := by
  unfold names
  rw [dlist_kids, List.map_id, h]; rfl

/-- A definition whose body is a number. -/
def Extra (d : D) : Prop := DefOk d ∧ (d2 d.kids).kind = 1
/-- A program made of renamed definitions, and of others that do nothing, is right. -/
theorem Renames.right {p q : D} {L : D → D} {K : List D} (R : Right p) (H : Renames p q L K) (hlab : ∀ e, e ∈ K → isLabel (L e.head) = true)
    (hd : dcheck q = 0) (hk : q.kind = 3) (hl : q.kids.length ≤ 4000) (ha : Apart q.kids) (hq : ∀ d, d ∈ q.kids → (∃ e, e ∈ K ∧ d = rnF L e) ∨ Extra d) (hs : q.size ≤ 900000000) : Right q := by
  have hdef : ∀ d, d ∈ q.kids → DefOk d := by
    intro d hd
    rcases hq d hd with ⟨e, he, rfl⟩ | h
    · obtain ⟨x0, x1, x2, ns, hk, hk3, hlx, hns, h8⟩ := R.def (H.sub e he)
      have e1 : d1 e.kids = x1 := by rw [hk]; rfl
      refine ⟨_, _, _, ns, rfl, rfl, hlab e he, ?_, h8⟩
      rw [e1, names_dlist (names_some hns).1]; exact hns
    · exact h.1
  refine right_mk hd hk (fun e => ?_) hl hdef ha (fun d hd => ?_) hs
  · have := H.into _ H.main
    rw [e] at this; simp at this
  · rcases hq d hd with ⟨e, he, rfl⟩ | h
    · have hep := H.sub e he
      obtain ⟨x0, x1, x2, ns, hk, hk3, hlx, hns, h8⟩ := R.def hep
      have e1 : d1 e.kids = x1 := by rw [hk]; rfl
      have hg := R.good hep
      rw [rnF_d1, rnF_d2, e1, names_dlist (names_some hns).1]
      refine cexpr_rn _ _ (by rw [← e1]; exact R.body hep) (R.bodyF hep) fun y hy hc => ?_
      obtain ⟨a, haK, hfa⟩ := H.label R he (callsOf_call hg hy hc)
      rw [hfa]
      refine ⟨hlab a haK, ?_⟩
      have hap := H.sub a haK
      obtain ⟨y0, y1, y2, ms, hk', _, _, hms, _⟩ := R.def hap
      have e1' : d1 a.kids = y1 := by rw [hk']; rfl
      rw [par_mk hdef ha, show q.kids.find? (fun d => kq (L a.head) d.head) = some (rnF L a) from find_kq ha (H.into a haK) (kq_refl _), R.par, find_kq R.apart hap (kq_refl _)]
      show (((nlist (names (d1 (rnF L a).kids))).length : Int), true) = (((nlist (names (d1 a.kids))).length : Int), true)
      rw [rnF_d1, e1', names_dlist (names_some hms).1]
    · rw [cexpr_eq, if_pos (by rw [h.2]; rfl)]
end Go.Aw

/- Programs of layer 17 whose labels are renamed (four): a canonical form is a right program, and its own canonical form. No program is named. -/
namespace Go.Aw
open Go
/-- The number of a label among what is reached. -/
def posL (p : D) (f : D) : D := dnum (kpar (atL (reach p)) f).1
theorem canonD_kids (p : D) : (canonD p).kids = (reach p).map (rnF (posL p)) := rfl
theorem dcheck_iff {d : D} : dcheck d = 0 ↔ formed d = true ∧ d.size ≤ 100000 ∧ d.deep ≤ 1000 := by
  unfold dcheck
  constructor
  · intro h
    split at h
    · cases h
    · split at h
      · cases h
      · split at h
        · cases h
        · rename_i h1 h2 h3
          simp at h1 h2 h3
          exact ⟨h1, by omega, by omega⟩
  · rintro ⟨h1, h2, h3⟩
    rw [if_neg (by rw [h1]; decide), if_neg (by simp; omega), if_neg (by simp; omega)]
/-- A definition with other labels is no deeper, and formed. -/
theorem deep_rnF {L : D → D} (hL : ∀ f, (L f).deep ≤ f.deep) {d : D} (hd : DefOk d) (hok : okE (d2 d.kids) = true) : (rnF L d).deep ≤ d.deep := by
  obtain ⟨x0, x1, x2, ns, hk, _⟩ := hd
  have e1 : d1 d.kids = x1 := by rw [hk]; rfl
  have e2 : d2 d.kids = x2 := by rw [hk]; rfl
  rw [e2] at hok
  show (dlist [L d.head, dlist ((d1 d.kids).kids.map id), rnE L (d2 d.kids)]).deep ≤ _
  rw [e1, e2, head_cons hk, deep_dlist, deep_kids d, hk, List.map_id]
  have h1 := hL x0
  have h2 := deep_rn hL hok
  have h3 := deep_kids x1
  simp only [D.deeps, deep_dlist] at *
  omega
theorem formed_rnF {L : D → D} {d : D} (hd : DefOk d) (hf : formed d = true) (hok : okE (d2 d.kids) = true) (h0 : formed (L d.head) = true) (hc : ∀ y, y ∈ exprsL (d2 d.kids) → isCall y = true → formed (L (d1 y.kids)) = true) : formed (rnF L d) = true := by
  obtain ⟨x0, x1, x2, ns, hk, _⟩ := hd
  have e1 : d1 d.kids = x1 := by rw [hk]; rfl
  have e2 : d2 d.kids = x2 := by rw [hk]; rfl
  show Aw.formed (dlist [L d.head, dlist ((d1 d.kids).kids.map id), rnE L (d2 d.kids)]) = true
  rw [formed_dlist]
  intro y hy
  simp only [List.mem_cons, List.not_mem_nil, or_false] at hy
  rcases hy with rfl | rfl | rfl
  · exact h0
  · rw [formed_dlist, List.map_id, e1]
    intro y hy
    exact formed_kids (formed_kids hf (by rw [hk]; simp)) hy
  · exact formed_rn hok (by rw [e2]; exact formed_kids hf (by rw [hk]; simp)) hc

section
variable {p : D} (R : Right p)
include R
theorem Right.pos {e : D} {i : Nat} (h : (reach p)[i]? = some e) : posL p e.head = dnum i := by unfold posL; rw [atL_kpar R.reach_apart h (kq_refl _)]
theorem Right.reach_len2 : (reach p).length ≤ p.kids.length := (rst_inv R _).len
theorem Right.posAt {e : D} (h : e ∈ reach p) : ∃ i : Nat, i < (reach p).length ∧ (reach p)[i]? = some e ∧ posL p e.head = dnum i := by
  obtain ⟨i, hi, hie⟩ := List.getElem_of_mem h
  have hie' : (reach p)[i]? = some e := by rw [List.getElem?_eq_getElem hi, hie]
  exact ⟨i, hi, hie', R.pos hie'⟩
omit R in
theorem kq_dnum {i j : Int} : kq (dnum i) (dnum j) = decide (i = j) := by
  show ((i == j) && decide (es = es)) = decide (i = j)
  by_cases h : i = j
  · subst h; simp
  · simp [h]
omit R in
theorem isLabel_dnum {i : Int} (h0 : 0 ≤ i) (h1 : i ≤ 2147483647) : isLabel (dnum i) = true := by
  unfold isLabel
  rw [if_pos (by rfl)]
  show (decide (0 ≤ i) && decide (i ≤ 2147483647)) = true
  simp [h0, h1]
omit R in
theorem head0 : (reach p)[0]? = some p.head := by
  have h := rst_prefix p 0 p.kids.length
  rw [Nat.zero_add] at h
  obtain ⟨t, ht⟩ := h
  unfold reach
  rw [← ht]; rfl
theorem Right.renames : Renames p (canonD p) (posL p) (reach p) where
  sub := fun e h => R.reach_mem h
  main := List.mem_of_getElem? head0
  closed := fun x f hx hf => R.closed hx hf
  inj := by
    intro a b ha hb
    obtain ⟨i, hi, hia, hpa⟩ := R.posAt ha
    obtain ⟨j, hj, hjb, hpb⟩ := R.posAt hb
    rw [hpa, hpb, kq_dnum]
    by_cases e : i = j
    · subst e
      rw [hia] at hjb; cases hjb
      rw [kq_refl]; simp
    · have hne : kq a.head b.head = false := by
        have e1 : (reach p)[i]'hi = a := (List.getElem?_eq_some_iff.1 hia).2
        have e2 : (reach p)[j]'hj = b := (List.getElem?_eq_some_iff.1 hjb).2
        rcases Nat.lt_or_gt_of_ne e with h | h
        · have := List.pairwise_iff_getElem.1 R.reach_apart i j hi hj h
          rwa [e1, e2] at this
        · have := List.pairwise_iff_getElem.1 R.reach_apart j i hj hi h
          rw [e1, e2, kq_comm] at this; exact this
      rw [hne]; simp; omega
  into := fun e h => by rw [canonD_kids]; exact List.mem_map_of_mem h
  first := by
    have : (canonD p).kids[0]? = some (rnF (posL p) p.head) := by rw [canonD_kids, List.getElem?_map, head0]; rfl
    exact D.head_of this
theorem Right.canonR : Right (canonD p) := by
  have H := R.renames
  have hpk := heads_ok R.heads
  have hchk := dcheck_iff.1 hpk.1
  have hsz := canon_size R
  have hlen := R.reach_len2
  have hL : ∀ f, (posL p f).deep ≤ f.deep := fun f => by
    show 1 ≤ f.deep
    rw [deep_kids]; omega
  refine H.right R (fun e he => ?_) (dcheck_iff.2 ⟨?_, by omega, ?_⟩) rfl (by rw [canonD_kids, List.length_map]; omega) ?_ (fun d hd => ?_) (by have := R.sz; omega)
  · obtain ⟨i, hi, _, h⟩ := R.posAt he
    rw [h]; exact isLabel_dnum (by omega) (by omega)
  · show Aw.formed (dlist (canonD p).kids) = true
    rw [formed_dlist, canonD_kids]
    intro y hy
    obtain ⟨d, hd, rfl⟩ := List.mem_map.1 hy
    have hdp := R.reach_mem hd
    exact formed_rnF (R.def hdp) (formed_kids R.formed hdp) (R.ok hdp) rfl fun y _ _ => rfl
  · show (dlist (canonD p).kids).deep ≤ 1000
    rw [deep_dlist, canonD_kids]
    have h1 := deep_kids p
    have h2 : D.deeps ((reach p).map (rnF (posL p))) ≤ D.deeps p.kids := by
      refine deeps_le.2 fun y hy => ?_
      obtain ⟨d, hd, rfl⟩ := List.mem_map.1 hy
      have hdp := R.reach_mem hd
      exact Nat.le_trans (deep_rnF hL (R.def hdp) (R.ok hdp)) (deep_le_deeps hdp)
    omega
  · rw [canonD_kids]
    refine List.pairwise_map.2 ?_
    refine List.Pairwise.imp_of_mem (fun {a b} ha hb h => ?_) R.reach_apart
    show kq (posL p a.head) (posL p b.head) = false
    rw [H.inj a b ha hb]; exact h
  · rw [canonD_kids] at hd
    obtain ⟨e, he, rfl⟩ := List.mem_map.1 hd
    exact .inl ⟨e, he, rfl⟩
/-- Its own canonical form. -/
theorem Right.canon_canon : canonD (canonD p) = canonD p := R.renames.canon R R.canonR
theorem Right.canon_reach : reach (canonD p) = (canonD p).kids := (R.renames.reach R R.canonR).1
end
end Go.Aw

/- Layer 17 (eleven): a program with arguments as an expression, by the program and by the specification. No program is named. -/
namespace Go.Aw
open Go
@[go_sem] theorem modify_app2 {l : List Tok} {t u : Tok} {f : Tok → Tok} : (l ++ [t, u]).modify (l.length + 1) f = l ++ [t, f u] := by
  induction l with
  | nil => rfl
  | cons a l ih => simp [ih]
@[go_sem] theorem take_app2 {α : Type} {l : List α} {a b : α} : (l ++ [a, b]).take (l.length + 2) = l ++ [a, b] := List.take_of_length_le (by simp)

/-! ### sizes -/
section
variable {p : D} (R : Right p)
include R
end
end Go.Aw
namespace Go.Aw
open Go
end Go.Aw

/- Programs of layer 17 whose labels are renamed (five): numbers for labels, definitions in another order, one more; the same canonical form. No program is named. -/
namespace Go.Aw
open Go
/-- The number of a label, from one on. -/
def numL (ls : List D) (n : Int) (f : D) : D := if idxOf (fun y => deq y f) ls < 0 then f else dnum (n + idxOf (fun y => deq y f) ls)
def relab (p : D) (n : Int) : D := dlist (p.kids.map (rnF (numL (p.kids.map D.head) n)))
def extraD (lab : D) : D := dlist [lab, dlist [], dnum 1]
def turnD (y lab : D) : D := dlist (y.head :: (y.kids.drop 1).reverse ++ [extraD lab])

theorem numL_deep (ls : List D) (n : Int) (f : D) : (numL ls n f).deep ≤ f.deep := by
  unfold numL
  split
  · exact Nat.le_refl _
  · show 1 ≤ f.deep; rw [deep_kids]; omega
theorem numL_size (ls : List D) (n : Int) (f : D) : (numL ls n f).size ≤ f.size := by
  unfold numL
  split
  · exact Nat.le_refl _
  · exact f.size_pos
theorem numL_formed {ls : List D} {n : Int} {f : D} (h : formed f = true) : formed (numL ls n f) = true := by
  unfold numL
  split
  · exact h
  · rfl
theorem rnE_size {L : D → D} (hl : ∀ f, (L f).size ≤ f.size) : ∀ d : D, okE d = true → (rnE L d).size ≤ d.size := by
  intro d
  induction d using D.ind with
  | _ k n t l ih =>
    intro hok
    have hpm : ∀ r, parts (.mk k n t l) = r → D.sizes (r.map (rexpr L id false)) ≤ D.sizes r := fun r hr => sizes_map fun x hx => ih x (parts_mem (by rw [hr]; exact hx)) (okE_parts hok x (by rw [hr]; exact hx))
    clear ih
    generalize D.mk k n t l = d at *
    have hsz := D.size_kids d
    rcases okE_kind hok with e | e | e
    · rw [show rnE L d = d from rexpr_num (by rw [e]; rfl)]; exact Nat.le_refl _
    · rw [show rnE L d = d from rexpr_sym (by rw [e]; rfl) (by rw [e]; rfl)]; exact Nat.le_refl _
    · rcases rexpr_shape L id false hok e with ⟨h1, h2, h3⟩ | ⟨x, r, h1, h2, h3, h4⟩ | ⟨x, r, h1, h2, h3, h4⟩ | ⟨r, h1, h2, h3, h4, h5, h6⟩
      · rw [show rnE L d = d from h3]; exact Nat.le_refl _
      · rw [show rnE L d = _ from h4, dlist_size]
        have := hpm r h3
        rw [h2] at hsz
        simp only [D.sizes, id] at *; omega
      · rw [show rnE L d = _ from h4, if_neg (by decide), dlist_size]
        have := hpm r h3; have := hl x
        rw [h2] at hsz
        simp only [D.sizes, List.cons_append, List.nil_append] at *; omega
      · rw [show rnE L d = _ from h6, dlist_size]
        have := hpm r h5
        rw [h4] at hsz
        simp only [D.sizes] at *; omega
theorem rnF_size {L : D → D} (hl : ∀ f, (L f).size ≤ f.size) {d : D} (hd : DefOk d) (hok : okE (d2 d.kids) = true) : (rnF L d).size ≤ d.size := by
  obtain ⟨x0, x1, x2, ns, hk, _⟩ := hd
  have e1 : d1 d.kids = x1 := by rw [hk]; rfl
  have e2 : d2 d.kids = x2 := by rw [hk]; rfl
  rw [e2] at hok
  have h1 := hl x0
  have h2 := rnE_size hl x2 hok
  have h3 := D.size_kids x1
  have h4 := D.size_kids d
  rw [hk] at h4
  show (dlist [L d.head, dlist ((d1 d.kids).kids.map id), rnE L (d2 d.kids)]).size ≤ _
  rw [e1, e2, head_cons hk, List.map_id]
  simp only [dlist_size, D.sizes] at *
  omega

section
variable {p : D} (R : Right p) {n : Int} (h0 : 0 ≤ n) (hn : n ≤ 65535)
include R
theorem Right.numAt {e : D} (h : e ∈ p.kids) : ∃ i : Nat, i < p.kids.length ∧ p.kids[i]? = some e ∧ numL (p.kids.map D.head) n e.head = dnum (n + i) := by
  obtain ⟨i, hi, hie⟩ := List.getElem_of_mem h
  have hie' : p.kids[i]? = some e := by rw [List.getElem?_eq_getElem hi, hie]
  refine ⟨i, hi, hie', ?_⟩
  have hidx : idxOf (fun y => deq y e.head) (p.kids.map D.head) = i := by
    refine idxOf_found (x := e.head) ?_ (by rw [List.getElem?_map, hie']; rfl) (deq_refl _)
    intro j y hj hy
    rw [List.getElem?_map] at hy
    obtain ⟨z, hz, rfl⟩ := Option.map_eq_some_iff.1 hy
    obtain ⟨hjl, hje⟩ := List.getElem?_eq_some_iff.1 hz
    have := List.pairwise_iff_getElem.1 R.apart j i hjl hi hj
    rw [hje, hie] at this
    show deq z.head e.head = false
    cases hc : deq z.head e.head with
    | false => rfl
    | true => rw [deq_of hc, kq_refl] at this; cases this
  unfold numL
  rw [hidx, if_neg (by omega)]
theorem Right.num_inj (a b : D) (ha : a ∈ p.kids) (hb : b ∈ p.kids) : kq (numL (p.kids.map D.head) n a.head) (numL (p.kids.map D.head) n b.head) = kq a.head b.head := by
  obtain ⟨i, hi, hia, hpa⟩ := R.numAt (n := n) ha
  obtain ⟨j, hj, hjb, hpb⟩ := R.numAt (n := n) hb
  rw [hpa, hpb, kq_dnum]
  by_cases e : i = j
  · subst e
    rw [hia] at hjb; cases hjb
    rw [kq_refl]; simp
  · have hne : kq a.head b.head = false := by
      have e1 : p.kids[i]'hi = a := (List.getElem?_eq_some_iff.1 hia).2
      have e2 : p.kids[j]'hj = b := (List.getElem?_eq_some_iff.1 hjb).2
      rcases Nat.lt_or_gt_of_ne e with h | h
      · have := List.pairwise_iff_getElem.1 R.apart i j hi hj h
        rwa [e1, e2] at this
      · have := List.pairwise_iff_getElem.1 R.apart j i hj hi h
        rw [e1, e2, kq_comm] at this; exact this
    rw [hne]; simp; omega
theorem Right.num_renames {q : D} (hi : ∀ e, e ∈ p.kids → rnF (numL (p.kids.map D.head) n) e ∈ q.kids) (hf : q.head = rnF (numL (p.kids.map D.head) n) p.head) : Renames p q (numL (p.kids.map D.head) n) p.kids where
  sub := fun e h => h
  main := R.head_mem
  closed := fun x f hx hf => by obtain ⟨e, he, hq, _⟩ := R.known hx hf; exact ⟨e, he, hq⟩
  inj := R.num_inj
  into := hi
  first := hf
theorem Right.relab_renames : Renames p (relab p n) (numL (p.kids.map D.head) n) p.kids := by
  refine R.num_renames (fun e he => List.mem_map_of_mem he) ?_
  obtain ⟨x, r, hx⟩ := kids_cons R.ne
  show (dlist (p.kids.map _)).head = _
  rw [hx, head_cons hx]; rfl
theorem Right.relab_apart : Apart (relab p n).kids := by
  show Apart (p.kids.map _)
  refine List.pairwise_map.2 ?_
  refine List.Pairwise.imp_of_mem (fun {a b} ha hb h => ?_) R.apart
  show kq (numL _ n a.head) (numL _ n b.head) = false
  rw [R.num_inj a b ha hb]; exact h
theorem Right.relab_size : (relab p n).size ≤ p.size := by
  show (dlist (p.kids.map _)).size ≤ _
  rw [dlist_size]
  have := D.size_kids p
  have := sizes_map (l := p.kids) (h := rnF (numL (p.kids.map D.head) n)) fun d hd => rnF_size (fun f => numL_size _ _ f) (R.def hd) (R.ok hd)
  omega
include h0 hn
theorem Right.num_label (e : D) (h : e ∈ p.kids) : isLabel (numL (p.kids.map D.head) n e.head) = true := by
  obtain ⟨i, hi, _, hp⟩ := R.numAt (n := n) h
  have := (heads_ok R.heads).2.2.2.1
  rw [hp]; exact isLabel_dnum (by omega) (by omega)
theorem Right.relabR : Right (relab p n) := by
  have hpk := heads_ok R.heads
  have hchk := dcheck_iff.1 hpk.1
  have hsz := R.relab_size (n := n)
  refine (R.relab_renames (n := n)).right R (R.num_label h0 hn) (dcheck_iff.2 ⟨?_, by omega, ?_⟩) rfl (by show (p.kids.map _).length ≤ _; rw [List.length_map]; omega) R.relab_apart (fun d hd => ?_) (by have := R.sz; omega)
  · show Aw.formed (dlist (p.kids.map _)) = true
    rw [formed_dlist]
    intro y hy
    obtain ⟨d, hd, rfl⟩ := List.mem_map.1 hy
    refine formed_rnF (R.def hd) (formed_kids R.formed hd) (R.ok hd) (numL_formed (R.label hd).2) fun y hy hc => numL_formed ?_
    exact (callsOf_lab (R.good hd) _ (callsOf_call (R.good hd) hy hc)).2
  · show (dlist (p.kids.map _)).deep ≤ 1000
    rw [deep_dlist]
    have h1 := deep_kids p
    have h2 : D.deeps (p.kids.map (rnF (numL (p.kids.map D.head) n))) ≤ D.deeps p.kids := by
      refine deeps_le.2 fun y hy => ?_
      obtain ⟨d, hd, rfl⟩ := List.mem_map.1 hy
      exact Nat.le_trans (deep_rnF (fun f => numL_deep _ _ f) (R.def hd) (R.ok hd)) (deep_le_deeps hd)
    omega
  · obtain ⟨e, he, rfl⟩ := List.mem_map.1 (show d ∈ p.kids.map _ from hd)
    exact .inl ⟨e, he, rfl⟩
theorem Right.relab_canon : canonD (relab p n) = canonD p := (R.relab_renames (n := n)).canon R (R.relabR h0 hn)

/-! ### in another order, and one more -/
omit R h0 hn in
theorem turn_kids (y lab : D) : (turnD y lab).kids = y.head :: (y.kids.drop 1).reverse ++ [extraD lab] := rfl
omit h0 hn in
theorem Right.turn_perm (lab : D) : (turnD p lab).kids.Perm (p.kids ++ [extraD lab]) := by
  obtain ⟨x, r, hx⟩ := kids_cons R.ne
  rw [turn_kids, head_cons hx, hx]
  show (x :: (r.reverse ++ [extraD lab])).Perm (x :: (r ++ [extraD lab]))
  exact ((List.reverse_perm r).append_right _).cons x
omit h0 hn in
theorem Right.turn_size (lab : D) : (turnD p lab).size ≤ p.size + lab.size + 4 := by
  have hp := R.turn_perm lab
  have hs : ∀ {l r : List D}, l.Perm r → D.sizes l = D.sizes r := by
    intro l r h
    induction h with
    | nil => rfl
    | cons x _ ih => simp only [D.sizes, ih]
    | swap x y l => simp only [D.sizes]; omega
    | trans _ _ h1 h2 => exact h1.trans h2
  show (dlist (turnD p lab).kids).size ≤ _
  rw [dlist_size, hs hp, sizes_append]
  have h1 := D.size_kids p
  have h2 : D.sizes [extraD lab] = lab.size + 3 := by show 1 + (lab.size + ((1 + 0) + (1 + 0 + 0))) + 0 = _; omega
  omega
omit R h0 hn in
theorem extra_ok {lab : D} (h : isLabel lab = true) : Extra (extraD lab) := ⟨⟨lab, dlist [], dnum 1, [], rfl, rfl, h, rfl, by simp⟩, rfl⟩
theorem Right.turnR (hl : (turnD (relab p n) (dnum (n + 10000))).kids.length ≤ 4000) (hd : dcheck (turnD (relab p n) (dnum (n + 10000))) = 0) : Right (turnD (relab p n) (dnum (n + 10000))) ∧ canonD (turnD (relab p n) (dnum (n + 10000))) = canonD p := by
  have Y := R.relabR h0 hn
  have hperm := Y.turn_perm (dnum (n + 10000))
  have hsz := Y.turn_size (dnum (n + 10000))
  have hys := R.relab_size (n := n)
  have hrs := R.sz
  have hpl := (heads_ok R.heads).2.2.2.1
  have hmem : ∀ d, d ∈ (turnD (relab p n) (dnum (n + 10000))).kids ↔ d ∈ (relab p n).kids ∨ d = extraD (dnum (n + 10000)) := fun d => by rw [hperm.mem_iff, List.mem_append, List.mem_singleton]
  have hlx : isLabel (dnum (n + 10000)) = true := isLabel_dnum (by omega) (by omega)
  have H : Renames p (turnD (relab p n) (dnum (n + 10000))) (numL (p.kids.map D.head) n) p.kids := by
    refine R.num_renames (fun e he => (hmem _).2 (.inl (List.mem_map_of_mem he))) ?_
    show (relab p n).head = _
    exact (R.relab_renames (n := n)).first
  have hap : Apart (turnD (relab p n) (dnum (n + 10000))).kids := by
    have hsym : ∀ {a b : D}, kq a.head b.head = false → kq b.head a.head = false := fun h => by rw [kq_comm]; exact h
    refine (hperm.pairwise_iff hsym).2 ?_
    refine List.pairwise_append.2 ⟨R.relab_apart, List.pairwise_singleton _ _, fun a ha b hb => ?_⟩
    simp only [List.mem_singleton] at hb
    subst hb
    obtain ⟨e, he, rfl⟩ := List.mem_map.1 (show a ∈ p.kids.map _ from ha)
    obtain ⟨i, hi, _, hp⟩ := R.numAt (n := n) he
    show kq (numL (p.kids.map D.head) n e.head) (dnum (n + 10000)) = false
    rw [hp, kq_dnum]; simp; omega
  have Z := H.right R (R.num_label h0 hn) hd rfl hl hap (fun d hd => by
    rcases (hmem d).1 hd with h | rfl
    · obtain ⟨e, he, rfl⟩ := List.mem_map.1 (show d ∈ p.kids.map _ from h)
      exact .inl ⟨e, he, rfl⟩
    · exact .inr (extra_ok hlx)) (by have e : (dnum (n + 10000)).size = 1 := rfl; have := (dcheck_iff.1 hd).2.1; omega)
  exact ⟨Z, H.canon R Z⟩
end
/-! ### what the laws look at -/
theorem fcanon_none {x : D} (h : ((fcanon x).2 != 0) = true) : (fcanon x).1 = dnone := by
  unfold fcanon at h ⊢
  split
  · rfl
  · rename_i hc
    rw [if_neg hc] at h
    cases h
theorem fcheck_turn {z : D} (h : 4000 < z.kids.length ∨ dcheck z ≠ 0) : fcheck z ≠ 0 := by
  intro hz
  have := heads_ok (fcheck_heads hz).1
  rcases h with h | h
  · omega
  · exact h this.1
section
variable {p : D} (R : Right p)
include R
theorem Right.canon_labels : fLabels (canonD p) = ((canonD p).kids.map D.head, 0) := by unfold fLabels; rw [if_neg (by rw [R.canonR.no]; decide)]
theorem Right.canon_fReach : fReach (canonD p) = ((canonD p).kids.map D.head, 0) := by unfold fReach; rw [if_neg (by rw [R.canonR.no]; decide), R.canon_reach]
theorem Right.canon_label {k : Nat} {y : D} (h : ((canonD p).kids.map D.head)[k]? = some y) : y = dnum k := by
  rw [canonD_kids, List.map_map, List.getElem?_map] at h
  obtain ⟨e, he, rfl⟩ := Option.map_eq_some_iff.1 h
  exact R.pos he
theorem Right.canon_fcanon : Aw.fcanon (canonD p) = (canonD p, 0) := by rw [R.canonR.fcanon, R.canon_canon]
end
end Go.Aw
namespace Go.Aw
open Go
/-- The first definition, and the others from the last one on. -/
def turnK (y : D) (k : Nat) : List D := y.head :: (y.kids.drop 1).reverse.take k
theorem turnK_zero {y : D} : turnK y 0 = [y.head] := by simp [turnK]
theorem turnK_next {y x : D} {k : Nat} (hk : k < y.kids.length - 1) (h : y.kids[y.kids.length - 1 - k]? = some x) : turnK y (k + 1) = turnK y k ++ [x] := by
  have hr : (y.kids.drop 1).reverse[k]? = some x := by
    rw [List.getElem?_reverse (by rw [List.length_drop]; omega), List.length_drop, List.getElem?_drop, show 1 + (y.kids.length - 1 - 1 - k) = y.kids.length - 1 - k by omega]; exact h
  unfold turnK
  rw [take_next hr]; rfl
theorem turnK_all {y : D} : turnK y (y.kids.length - 1) = y.head :: (y.kids.drop 1).reverse := by
  unfold turnK
  rw [List.take_of_length_le (by simp)]
theorem turnK_len {y : D} {k : Nat} (hk : k ≤ y.kids.length - 1) : (turnK y k).length = 1 + k := by
  unfold turnK
  rw [List.length_cons, List.length_take, List.length_reverse, List.length_drop]; omega
theorem rnF_eq {L : D → D} {d x0 x1 x2 : D} {ns : List ByteArray} (hf : formed d = true) (hk : d.kids = [x0, x1, x2]) (hn : names x1 = some ns) : rnF L d = dlist [L x0, x1, rnE L x2] := by
  show dlist [L d.head, dlist ((d1 d.kids).kids.map id), rnE L (d2 d.kids)] = _
  have e1 : d1 d.kids = x1 := by rw [hk]; rfl
  have e2 : d2 d.kids = x2 := by rw [hk]; rfl
  rw [head_cons hk, e1, e2, List.map_id, dlist_of (formed_kids hf (by rw [hk]; simp)) (names_some hn).1]
theorem Right.refLabels {p : D} (R : Right p) : (Aw.rdefs p).map Df.lab = p.kids.map D.head := by
  rw [← R.labels]; unfold fLabels; rw [if_neg (by rw [R.no]; decide)]
end Go.Aw

/- From the row's reading of memory to abstract values, and back: data, slices, laid tables; what the row says behind a call that has turned nothing old. No program is named. -/
namespace Go.Aw
open Go Go.ChangeShapes Go.WideShapes Go.ChangeAt Go.WideMaps Go.WideElems Go.RowKit
theorem exists_list {α : Type} {Q : Nat → α → Prop} : ∀ n : Nat, (∀ i, i < n → ∃ d, Q i d) → ∃ l : List α, l.length = n ∧ ∀ i x, l[i]? = some x → Q i x
  | 0, _ => ⟨[], rfl, fun i x h => by simp at h⟩
  | n + 1, h => by
    obtain ⟨l, h1, h2⟩ := exists_list n (fun i hi => h i (by omega))
    obtain ⟨d, hd⟩ := h n (by omega)
    refine ⟨l ++ [d], by simp [h1], fun i x hx => ?_⟩
    rcases getElem?_snoc hx with hx | ⟨rfl, rfl⟩
    · exact h2 i x hx
    · rw [h1]; exact hd

theorem rp_slice_of {B : Nat} {S : Nat → Nat → Prop} {w : World} {a : Addr} {len cap sz : Nat} {xs : List PV} (hlen : xs.length = len) (hcap : len ≤ cap) (hb : a.block < B) (h0 : 0 < sz) (hsz : ∀ x, x ∈ xs → x.cells.length = sz)
    (h : ∀ (q : Nat) x, xs[q]? = some x → ∃ cs : List Value, cs.length = sz ∧ (∀ r, r < sz → w.cell? ((a.add (q * sz)).add r) = cs[r]?) ∧ (∀ v, v ∈ cs → v.oneCell' = true) ∧ ∀ (r : Nat) y v, x.cells[r]? = some y → cs[r]? = some v → RP B S w y v) :
    RP B S w (.slice xs) (.slice (some a) len cap) := by
  by_cases hl : xs = []
  · subst hl; simp at hlen; subst hlen; exact .empty
  have hspot : a.spot = none := by
    obtain ⟨x, r, hx⟩ := kids_cons hl
    obtain ⟨cs, h1, h2, _⟩ := h 0 x (by rw [hx]; rfl)
    have h3 := h2 0 h0
    rw [Nat.zero_mul, Addr.add, if_pos rfl, Addr.add, if_pos rfl] at h3
    have h4 : cs[0]? = some cs[0] := by simp
    rw [h4] at h3
    unfold World.cell? at h3
    cases hs : a.spot with
    | none => rfl
    | some s =>
      rw [hs] at h3
      split at h3 <;> simp at h3
  have hadd : ∀ n, a.add n = ⟨a.block, a.off + n, none⟩ := by
    intro n
    unfold Addr.add
    split
    · subst_vars; cases a; simp only at hspot; subst hspot; rfl
    · rfl
  have hadd2 : ∀ n m, (a.add n).add m = ⟨a.block, a.off + (n + m), none⟩ := by
    intro n m
    rw [hadd]
    unfold Addr.add
    split
    · subst_vars; rfl
    · show (⟨a.block, a.off + n + m, none⟩ : Addr) = _
      rw [Nat.add_assoc]
  have ha : a = ⟨a.block, a.off, none⟩ := by cases a; simp only at hspot; subst hspot; rfl
  have hall : ∀ i, i < len * sz → ∃ (q r : Nat) (x : PV) (cs : List Value), i = q * sz + r ∧ r < sz ∧ xs[q]? = some x ∧ cs.length = sz ∧ w.cell? ⟨a.block, a.off + i, none⟩ = cs[r]? ∧ (∀ v, v ∈ cs → v.oneCell' = true) ∧ ∀ (r : Nat) y v, x.cells[r]? = some y → cs[r]? = some v → RP B S w y v := by
    intro i hi
    have hq : i / sz < len := Nat.div_lt_of_lt_mul (by rw [Nat.mul_comm]; exact hi)
    have hr : i % sz < sz := Nat.mod_lt _ h0
    have hx : xs[i / sz]? = some xs[i / sz] := by simp [hlen, hq]
    obtain ⟨cs, h1, h2, h3, h4⟩ := h _ _ hx
    have h5 := h2 (i % sz) hr
    have he : i / sz * sz + i % sz = i := by rw [Nat.mul_comm]; exact Nat.div_add_mod i sz
    rw [hadd2, he] at h5
    exact ⟨i / sz, i % sz, _, cs, he.symm, hr, hx, h1, h5, h3, h4⟩
  rw [ha, ← hlen]
  refine RP.slice (sz := sz) (vs := (List.range (len * sz)).map fun j => (w.cell? ⟨a.block, a.off + j, none⟩).getD (.int .i64 0)) hsz (by simp [hlen]) (by omega) (fun i v hv => ?_) (fun i y v hy hv => ?_)
  · have hi : i < len * sz := by have := (List.getElem?_eq_some_iff.1 hv).1; simpa using this
    obtain ⟨q, r, x, cs, h1, h2, h3, h4, h5, h6, h7⟩ := hall i hi
    have h8 : cs[r]? = some cs[r] := by simp [h4, h2]
    rw [h8] at h5
    simp only [List.getElem?_map, List.getElem?_range hi, Option.map_some, Option.some.injEq, h5, Option.getD_some] at hv
    subst hv
    exact ⟨.inl hb, h5, h6 _ (List.getElem_mem _)⟩
  · have hi : i < len * sz := by have := (List.getElem?_eq_some_iff.1 hv).1; simpa using this
    obtain ⟨q, r, x, cs, h1, h2, h3, h4, h5, h6, h7⟩ := hall i hi
    have h8 : cs[r]? = some cs[r] := by simp [h4, h2]
    rw [h8] at h5
    simp only [List.getElem?_map, List.getElem?_range hi, Option.map_some, Option.some.injEq, h5, Option.getD_some] at hv
    subst hv
    rw [h1, flat_get hsz h3 h2] at hy
    exact h7 r y _ hy h8

/-! ### data -/
structure DatumTy (P : Program) (tD tK ti tn ts : TypeId) : Prop where
  und : ∃ f0 f1 f2 f3 : Field, P.underlying tD = some (.struct #[f0, f1, f2, f3]) ∧ f0.type = ti ∧ f0.offset = 0 ∧ f1.type = tn ∧ f1.offset = 1 ∧ f2.type = ts ∧ f2.offset = 2 ∧ f3.type = tK ∧ f3.offset = 3
  i : P.underlying ti = some (.int .i64)
  n : P.underlying tn = some (.int .i64)
  s : P.underlying ts = some .string
  k : P.underlying tK = some (.slice tD)
  cD : P.cellsOf tD = 4
  ci : P.cellsOf ti = 1
  cn : P.cellsOf tn = 1
  cs : P.cellsOf ts = 1
  ck : P.cellsOf tK = 1

theorem one_of {α : Type} {l : List α} {i : Nat} {a : α} (h : (l.drop i).take 1 = [a]) : l[i]? = some a := by
  have h1 : ((l.drop i).take 1)[0]? = some a := by rw [h]; rfl
  rw [List.getElem?_take, List.getElem?_drop] at h1
  simpa using h1

section
variable {H : Type} {enc' : TypeId × Value → H} {P : Program} {w : World} {base : Nat} {spare : Nat → Bool} {held : Bool} {tD tK ti tn ts : TypeId} {S : Nat → Nat → Prop}
theorem open_datum (T : DatumTy P tD tK ti tn ts) : ∀ (fuel : Nat) (cs : List Value) (x : DataW H × List MemPlace), DataW.trod enc' P w base spare held fuel tD cs = some x →
    ∃ (d : D) (v : Value), cs = [.int .i64 d.kind, .int .i64 d.num, .string d.text, v] ∧ v.oneCell' = true ∧ RP w.heap.size S w (.slice (d.kids.map enc)) v := by
  intro fuel
  induction fuel using Nat.strongRecOn with
  | _ fuel ih =>
    intro cs x h
    obtain ⟨f0, f1, f2, f3, hu, t0, o0, t1, o1, t2, o2, t3, o3⟩ := T.und
    obtain ⟨xs, n, rfl, rfl, hl, hlen, hf⟩ := DataW.trod_struct hu h
    have hxl : xs.length = 4 := by simpa using hlen
    have g0 := hf 0 f0 rfl
    have g1 := hf 1 f1 rfl
    have g2 := hf 2 f2 rfl
    have g3 := hf 3 f3 rfl
    rw [t0, o0, T.ci] at g0
    rw [t1, o1, T.cn] at g1
    rw [t2, o2, T.cs] at g2
    rw [t3, o3, T.ck] at g3
    have s0 : xs[0]? = some xs[0] := by simp
    have s1 : xs[1]? = some xs[1] := by simp
    have s2 : xs[2]? = some xs[2] := by simp
    have s3 : xs[3]? = some xs[3] := by simp
    rw [s0] at g0
    rw [s1] at g1
    rw [s2] at g2
    rw [s3] at g3
    obtain ⟨k, e0, _, _⟩ := DataW.trod_int T.i g0
    obtain ⟨m, e1, _, _⟩ := DataW.trod_int T.n g1
    obtain ⟨t, e2, _, _⟩ := DataW.trod_string T.s g2
    have a0 := one_of e0
    have a1 := one_of e1
    have a2 := one_of e2
    rw [T.cD] at hl
    have hcs : ∃ v, cs = [.int .i64 k, .int .i64 m, .string t, v] := by
      match cs, hl, a0, a1, a2 with
      | [c0, c1, c2, c3], _, a0, a1, a2 =>
        simp only [List.getElem?_cons_zero, List.getElem?_cons_succ, Option.some.injEq] at a0 a1 a2
        exact ⟨c3, by rw [a0, a1, a2]⟩
    obtain ⟨v, hcs⟩ := hcs
    rw [hcs] at g3
    have g3' : DataW.trod enc' P w base spare held n tK [v] = some xs[3] := g3
    rcases DataW.trod_slice T.k g3' with ⟨hv, _⟩ | ⟨a, len, cap, elems, rest, m', rfl, hv, _, hb, hlc, hcm, hel, hes, _⟩
    · cases hv
      exact ⟨.mk k m t [], _, hcs, rfl, by simp only [D.kids, List.map_nil]; exact .empty⟩
    · cases hv
      rw [T.cD] at hes
      have hex : ∀ i, i < len → ∃ d : D, ∃ v' : Value, (∀ r, r < 4 → w.cell? ((a.add (i * 4)).add r) = ([.int .i64 d.kind, .int .i64 d.num, .string d.text, v'] : List Value)[r]?) ∧ v'.oneCell' = true ∧ RP w.heap.size S w (.slice (d.kids.map enc)) v' := by
        intro i hi
        have h1 := hes i hi
        have h2 : elems[i]? = some elems[i] := by simp [hel, hi]
        rw [h2] at h1
        obtain ⟨cs', hc, ht⟩ := Option.bind_eq_some_iff.1 h1
        obtain ⟨_, _, hc2⟩ := World.cells?_some hc
        obtain ⟨d, v', he, hone, hrp⟩ := ih m' (by omega) cs' _ ht
        subst he
        exact ⟨d, v', hc2, hone, hrp⟩
      obtain ⟨l, hll, hlq⟩ := exists_list len hex
      refine ⟨.mk k m t l, _, hcs, rfl, ?_⟩
      show RP w.heap.size S w (.slice (l.map enc)) (.slice (some a) len cap)
      by_cases hlen0 : len = 0
      · subst hlen0
        have : l = [] := List.eq_nil_of_length_eq_zero hll
        subst this
        exact .empty
      have hblk : a.block < w.heap.size := by
        obtain ⟨d, v', h1, _⟩ := hex 0 (by omega)
        have h2 := h1 0 (by omega)
        rw [Nat.zero_mul, Addr.add, if_pos rfl, Addr.add, if_pos rfl] at h2
        unfold World.cell? at h2
        by_cases hlt : a.block < w.heap.size
        · exact hlt
        · rw [Array.getElem?_eq_none (by omega)] at h2; simp at h2
      refine rp_slice_of (sz := 4) (by simp [hll]) hlc hblk (by omega) (fun x hx => ?_) (fun q x hx => ?_)
      · obtain ⟨d, _, rfl⟩ := List.mem_map.1 hx
        rw [enc_cells]; rfl
      · rw [List.getElem?_map] at hx
        obtain ⟨d, hd, rfl⟩ := Option.map_eq_some_iff.1 hx
        obtain ⟨v', h1, h2, h3⟩ := hlq q d hd
        refine ⟨[.int .i64 d.kind, .int .i64 d.num, .string d.text, v'], rfl, h1, fun u hu => ?_, fun r y u hy hu => ?_⟩
        · simp only [List.mem_cons, List.not_mem_nil, or_false] at hu
          rcases hu with rfl | rfl | rfl | rfl <;> first | rfl | exact h2
        · rw [enc_cells] at hy
          match r with
          | 0 => simp at hy hu; subst hy hu; exact .int
          | 1 => simp at hy hu; subst hy hu; exact .int
          | 2 => simp at hy hu; subst hy hu; exact .str
          | 3 => simp at hy hu; subst hy hu; exact h3
          | r + 4 => simp at hy
end
end Go.Aw
