/- Part of the proof that the statement holds for every input that its row lets in: an own logic of abstract values over the given model, and laws of data and programs; no program is named in it. -/
import Derived.Test.YtienmmfjjffjaaaGreatDoorZA2
import Derived.Lib.ItoaNum
import Derived.KernelRfl
import Derived.ProofKit
import Derived.LaidMore
import Derived.OpenShut
import Derived.Stop.Joined
set_option linter.unusedSimpArgs false
set_option linter.unusedVariables false
/- Programs of the package flat, four: expressions that are right, stores with a map and a list that grow. No program is named. -/
namespace Go.Aw
open Go
/-! ### expressions that may be gone through -/
mutual
def okE : D → Bool
  | .mk k n t l => k == 1 || k == 2 || (k == 3 && !l.isEmpty && (decide (2 ≤ l.length) || !(decide ((l.headD dnone).text = sLet) || decide ((l.headD dnone).text = sCall))) && okEs (pdrop (.mk k n t l)) l)
def okEs : Nat → List D → Bool
  | _, [] => true
  | 0, x :: l => okE x && okEs 0 l
  | i + 1, _ :: l => okEs i l
end
theorem okEs_drop : ∀ (i : Nat) (l : List D), okEs i l = (l.drop i).all okE
  | 0, [] => rfl
  | i + 1, [] => rfl
  | 0, x :: l => by rw [okEs, okEs_drop 0 l]; rfl
  | i + 1, x :: l => by rw [okEs, okEs_drop i l]; rfl
theorem okE_list {d : D} (h : okE d = true) (hk : d.kind = 3) : d.kids ≠ [] ∧ (d.head.text = sLet ∨ d.head.text = sCall → 2 ≤ d.kids.length) ∧ ∀ x, x ∈ parts d → okE x = true := by
  rw [parts_drop]
  cases d with
  | mk k n t l =>
    simp only [D.kind] at hk
    subst hk
    simp only [okE, okEs_drop, Bool.or_eq_true, Bool.and_eq_true, Bool.not_eq_true', List.all_eq_true, decide_eq_true_eq] at h
    rcases h with (h | h) | ⟨⟨⟨_, h1⟩, h2⟩, h3⟩
    · exact absurd h (by decide)
    · exact absurd h (by decide)
    · refine ⟨by intro e; simp only [D.kids] at e; subst e; simp at h1, fun h => ?_, fun x hx => h3 x hx⟩
      rcases h2 with h2 | h2
      · exact h2
      · simp only [D.head, D.kids] at h
        simp only [Bool.or_eq_false_iff, decide_eq_false_iff_not] at h2
        rcases h with h | h
        · exact absurd h h2.1
        · exact absurd h h2.2
theorem parts_nil {d : D} (hk : d.kind ≠ 3) : parts d = [] := by unfold parts; rw [if_pos (by simpa using hk)]
theorem okE_parts {d : D} (h : okE d = true) : ∀ x, x ∈ parts d → okE x = true := by
  by_cases hk : d.kind = 3
  · exact (okE_list h hk).2.2
  · rw [parts_nil hk]; intro x hx; simp at hx
theorem okE_kind {d : D} (h : okE d = true) : d.kind = 1 ∨ d.kind = 2 ∨ d.kind = 3 := by
  cases d
  simp only [okE, Bool.or_eq_true, Bool.and_eq_true, beq_iff_eq] at h
  rcases h with (h | h) | ⟨⟨⟨h, _⟩, _⟩, _⟩
  · exact .inl h
  · exact .inr (.inl h)
  · exact .inr (.inr h)
theorem okE_ne {d : D} (h : okE d = true) : d.kind = 3 → d.kids ≠ [] := fun hk => (okE_list h hk).1
theorem okE_two {d : D} (h : okE d = true) : d.kind = 3 → d.head.text = sLet ∨ d.head.text = sCall → 2 ≤ d.kids.length := fun hk => (okE_list h hk).2.1
theorem isCall_iff {d : D} : isCall d = true ↔ d.kind = 3 ∧ d.head.text = sCall := by simp [isCall]
theorem parts_mem {d x : D} (h : x ∈ parts d) : x ∈ d.kids := by rw [parts_drop] at h; exact List.mem_of_mem_drop h

theorem parts_len (d : D) : (parts d).length ≤ d.kids.length := by rw [parts_drop]; simp

/-! ### how far the calls go -/
def pbool (b : Bool) : PV := .bool b
def cst (d : D) (st : CS) (k : Nat) : CS := ((parts d).take k).foldl (fun st x => callsD x st) (callStep d st)
theorem cst_zero {d : D} {st : CS} : cst d st 0 = callStep d st := by simp [cst]
theorem cst_next {d x : D} {st : CS} {k : Nat} (h : (parts d)[k]? = some x) : cst d st (k + 1) = callsD x (cst d st k) := by unfold cst; rw [take_next h, List.foldl_append]; rfl
theorem cst_all {d : D} {st : CS} : cst d st (parts d).length = callsD d st := by unfold cst; rw [List.take_length, callsD_eq]
theorem callStep_len (d : D) (st : CS) : (callStep d st).1.length ≤ st.1.length + 1 := by unfold callStep; split <;> simp
mutual
theorem callsD_len : ∀ (d : D) (st : CS), (callsD d st).1.length ≤ st.1.length + d.size
  | .mk k n t l, st => by
    simp only [callsD, D.size]
    have h1 := callsL_len (pdrop (.mk k n t l)) l (callStep (.mk k n t l) st)
    have h2 := callStep_len (.mk k n t l) st
    omega
theorem callsL_len : ∀ (i : Nat) (l : List D) (st : CS), (callsL i l st).1.length ≤ st.1.length + D.sizes l
  | _, [], st => by simp [callsL]
  | 0, x :: l, st => by
    simp only [callsL, D.sizes]
    have h1 := callsL_len 0 l (callsD x st)
    have h2 := callsD_len x st
    omega
  | i + 1, x :: l, st => by
    simp only [callsL, D.sizes]
    have h1 := callsL_len i l st
    omega
end
theorem sizes_append : ∀ (l r : List D), D.sizes (l ++ r) = D.sizes l + D.sizes r
  | [], r => by simp [D.sizes]
  | x :: l, r => by simp only [List.cons_append, D.sizes, sizes_append l r]; omega
theorem sizes_drop_le (l : List D) (i : Nat) : D.sizes (l.drop i) ≤ D.sizes l := by
  have := sizes_append (l.take i) (l.drop i)
  rw [List.take_append_drop] at this; omega
theorem foldl_calls_len : ∀ (l : List D) (st : CS), (l.foldl (fun st x => callsD x st) st).1.length ≤ st.1.length + D.sizes l := fun l st => by rw [← callsL_foldl]; exact callsL_len 0 l st
theorem cst_len {d x : D} {st : CS} {k : Nat} (h : (parts d)[k]? = some x) : (cst d st k).1.length + x.size ≤ st.1.length + d.size := by
  have h1 := foldl_calls_len ((parts d).take k) (callStep d st)
  have h2 := callStep_len d st
  have h3 : D.sizes ((parts d).take (k + 1)) = D.sizes ((parts d).take k) + x.size := by rw [take_next h, sizes_append]; simp [D.sizes]
  have h4 := sizes_append ((parts d).take (k + 1)) ((parts d).drop (k + 1))
  rw [List.take_append_drop] at h4
  have h5 := sizes_drop_le d.kids (pdrop d)
  rw [← parts_drop] at h5
  have h6 := D.size_kids d
  unfold cst
  omega
theorem callStep_yes {d x : D} {st : CS} (h : isCall d = true) (hx : d1 d.kids = x) (hs : seenB st.2 x = false) : callStep d st = (st.1 ++ [x], kset st.2 x true) := by unfold callStep; rw [hx, h, hs]; rfl
theorem callStep_seen {d x : D} {st : CS} (hx : d1 d.kids = x) (hs : seenB st.2 x = true) : callStep d st = st := by unfold callStep; rw [hx, hs]; simp
theorem callStep_no {d : D} {st : CS} (h : isCall d = false) : callStep d st = st := by unfold callStep; rw [h]; simp

@[go_sem high] theorem seq_enc (x : D) : seqPV 4 0 [(0, AV.pv (enc x))] = some [enc x] := by simp [seqPV, toPV, atomToPV, nrm_enc, enc_cells]

@[go_sem] theorem snoc1_get {α : Type} {l : List α} {a : α} : (l ++ [a])[l.length]? = some a := by simp
@[go_sem] theorem snoc2_get0 {α : Type} {l : List α} {a b : α} : (l ++ [a, b])[l.length]? = some a := by simp
@[go_sem] theorem snoc2_get {α : Type} {l : List α} {a b : α} : (l ++ [a, b])[l.length + 1]? = some b := by simp
@[go_sem] theorem snoc3_get {α : Type} {l : List α} {a b c : α} : (l ++ [a, b, c])[l.length + 2]? = some c := by simp

/-! ### a map and a list that grow -/
/-- The map om and the list of the token kt are now these. -/
def setCM (σ : Store) (om kt : Nat) (st : CS) : Store := { σ.tok kt st.1.length with objs := σ.objs.set om (.map (mapK st.2) (mapV pbool st.2)) }
structure CMAt (σ : Store) (om kt : Nat) (e : TypeId) (st : CS) : Prop where
  ob : σ.objs[om]? = some (.map (mapK st.2) (mapV pbool st.2))
  tk : σ.toks[kt]? = some ⟨st.1.length, e, 4⟩
section
variable {σ : Store} {om kt : Nat} {e : TypeId} {st st' : CS}
theorem list_set_self {α : Type} {l : List α} {i : Nat} {x : α} (h : l[i]? = some x) : l.set i x = l := by
  apply List.ext_getElem?
  intro j
  rw [List.getElem?_set]
  split
  · subst_vars; rw [h]; simp [(List.getElem?_eq_some_iff.1 h).1]
  · rfl
theorem tok_self {k n : Nat} {t : Tok} (h : σ.toks[k]? = some t) (hn : t.n = n) : σ.tok k n = σ := by
  unfold Store.tok
  have : (σ.toks.modify k fun t => { t with n := n }) = σ.toks := by
    apply List.ext_getElem?
    intro j
    rw [getElem?_modify']
    split
    · subst_vars; rw [h]; rfl
    · rfl
  rw [this]
theorem setCM_self (h : CMAt σ om kt e st) : setCM σ om kt st = σ := by
  unfold setCM
  rw [tok_self h.tk rfl, list_set_self h.ob]
theorem modify_modify {l : List Tok} {k n m : Nat} : (l.modify k fun t => { t with n := n }).modify k (fun t => { t with n := m }) = l.modify k fun t => { t with n := m } := by
  apply List.ext_getElem?
  intro j
  simp only [getElem?_modify']
  split
  · cases l[j]? <;> rfl
  · rfl
theorem setCM_setCM : setCM (setCM σ om kt st) om kt st' = setCM σ om kt st' := by
  simp only [setCM, Store.tok, modify_modify, List.set_set]
theorem setCM_at (h : CMAt σ om kt e st) : CMAt (setCM σ om kt st') om kt e st' := by
  refine ⟨?_, ?_⟩
  · simp [setCM, (List.getElem?_eq_some_iff.1 h.ob).1]
  · simp only [setCM, Store.tok, getElem?_modify', if_true, h.tk, Option.map_some]
theorem setCM_no : (setCM σ om kt st).objs.length = σ.objs.length := by simp [setCM]
theorem setCM_nt : (setCM σ om kt st).toks.length = σ.toks.length := by simp [setCM, Store.tok]
theorem setCM_cut : (setCM σ om kt st).cut σ.objs.length σ.toks.length = setCM σ om kt st := by
  have h1 : (setCM σ om kt st).objs.take σ.objs.length = (setCM σ om kt st).objs := List.take_of_length_le (by rw [setCM_no]; omega)
  have h2 : (setCM σ om kt st).toks.take σ.toks.length = (setCM σ om kt st).toks := List.take_of_length_le (by rw [setCM_nt]; omega)
  show ({ setCM σ om kt st with objs := (setCM σ om kt st).objs.take σ.objs.length, toks := (setCM σ om kt st).toks.take σ.toks.length } : Store) = _
  rw [h1, h2]
theorem setCM_mem {ob : AObj} (h : ob ∈ (setCM σ om kt st).objs) (a b c : Nat) : ob ∈ σ.objs ∨ ob.clo a b c = true := by
  rcases List.mem_or_eq_of_mem_set h with h | rfl
  · exact .inl h
  · exact .inr rfl
end
def withM (σ : Store) (m : List (D × D)) : Store := { σ with objs := σ.objs ++ [.map (mapK m) (mapV enc m)] }
theorem withM_get {σ : Store} {m : List (D × D)} : (withM σ m).objs[σ.objs.length]? = some (.map (mapK m) (mapV enc m)) := by simp [withM]
theorem withM_set {σ : Store} {m m' : List (D × D)} : ({ withM σ m with objs := (withM σ m).objs.set σ.objs.length (.map (mapK m') (mapV enc m')) } : Store) = withM σ m' := by simp [withM]
theorem withM_cut1 {σ : Store} {m : List (D × D)} : (withM σ m).cut (σ.objs.length + 1) σ.toks.length = withM σ m := by simp [withM, Store.cut, List.take_of_length_le]
theorem withM_mem {σ : Store} {m : List (D × D)} {ob : AObj} (h : ob ∈ (withM σ m).objs) (a b c : Nat) : ob ∈ σ.objs ∨ ob.clo a b c = true := by
  simp only [withM, List.mem_append, List.mem_cons, List.not_mem_nil, or_false] at h
  rcases h with h | rfl
  · exact .inl h
  · exact .inr rfl
def defsK (l : List D) (k : Nat) : List (D × D) := (l.take k).foldl (fun m d => kset m d.head d) []
theorem defsK_zero {l : List D} : defsK l 0 = [] := by simp [defsK]
theorem defsK_next {l : List D} {k : Nat} {x : D} (h : l[k]? = some x) : defsK l (k + 1) = kset (defsK l k) x.head x := by unfold defsK; rw [take_next h, List.foldl_append]; rfl
theorem defsK_all {l : List D} : defsK l l.length = defsL l := by unfold defsK defsL; rw [List.take_length]
theorem head_cons {d x : D} {r : List D} (h : d.kids = x :: r) : d.head = x := by unfold D.head; rw [h]; rfl
end Go.Aw

/- Programs of the package flat, five: what a right program's parts are, and how far it reaches. No program is named. -/
namespace Go.Aw
open Go
/-! ### keys -/
theorem kq_iff {a b : D} : kq a b = true ↔ a.num = b.num ∧ a.text = b.text := by simp [kq]
theorem kq_refl (a : D) : kq a a = true := kq_iff.2 ⟨rfl, rfl⟩
theorem kq_symm {a b : D} (h : kq a b = true) : kq b a = true := kq_iff.2 ⟨(kq_iff.1 h).1.symm, (kq_iff.1 h).2.symm⟩
theorem kq_trans {a b c : D} (h : kq a b = true) (k : kq b c = true) : kq a c = true := kq_iff.2 ⟨(kq_iff.1 h).1.trans (kq_iff.1 k).1, (kq_iff.1 h).2.trans (kq_iff.1 k).2⟩
theorem kq_comm (a b : D) : kq a b = kq b a := by
  cases h : kq a b
  · cases h' : kq b a
    · rfl
    · rw [kq_symm h'] at h; cases h
  · exact (kq_symm h).symm
theorem kq_congr {a b : D} (h : kq a b = true) (c : D) : kq a c = kq b c := by
  cases h' : kq b c
  · cases h2 : kq a c
    · rfl
    · rw [kq_trans (kq_symm h) h2] at h'; cases h'
  · exact kq_trans h h'
section
variable {α : Type}
theorem kget_kset (m : List (D × α)) (d e : D) (v : α) : kget (kset m d v) e = if kq e d then some v else kget m e := by
  induction m with
  | nil => simp only [kset, kget, List.find?_cons, List.find?_nil]; cases kq e d <;> rfl
  | cons p r ih =>
    simp only [kset]
    by_cases h : kq d p.1 = true
    · rw [if_pos h]
      simp only [kget, List.find?_cons]
      rw [show kq e p.1 = kq e d by rw [kq_comm e p.1, kq_comm e d]; exact (kq_congr h e).symm]
      cases kq e d <;> rfl
    · rw [if_neg h]
      simp only [kget, List.find?_cons] at ih ⊢
      by_cases h2 : kq e p.1 = true
      · have h3 : kq e d = false := by
          cases h3 : kq e d
          · rfl
          · exact absurd (kq_trans (kq_symm h3) h2) h
        simp only [h2, h3]; rfl
      · simp only [h2]; exact ih
end
theorem seenB_kset (m : List (D × Bool)) (d e : D) : seenB (kset m d true) e = (kq e d || seenB m e) := by
  unfold seenB; rw [kget_kset]; cases kq e d <;> rfl
theorem kpar_kset (m : List (D × Int)) (d e : D) (v : Int) : kpar (kset m d v) e = if kq e d then (v, true) else kpar m e := by
  unfold kpar; rw [kget_kset]; cases kq e d <;> rfl
/-- Definitions with labels that are all different. -/
def Apart (l : List D) : Prop := l.Pairwise fun a b => kq a.head b.head = false

theorem headsGo_apart : ∀ {l : List D} {ps : List (D × Int)}, (headsGo ps l).1 = 0 → Apart l ∧ (∀ d, d ∈ l → (kpar ps d.head).2 = false) ∧
    ∀ f, kpar (headsGo ps l).2 f = (match l.find? fun d => kq f d.head with | some d => ((nlist (names (d1 d.kids))).length, true) | none => kpar ps f)
  | [], ps, _ => ⟨.nil, fun d hd => by simp at hd, fun f => rfl⟩
  | y :: l, ps, h => by
    rw [headsGo] at h
    by_cases hc : ((chead ps y).1 != 0) = true
    · rw [if_pos hc] at h; rw [h] at hc; simp at hc
    · rw [if_neg hc] at h
      have h0 : (chead ps y).1 = 0 := by simpa using hc
      obtain ⟨x0, x1, x2, ns, k1, k2, k3, k4, k5, k6, k7⟩ := chead_ok h0
      have hy : y.head = x0 := head_cons k1
      have hy1 : d1 y.kids = x1 := by rw [k1]; rfl
      obtain ⟨i1, i2, i3⟩ := headsGo_apart h
      rw [k7] at i2 i3
      have i4 : ∀ d, d ∈ l → kq d.head x0 = false ∧ (kpar ps d.head).2 = false := by
        intro d hd
        have := i2 d hd
        rw [kpar_kset] at this
        cases hk : kq d.head x0 with
        | true => rw [hk] at this; simp at this
        | false => rw [hk] at this; exact ⟨rfl, by simpa using this⟩
      refine ⟨List.pairwise_cons.2 ⟨fun d hd => by rw [hy, kq_comm]; exact (i4 d hd).1, i1⟩, fun d hd => ?_, fun f => ?_⟩
      · rcases List.mem_cons.1 hd with rfl | hd
        · rw [hy]; exact k4
        · exact (i4 d hd).2
      · rw [headsGo, if_neg hc, k7, i3 f, List.find?_cons, hy, kpar_kset]
        cases hf : kq f x0 with
        | false => rfl
        | true =>
          have : l.find? (fun d => kq f d.head) = none := by
            rw [List.find?_eq_none]
            intro d hd he
            have := (i4 d hd).1
            rw [kq_trans (kq_symm he) hf] at this
            cases this
          rw [this]
          show ((ns.length : Int), true) = (((nlist (names (d1 y.kids))).length : Int), true)
          rw [hy1, k5]; rfl

theorem defsL_get {l : List D} (h : Apart l) (f : D) : kget (defsL l) f = l.find? fun d => kq f d.head := by
  have key : ∀ (l : List D) (m : List (D × D)), Apart l → (∀ d, d ∈ l → kget m d.head = none) → kget (l.foldl (fun m d => kset m d.head d) m) f = (match l.find? fun d => kq f d.head with | some d => some d | none => kget m f) := by
    intro l
    induction l with
    | nil => intro m _ _; rfl
    | cons y l ih =>
      intro m ha hm
      have ha := List.pairwise_cons.1 ha
      rw [List.foldl_cons, ih _ ha.2 (fun d hd => by
        rw [kget_kset, show kq d.head y.head = false by rw [kq_comm]; exact ha.1 d hd]
        exact hm d (by simp [hd])), List.find?_cons, kget_kset]
      cases hf : kq f y.head with
      | false => rfl
      | true =>
        have : l.find? (fun d => kq f d.head) = none := by
          rw [List.find?_eq_none]
          intro d hd he
          have := ha.1 d hd
          rw [kq_trans (kq_symm hf) he] at this
          cases this
        rw [this]; rfl
  rw [defsL, key l [] h (fun _ _ => rfl)]
  cases l.find? fun d => kq f d.head <;> rfl

theorem bodies_ok {ps : List (D × Int)} : ∀ {l : List D}, bodies ps l = 0 → ∀ d, d ∈ l → cexpr ps (nlist (names (d1 d.kids))) (d2 d.kids) = 0
  | [], _, d, hd => by simp at hd
  | y :: l, h, d, hd => by
    rw [bodies] at h
    by_cases hc : (cexpr ps (nlist (names (d1 y.kids))) (d2 y.kids) != 0) = true
    · rw [if_pos hc] at h; rw [h] at hc; simp at hc
    · rw [if_neg hc] at h
      rcases List.mem_cons.1 hd with rfl | hd
      · simpa using hc
      · exact bodies_ok h d hd

theorem cll_zero {ps : List (D × Int)} {b : List ByteArray} : ∀ {l : List D}, cll ps b l = 0 ↔ ∀ x, x ∈ l → cexpr ps b x = 0
  | [] => by simp [cll, call]
  | x :: l => by
    rw [cll_cons]
    by_cases hc : (cexpr ps b x != 0) = true
    · rw [if_pos hc]
      simp at hc
      constructor
      · intro h; exact absurd h hc
      · intro h; exact absurd (h x (by simp)) hc
    · rw [if_neg hc, cll_zero]
      simp at hc
      simp [hc]

/-- An expression that has been checked, of right data. -/
theorem cexpr_list {ps : List (D × Int)} {b : List ByteArray} {d : D} (h : cexpr ps b d = 0) (hk : d.kind = 3) :
    d.kids ≠ [] ∧ d.head.kind = 2 ∧ ((d.head.text = sQuote ∧ d.kids.length = 2) ∨ (d.head.text = sIf ∧ d.kids.length = 4 ∧ cll ps b (d.kids.drop 1) = 0) ∨
      (d.head.text = sLet ∧ d.kids.length = 4 ∧ isName (d1 d.kids) = true ∧ cexpr ps b (d2 d.kids) = 0 ∧ cexpr ps (b ++ [(d1 d.kids).text]) (d.kids.getD 3 dnone) = 0) ∨
      (d.head.text = sCall ∧ ccall ps b d.kids = 0) ∨
      (d.head.text ≠ sQuote ∧ d.head.text ≠ sIf ∧ d.head.text ≠ sLet ∧ d.head.text ≠ sCall ∧ (arity d.head.text).2 = true ∧ (arity d.head.text).1 = (d.kids.length : Int) - 1 ∧ cll ps b (d.kids.drop 1) = 0)) := by
  rw [cexpr_eq] at h
  have e1 : (d.kind == 1) = false := by rw [hk]; rfl
  have e2 : (d.kind == 2) = false := by rw [hk]; rfl
  simp only [e1, e2, Bool.false_and, Bool.false_eq_true, if_false] at h
  by_cases h1 : ((d.kids.length : Int) == 0 || d.head.kind != 2) = true
  · rw [if_pos h1] at h; cases h
  rw [if_neg h1] at h
  simp only [Bool.or_eq_true, beq_iff_eq, bne_iff_ne, not_or, Decidable.not_not] at h1
  refine ⟨by intro e; rw [e] at h1; simp at h1, h1.2, ?_⟩
  by_cases h2 : d.head.text = sQuote
  · rw [if_pos (by simpa using h2)] at h
    split at h
    · cases h
    · rename_i h3; exact .inl ⟨h2, by simp at h3; omega⟩
  rw [if_neg (by simpa using h2)] at h
  by_cases h3 : d.head.text = sIf
  · rw [if_pos (by simpa using h3)] at h
    split at h
    · cases h
    · rename_i h4; exact .inr (.inl ⟨h3, by simp at h4; omega, h⟩)
  rw [if_neg (by simpa using h3)] at h
  by_cases h4 : d.head.text = sLet
  · rw [if_pos (by simpa using h4)] at h
    split at h
    · cases h
    · rename_i h5
      simp only [Bool.or_eq_true, bne_iff_ne, Bool.not_eq_true', not_or, Decidable.not_not, Bool.not_eq_false] at h5
      have h5l : d.kids.length = 4 := by omega
      have g2 : cnth ps b 2 d.kids = cexpr ps b (d2 d.kids) := cnth_get ps b 2 d.kids _ (by simp [d2, List.getD, h5l])
      have g3 : cnth ps (b ++ [(d.kids.getD 1 dnone).text]) 3 d.kids = cexpr ps (b ++ [(d.kids.getD 1 dnone).text]) (d.kids.getD 3 dnone) := cnth_get ps _ 3 d.kids _ (by simp [List.getD, h5l])
      rw [g2, g3] at h
      split at h
      · rename_i h6; rw [h] at h6; simp at h6
      · rename_i h6
        exact .inr (.inr (.inl ⟨h4, h5l, h5.2, by simpa using h6, h⟩))
  rw [if_neg (by simpa using h4)] at h
  by_cases h5 : d.head.text = sCall
  · rw [if_pos (by simpa using h5)] at h
    exact .inr (.inr (.inr (.inl ⟨h5, h⟩)))
  rw [if_neg (by simpa using h5)] at h
  split at h
  · cases h
  · rename_i h6
    split at h
    · cases h
    · rename_i h7
      exact .inr (.inr (.inr (.inr ⟨h2, h3, h4, h5, by simpa using h6, by simpa using h7, h⟩)))

theorem ccall_zero {ps : List (D × Int)} {b : List ByteArray} {l : List D} (h : ccall ps b l = 0) : 2 ≤ l.length ∧ isLabel (d1 l) = true ∧ (kpar ps (d1 l)).2 = true ∧ (kpar ps (d1 l)).1 = (l.length : Int) - 2 ∧ cll ps b (l.drop 2) = 0 := by
  unfold ccall at h
  by_cases h1 : (decide ((l.length : Int) < 2) || !isLabel (l.getD 1 dnone)) = true
  · rw [if_pos h1] at h; cases h
  rw [if_neg h1] at h
  split at h
  · cases h
  · rename_i h2
    split at h
    · cases h
    · rename_i h3
      simp only [Bool.or_eq_true, decide_eq_true_eq, Bool.not_eq_true', not_or, Bool.not_eq_false] at h1
      exact ⟨by omega, h1.2, by simp only [Bool.not_eq_true', Bool.not_eq_false] at h2; exact h2, by simp only [bne_iff_ne, Decidable.not_not] at h3; exact h3, h⟩

theorem sQ_ne_L : sQuote ≠ sLet := by decide
theorem sQ_ne_C : sQuote ≠ sCall := by decide
theorem sI_ne_C : sIf ≠ sCall := by decide
theorem sL_ne_C : sLet ≠ sCall := by decide
theorem sC_ne_Q : sCall ≠ sQuote := by decide
theorem sC_ne_L : sCall ≠ sLet := by decide

/-- All parts of a checked expression are checked, with some names. -/
theorem cexpr_parts {ps : List (D × Int)} {b : List ByteArray} {d : D} (h : cexpr ps b d = 0) (hk : d.kind = 3) : ∀ x, x ∈ parts d → ∃ b', cexpr ps b' x = 0 := by
  obtain ⟨hne, _, hc⟩ := cexpr_list h hk
  have e3 : (d.kind != 3) = false := by rw [hk]; rfl
  intro x hx
  unfold parts at hx
  rw [if_neg (by simp [e3])] at hx
  rcases hc with ⟨h1, _⟩ | ⟨h1, h2, h3⟩ | ⟨h1, h2, h3, h4, h5⟩ | ⟨h1, h2⟩ | ⟨h1, h2, h3, h4, h5, h6, h7⟩
  · rw [if_pos (by simpa using h1)] at hx; simp at hx
  · rw [if_neg (by rw [h1]; decide), if_neg (by rw [h1]; decide), if_neg (by rw [h1]; decide)] at hx
    exact ⟨b, cll_zero.1 h3 x hx⟩
  · rw [if_neg (by rw [h1]; decide), if_pos (by simpa using h1)] at hx
    have hd : d.kids.drop 2 = [d2 d.kids, d.kids.getD 3 dnone] := by
      match hkk : d.kids, h2 with
      | [a, b, c, e], _ => rfl
    rw [hd] at hx
    simp only [List.mem_cons, List.not_mem_nil, or_false] at hx
    rcases hx with rfl | rfl
    · exact ⟨b, h4⟩
    · exact ⟨_, h5⟩
  · rw [if_neg (by rw [h1]; decide), if_neg (by rw [h1]; decide), if_pos (by simpa using h1)] at hx
    exact ⟨b, cll_zero.1 (ccall_zero h2).2.2.2.2 x hx⟩
  · rw [if_neg (by simpa using h1), if_neg (by simpa using h3), if_neg (by simpa using h4)] at hx
    exact ⟨b, cll_zero.1 h7 x hx⟩

theorem formed_kids {d x : D} (h : formed d = true) (hx : x ∈ d.kids) : formed x = true := by
  rw [formed_eq] at h
  split at h
  · simp only [Bool.and_eq_true, beq_iff_eq] at h
    have : d.kids = [] := by cases hk : d.kids with
      | nil => rfl
      | cons a r => rw [hk] at h; simp at h; omega
    rw [this] at hx; simp at hx
  · split at h
    · simp only [Bool.and_eq_true, beq_iff_eq] at h
      have : d.kids = [] := by cases hk : d.kids with
        | nil => rfl
        | cons a r => rw [hk] at h; simp at h; omega
      rw [this] at hx; simp at hx
    · split at h
      · simp only [Bool.and_eq_true, Bool.not_eq_true', List.any_eq_false] at h
        simpa using h.2 x hx
      · cases h
theorem formed_kind {d : D} (h : formed d = true) : d.kind = 1 ∨ d.kind = 2 ∨ d.kind = 3 := by
  rw [formed_eq] at h
  split at h
  · rename_i h1; exact .inl (by simpa using h1)
  · split at h
    · rename_i h1; exact .inr (.inl (by simpa using h1))
    · split at h
      · rename_i h1; exact .inr (.inr (by simpa using h1))
      · cases h

/-- What has been checked may be gone through, and calls what is known. -/
theorem okE_of {ps : List (D × Int)} : ∀ (d : D) (b : List ByteArray), cexpr ps b d = 0 → formed d = true → okE d = true := by
  intro d
  induction d using D.ind with
  | _ k n t l ih =>
    intro b h hf
    rcases formed_kind hf with hk | hk | hk
    · simp only [D.kind] at hk; subst hk; rfl
    · simp only [D.kind] at hk; subst hk; rfl
    · have hp := cexpr_parts h hk
      obtain ⟨hne, _, hc⟩ := cexpr_list h hk
      have h2l : (D.mk k n t l).head.text = sLet ∨ (D.mk k n t l).head.text = sCall → 2 ≤ l.length := by
        intro ht
        rcases hc with ⟨h1, _⟩ | ⟨h1, h2, h3⟩ | ⟨h1, h2, h3, h4, h5⟩ | ⟨h1, h2⟩ | ⟨h1, h2, h3, h4, h5, h6, h7⟩
        · rw [h1] at ht; rcases ht with ht | ht
          · exact absurd ht sQ_ne_L
          · exact absurd ht sQ_ne_C
        · simp only [D.kids] at h2; omega
        · simp only [D.kids] at h2; omega
        · exact (ccall_zero h2).1
        · rcases ht with ht | ht
          · exact absurd ht h3
          · exact absurd ht h4
      simp only [D.kind] at hk
      subst hk
      rw [okE, okEs_drop]
      simp only [Bool.or_eq_true, Bool.and_eq_true, Bool.not_eq_true', List.all_eq_true, decide_eq_true_eq]
      refine .inr ⟨⟨⟨rfl, ?_⟩, ?_⟩, fun x hx => ?_⟩
      · cases l with
        | nil => exact (hne rfl).elim
        | cons => rfl
      · by_cases h2 : 2 ≤ l.length
        · exact .inl h2
        · refine .inr ?_
          simp only [Bool.or_eq_false_iff, decide_eq_false_iff_not]
          exact ⟨fun e => h2 (h2l (.inl e)), fun e => h2 (h2l (.inr e))⟩
      · have hx' : x ∈ parts (D.mk 3 n t l) := by rw [parts_drop]; exact hx
        obtain ⟨b', hb'⟩ := hp x hx'
        exact ih x (parts_mem hx') b' hb' (formed_kids hf (parts_mem hx'))

/-- Every label that is called is known. -/
theorem calls_known {ps : List (D × Int)} : ∀ (d : D) (b : List ByteArray), cexpr ps b d = 0 → formed d = true → ∀ st : CS, (∀ f, f ∈ st.1 → (kpar ps f).2 = true) → ∀ f, f ∈ (callsD d st).1 → (kpar ps f).2 = true := by
  intro d
  induction d using D.ind with
  | _ k n t l ih =>
    intro b h hf st hst f hm
    rw [callsD_eq] at hm
    have h0 : ∀ f, f ∈ (callStep (D.mk k n t l) st).1 → (kpar ps f).2 = true := by
      intro f hf
      unfold callStep at hf
      split at hf
      · rename_i hc
        simp only [List.mem_append, List.mem_singleton] at hf
        rcases hf with hf | rfl
        · exact hst f hf
        · simp only [Bool.and_eq_true] at hc
          have hi := isCall_iff.1 hc.1
          obtain ⟨hne, _, hcc⟩ := cexpr_list h hi.1
          rcases hcc with ⟨h1, _⟩ | ⟨h1, h2, h3⟩ | ⟨h1, h2, h3, h4, h5⟩ | ⟨h1, h2⟩ | ⟨h1, h2, h3, h4, h5, h6, h7⟩
          · exact absurd (h1.symm.trans hi.2) sQ_ne_C
          · exact absurd (h1.symm.trans hi.2) sI_ne_C
          · exact absurd (h1.symm.trans hi.2) sL_ne_C
          · exact (ccall_zero h2).2.2.1
          · exact absurd hi.2 h4
      · exact hst f hf
    have key : ∀ (r : List D), (∀ x, x ∈ r → x ∈ parts (D.mk k n t l)) → ∀ st : CS, (∀ f, f ∈ st.1 → (kpar ps f).2 = true) → ∀ f, f ∈ (r.foldl (fun st x => callsD x st) st).1 → (kpar ps f).2 = true := by
      intro r
      induction r with
      | nil => intro _ st hs f hf; exact hs f hf
      | cons x r ihr =>
        intro hr st hs f hf
        rw [List.foldl_cons] at hf
        have hx := hr x (by simp)
        by_cases hk : (D.mk k n t l).kind = 3
        · obtain ⟨b', hb'⟩ := cexpr_parts h hk x hx
          exact ihr (fun y hy => hr y (by simp [hy])) _ (fun f hf => ih x (parts_mem hx) b' hb' (formed_kids ‹_› (parts_mem hx)) st hs f hf) f hf
        · rw [parts_nil hk] at hx; simp at hx
    exact key _ (fun _ h => h) _ h0 f hm

/-! ### a right program -/
structure Right (p : D) : Prop where
  chk : fcheck p = 0
  sz : p.size ≤ 900000000

theorem dcheck_formed {p : D} (h : dcheck p = 0) : formed p = true := by
  unfold dcheck at h
  split at h
  · cases h
  · rename_i h1; simpa using h1

section
variable {p d f : D} (R : Right p)
include R
theorem Right.heads : (heads p).1 = 0 := (fcheck_heads R.chk).1
theorem Right.formed : formed p = true := dcheck_formed (heads_ok R.heads).1
theorem Right.def (hd : d ∈ p.kids) : ∃ x0 x1 x2 ns, d.kids = [x0, x1, x2] ∧ d.kind = 3 ∧ isLabel x0 = true ∧ names x1 = some ns ∧ ns.length ≤ 8 := def_ok R.heads hd
theorem Right.apart : Apart p.kids := by
  have h := R.heads
  rw [(heads_ok R.heads).2.2.2.2] at h
  exact (headsGo_apart h).1
theorem Right.par (f : D) : kpar (Aw.heads p).2 f = (match p.kids.find? fun d => kq f d.head with | some d => ((nlist (names (d1 d.kids))).length, true) | none => (0, false)) := by
  have h := R.heads
  rw [(heads_ok R.heads).2.2.2.2] at h ⊢
  exact (headsGo_apart h).2.2 f
theorem Right.body (hd : d ∈ p.kids) : cexpr (Aw.heads p).2 (nlist (names (d1 d.kids))) (d2 d.kids) = 0 := bodies_ok (fcheck_heads R.chk).2 d hd
theorem Right.bodyF (hd : d ∈ p.kids) : Aw.formed (d2 d.kids) = true := by
  obtain ⟨x0, x1, x2, ns, hk, _⟩ := R.def hd
  have : d2 d.kids = x2 := by rw [hk]; rfl
  rw [this]
  exact formed_kids (formed_kids R.formed hd) (by rw [hk]; simp)
theorem Right.ok (hd : d ∈ p.kids) : okE (d2 d.kids) = true := okE_of _ _ (R.body hd) (R.bodyF hd)
theorem Right.known (hd : d ∈ p.kids) (hf : f ∈ callsOf (d2 d.kids)) : ∃ e, e ∈ p.kids ∧ kq f e.head = true ∧ kget (defsL p.kids) f = some e := by
  have h := calls_known _ _ (R.body hd) (R.bodyF hd) ([], []) (fun f hf => by simp at hf) f hf
  rw [R.par f] at h
  rw [defsL_get R.apart]
  cases he : p.kids.find? fun d => kq f d.head with
  | none => rw [he] at h; cases h
  | some e => exact ⟨e, List.mem_of_find?_eq_some he, by have := List.find?_some he; simpa using this, rfl⟩
theorem Right.ne : p.kids ≠ [] := (heads_ok R.heads).2.2.1
theorem Right.head_mem : p.head ∈ p.kids := by
  obtain ⟨x, r, h⟩ := kids_cons R.ne
  rw [head_cons h, h]; simp
theorem Right.kids_ne (hd : d ∈ p.kids) : d.kids ≠ [] := by
  obtain ⟨x0, x1, x2, ns, hk, _⟩ := R.def hd
  rw [hk]; simp
end
/-! ### what is reached -/
structure RI (p : D) (st : CS) : Prop where
  mem : ∀ d, d ∈ st.1 → d ∈ p.kids
  apart : Apart st.1
  seen : ∀ f, seenB st.2 f = st.1.any fun d => kq f d.head

theorem nodup_len {α : Type} : ∀ {l r : List α}, l.Nodup → (∀ x, x ∈ l → x ∈ r) → l.length ≤ r.length
  | [], r, _, _ => Nat.zero_le _
  | x :: l, r, hn, hs => by
    obtain ⟨a, b, rfl⟩ := List.append_of_mem (hs x (by simp))
    have hn := List.nodup_cons.1 hn
    have := nodup_len (l := l) (r := a ++ b) hn.2 (fun y hy => by
      have h := hs y (by simp [hy])
      simp only [List.mem_append, List.mem_cons] at h ⊢
      rcases h with h | rfl | h
      · exact .inl h
      · exact (hn.1 hy).elim
      · exact .inr h)
    simp only [List.length_append, List.length_cons] at this ⊢
    omega

theorem RI.len {p : D} {st : CS} (h : RI p st) : st.1.length ≤ p.kids.length := by
  refine nodup_len ?_ h.mem
  refine List.Pairwise.imp ?_ h.apart
  intro a b hab e
  subst e; rw [kq_refl] at hab; cases hab

theorem RI.step {p f e : D} {st : CS} (h : RI p st) (he : e ∈ p.kids) (hq : kq f e.head = true) (hg : kget (defsL p.kids) f = some e) : RI p (reachStep (defsL p.kids) st f) := by
  unfold reachStep
  split
  · rename_i hs
    have hs : seenB st.2 f = false := by simpa using hs
    have hdef : defOf (defsL p.kids) f = e := by unfold defOf; rw [hg]; rfl
    rw [hdef]
    rw [h.seen, List.any_eq_false] at hs
    refine ⟨fun d hd => ?_, ?_, fun g => ?_⟩
    · simp only [List.mem_append, List.mem_singleton] at hd
      rcases hd with hd | rfl
      · exact h.mem d hd
      · exact he
    · refine List.pairwise_append.2 ⟨h.apart, List.pairwise_singleton _ _, fun a ha b hb => ?_⟩
      simp only [List.mem_singleton] at hb
      subst hb
      have := hs a ha
      rw [kq_comm, ← kq_congr hq]
      simpa using this
    · rw [seenB_kset, h.seen, List.any_append, Bool.or_comm]
      simp only [List.any_cons, List.any_nil, Bool.or_false]
      rw [show kq g f = kq g e.head by rw [kq_comm g f, kq_comm g e.head]; exact kq_congr hq g]
  · exact h

theorem RI.fold {p : D} : ∀ {fs : List D} {st : CS}, RI p st → (∀ f, f ∈ fs → ∃ e, e ∈ p.kids ∧ kq f e.head = true ∧ kget (defsL p.kids) f = some e) → RI p (fs.foldl (reachStep (defsL p.kids)) st)
  | [], st, h, _ => h
  | f :: fs, st, h, hf => by
    rw [List.foldl_cons]
    obtain ⟨e, h1, h2, h3⟩ := hf f (by simp)
    exact RI.fold (h.step h1 h2 h3) (fun g hg => hf g (by simp [hg]))

theorem rst_inv {p : D} (R : Right p) : ∀ k, RI p (rst p k)
  | 0 => by
    refine ⟨fun d hd => ?_, List.pairwise_singleton _ _, fun f => ?_⟩
    · simp only [rst, rstK, List.mem_singleton] at hd
      subst hd; exact R.head_mem
    · simp only [rst, rstK, List.any_cons, List.any_nil, Bool.or_false, seenB, kget, List.find?_cons, List.find?_nil]
      cases kq f p.head.head <;> rfl
  | k + 1 => by
    have ih := rst_inv R k
    unfold rst at ih ⊢
    rw [rstK]
    split
    · exact ih
    · rename_i d hd
      exact ih.fold (fun f hf => R.known (ih.mem d (List.mem_of_getElem? hd)) hf)
theorem rst_stable {p : D} {k : Nat} (h : (rst p k).1.length ≤ k) : ∀ j, rst p (k + j) = rst p k
  | 0 => rfl
  | j + 1 => by
    have ih := rst_stable h j
    have : (rst p (k + j)).1[k + j]? = none := by rw [ih]; exact List.getElem?_eq_none (by omega)
    rw [← Nat.add_assoc, ← ih]
    unfold rst at this ⊢
    rw [rstK, this]
theorem reach_done {p : D} {k : Nat} (h : (rst p k).1.length ≤ k) (hk : k ≤ p.kids.length) : reach p = (rst p k).1 := by
  have := rst_stable h (p.kids.length - k)
  rw [show k + (p.kids.length - k) = p.kids.length by omega] at this
  unfold reach; rw [this]
theorem rst_next {p x : D} {k : Nat} (h : (rst p k).1[k]? = some x) : rst p (k + 1) = (callsOf (d2 x.kids)).foldl (reachStep (defsL p.kids)) (rst p k) := by
  unfold rst at h ⊢
  rw [rstK, h]; rfl

/-- Within a round. -/
def rin (p : D) (st : CS) (fs : List D) (j : Nat) : CS := (fs.take j).foldl (reachStep (defsL p.kids)) st
theorem rin_zero {p : D} {st : CS} {fs : List D} : rin p st fs 0 = st := by simp [rin]
theorem rin_next {p x : D} {st : CS} {fs : List D} {j : Nat} (h : fs[j]? = some x) : rin p st fs (j + 1) = reachStep (defsL p.kids) (rin p st fs j) x := by unfold rin; rw [take_next h, List.foldl_append]; rfl
theorem rin_all {p : D} {st : CS} {fs : List D} : rin p st fs fs.length = fs.foldl (reachStep (defsL p.kids)) st := by unfold rin; rw [List.take_length]
theorem rin_inv {p : D} {st : CS} {fs : List D} (h : RI p st) (hf : ∀ f, f ∈ fs → ∃ e, e ∈ p.kids ∧ kq f e.head = true ∧ kget (defsL p.kids) f = some e) (j : Nat) : RI p (rin p st fs j) :=
  h.fold fun f hm => hf f (List.mem_of_mem_take hm)

theorem reachStep_new {m : List (D × D)} {st : CS} {f e : D} (hs : seenB st.2 f = false) (hg : kget m f = some e) : reachStep m st f = (st.1 ++ [e], kset st.2 f true) := by
  unfold reachStep defOf; rw [hs, hg]; rfl
theorem reachStep_old {m : List (D × D)} {st : CS} {f : D} (hs : seenB st.2 f = true) : reachStep m st f = st := by
  unfold reachStep; rw [hs]; simp
theorem reachStep_len {m : List (D × D)} {st : CS} {f : D} : st.1.length ≤ (reachStep m st f).1.length := by
  unfold reachStep; split
  · simp
  · exact Nat.le_refl _
theorem foldl_len {m : List (D × D)} : ∀ (fs : List D) (st : CS), st.1.length ≤ (fs.foldl (reachStep m) st).1.length
  | [], st => Nat.le_refl _
  | f :: fs, st => by rw [List.foldl_cons]; exact Nat.le_trans reachStep_len (foldl_len fs _)
theorem rst_len {p x : D} {k : Nat} (h : (rst p k).1[k]? = some x) : (rst p k).1.length ≤ (rst p (k + 1)).1.length := by
  rw [rst_next h]; exact foldl_len _ _

/-- A nil slice that is handed over may be appended to. -/
theorem ACalls.adoptArg {P : Program} {f : FuncId} {pre post : List AV} {σ : Store} {e : TypeId} {sz : Nat} {R : AV → Store → Prop} (h : ACalls P f (pre ++ .acc [] σ.toks.length :: post) { σ with toks := σ.toks ++ [⟨0, e, sz⟩] } R) : ACalls P f (pre ++ .pv .nils :: post) σ R := by
  intro g w cargs hinv hlen hargs
  obtain ⟨i1, le1⟩ := hinv.adopt ⟨0, e, sz⟩
  refine (h _ w cargs i1 (by simpa using hlen) (fun i x v hx hv => ?_)).mono ?_
  · rcases Nat.lt_trichotomy i pre.length with hi | hi | hi
    · rw [List.getElem?_append_left hi] at hx
      exact (hargs i x v (by rw [List.getElem?_append_left hi]; exact hx) hv).mono le1 (fun _ _ h => h)
    · subst hi
      rw [List.getElem?_append_right (Nat.le_refl _), Nat.sub_self] at hx
      simp only [List.getElem?_cons_zero, Option.some.injEq] at hx
      subst hx
      have := hargs pre.length (.pv .nils) v (by rw [List.getElem?_append_right (Nat.le_refl _), Nat.sub_self]; rfl) hv
      exact this.adopt (xs := []) rfl hinv ⟨0, e, sz⟩ rfl (fun x hx => by simp at hx)
    · have e1 : ∀ (y : AV), (pre ++ y :: post)[i]? = post[i - pre.length - 1]? := by
        intro y
        rw [List.getElem?_append_right (by omega), show i - pre.length = (i - pre.length - 1) + 1 by omega, List.getElem?_cons_succ]
        rfl
      rw [e1] at hx
      exact (hargs i x v (by rw [e1]; exact hx) hv).mono le1 (fun _ _ h => h)
  · rintro e' w' ⟨v, r, σ', g', rfl, hR, hinv', hext, hra⟩
    exact ⟨v, r, σ', g', rfl, hR, hinv', Ext.trans (g' := { g with tb := g.tb ++ [none] }) (σ' := { σ with toks := σ.toks ++ [⟨0, e, sz⟩] }) (w' := w) ⟨le1, rfl, rfl, fun _ _ => rfl, Nat.le_refl _, rfl, rfl, rfl, hinv.lio, hinv.clo⟩ hext, hra⟩

/-! ### the store while this goes on -/
def withR (σ : Store) (m : List (D × D)) (e : TypeId) (st : CS) : Store := { σ with objs := σ.objs ++ [.map (mapK m) (mapV enc m), .map (mapK st.2) (mapV pbool st.2)], toks := σ.toks ++ [⟨st.1.length, e, 4⟩] }
section
variable {σ : Store} {m : List (D × D)} {e : TypeId} {st : CS}
theorem withR_get0 : (withR σ m e st).objs[σ.objs.length]? = some (.map (mapK m) (mapV enc m)) := by simp [withR]
theorem withR_get1 : (withR σ m e st).objs[σ.objs.length + 1]? = some (.map (mapK st.2) (mapV pbool st.2)) := by simp [withR]
theorem withR_tok : (withR σ m e st).toks[σ.toks.length]? = some ⟨st.1.length, e, 4⟩ := by simp [withR]
theorem withR_no : (withR σ m e st).objs.length = σ.objs.length + 2 := by simp [withR]
theorem withR_nt : (withR σ m e st).toks.length = σ.toks.length + 1 := by simp [withR]
theorem withR_cut : (withR σ m e st).cut (σ.objs.length + 2) (σ.toks.length + 1) = withR σ m e st := by simp [withR, Store.cut, List.take_of_length_le]
theorem withR_cut0 : (withR σ m e st).cut σ.objs.length σ.toks.length = σ := by simp [withR, Store.cut]
theorem withR_mem {ob : AObj} (h : ob ∈ (withR σ m e st).objs) (a b c : Nat) : ob ∈ σ.objs ∨ ob.clo a b c = true := by
  simp only [withR, List.mem_append, List.mem_cons, List.not_mem_nil, or_false] at h
  rcases h with h | rfl | rfl
  · exact .inl h
  · exact .inr rfl
  · exact .inr rfl
end
end Go.Aw

/- Programs of the package flat, six: names and labels that are changed. No program is named. -/
namespace Go.Aw
open Go
/-- A function, with what it holds, that gives a datum for a datum wherever the objects are these. -/
def RenAt (P : Program) (G : List (Nat × PV)) (O : List AObj) (f : FuncId) (cl : List AV) (h : D → D) : Prop :=
  Callable P f ∧ AV.noLs cl = true ∧ ∀ σ : Store, σ.gl = G → σ.objs = O → ∀ x : D, x.size ≤ 1000000000 → PurAt P σ f (.pv (enc x) :: cl) (.pv (enc (h x)))
/-- The same of numbers. -/
def LabAt (P : Program) (G : List (Nat × PV)) (O : List AObj) (f : FuncId) (cl : List AV) (h : Int → D) : Prop :=
  Callable P f ∧ AV.noLs cl = true ∧ ∀ σ : Store, σ.gl = G → σ.objs = O → ∀ n : Int, PurAt P σ f (.pv (.int .i64 n) :: cl) (.pv (enc (h n)))
/-- Where a renamer is. -/
abbrev renBox (fl fn : FuncId) (cl cn : List AV) (bare : Bool) : AObj := .box [.func (.func fl) cl, .func (.func fn) cn, .pv (.bool bare)]
@[go_sem high] theorem seq_enc2 (x y : D) : seqPV 4 0 [(0, AV.pv (enc x)), (1, AV.pv (enc y))] = some [enc x, enc y] := by simp [seqPV, toPV, atomToPV, nrm_enc, enc_cells]
@[go_sem high] theorem seq_enc3 (x y z : D) : seqPV 4 0 [(0, AV.pv (enc x)), (1, AV.pv (enc y)), (2, AV.pv (enc z))] = some [enc x, enc y, enc z] := by simp [seqPV, toPV, atomToPV, nrm_enc, enc_cells]
/-- A list that grows behind some elements. -/
def outK (pre : List D) (l : List D) (h : D → D) (k : Nat) : List D := pre ++ (l.take k).map h
section
variable {pre l : List D} {h : D → D} {k : Nat} {x : D}
theorem outK_zero : outK pre l h 0 = pre := by simp [outK]
theorem outK_next (hx : l[k]? = some x) : outK pre l h (k + 1) = outK pre l h k ++ [h x] := by unfold outK; rw [take_next hx]; simp
theorem outK_all : outK pre l h l.length = pre ++ l.map h := by unfold outK; rw [List.take_length]
theorem outK_len (hk : k ≤ l.length) : (outK pre l h k).length = pre.length + k := by unfold outK; rw [List.length_append, List.length_map, List.length_take]; omega
end
theorem rexpr_num {lab nm : D → D} {bare : Bool} {d : D} (h : (d.kind == 1) = true) : rexpr lab nm bare d = d := by rw [rexpr_eq, if_pos h]
theorem rexpr_sym {lab nm : D → D} {bare : Bool} {d : D} (h1 : (d.kind == 1) = false) (h : (d.kind == 2) = true) : rexpr lab nm bare d = nm d := by rw [rexpr_eq, if_neg (by rw [h1]; decide), if_pos h]
section
variable {lab nm : D → D} {bare : Bool} {d : D} (h1 : (d.kind == 1) = false) (h2 : (d.kind == 2) = false)
include h1 h2
theorem rexpr_quote (h3 : decide (d.head.text = sQuote) = true) : rexpr lab nm bare d = d := by rw [rexpr_eq, if_neg (by rw [h1]; decide), if_neg (by rw [h2]; decide), if_pos h3]
theorem rexpr_let (h3 : decide (d.head.text = sQuote) = false) (h4 : decide (d.head.text = sLet) = true) : rexpr lab nm bare d = dlist ([d.head, nm (d1 d.kids)] ++ (parts d).map (rexpr lab nm bare)) := by
  rw [rexpr_eq, if_neg (by rw [h1]; decide), if_neg (by rw [h2]; decide), if_neg (by rw [h3]; decide), if_pos h4]
theorem rexpr_call (h3 : decide (d.head.text = sQuote) = false) (h4 : decide (d.head.text = sLet) = false) (h5 : decide (d.head.text = sCall) = true) : rexpr lab nm bare d = dlist ((if bare = true then [lab (d1 d.kids)] else [d.head, lab (d1 d.kids)]) ++ (parts d).map (rexpr lab nm bare)) := by
  rw [rexpr_eq, if_neg (by rw [h1]; decide), if_neg (by rw [h2]; decide), if_neg (by rw [h3]; decide), if_neg (by rw [h4]; decide), if_pos h5]
theorem rexpr_other (h3 : decide (d.head.text = sQuote) = false) (h4 : decide (d.head.text = sLet) = false) (h5 : decide (d.head.text = sCall) = false) : rexpr lab nm bare d = dlist ([d.head] ++ (parts d).map (rexpr lab nm bare)) := by
  rw [rexpr_eq, if_neg (by rw [h1]; decide), if_neg (by rw [h2]; decide), if_neg (by rw [h3]; decide), if_neg (by rw [h4]; decide), if_neg (by rw [h5]; decide)]
end
/-! ### where the labels stand -/
def atK (l : List D) (k : Nat) : List (D × Int) := (l.zipIdx.take k).foldl (fun m x => kset m x.1.head (x.2 : Int)) []
theorem atK_zero {l : List D} : atK l 0 = [] := by simp [atK]
theorem atK_next {l : List D} {k : Nat} {x : D} (h : l[k]? = some x) : atK l (k + 1) = kset (atK l k) x.head (k : Int) := by
  unfold atK
  have hz : l.zipIdx[k]? = some (x, k) := by rw [List.getElem?_zipIdx, h]; simp
  rw [take_next hz, List.foldl_append]; rfl
theorem atK_all {l : List D} : atK l l.length = atL l := by
  unfold atK atL
  rw [List.take_of_length_le (by simp)]
/-- The store while the labels are laid down. -/
def withA (σ : Store) (fl : FuncId) (ps : List (D × Int)) : Store := { σ with objs := σ.objs ++ [.box [.func (.func fl) []], .map (mapK ps) (mapV pint ps), .box [.map (σ.objs.length + 1)]] }
section
variable {σ : Store} {fl : FuncId} {ps ps' : List (D × Int)}
theorem withA_get1 : (withA σ fl ps).objs[σ.objs.length + 1]? = some (.map (mapK ps) (mapV pint ps)) := by simp [withA]
theorem withA_get2 : (withA σ fl ps).objs[σ.objs.length + 2]? = some (.box [.map (σ.objs.length + 1)]) := by simp [withA]
theorem withA_toks : (withA σ fl ps).toks = σ.toks := rfl
theorem withA_no : (withA σ fl ps).objs.length = σ.objs.length + 3 := by simp [withA]
theorem withA_mem {ob : AObj} {nt nl : Nat} (h : ob ∈ (withA σ fl ps).objs) : ob ∈ σ.objs ∨ ob.clo (σ.objs.length + 3) nt nl = true := by
  simp only [withA, List.mem_append, List.mem_cons, List.not_mem_nil, or_false] at h
  rcases h with h | rfl | rfl | rfl
  · exact .inl h
  · right; simp [AObj.clo, AV.clos, AV.clo]
  · exact .inr rfl
  · right; simp [AObj.clo, AV.clos, AV.clo]
end
/-- And with the renamer. -/
def withB (σ : Store) (fc fl fn : FuncId) (ps : List (D × Int)) (bare : Bool) : Store := { withA σ fl ps with objs := (withA σ fl ps).objs ++ [renBox fc fn [.ptr σ.objs.length 0, .ptr (σ.objs.length + 2) 0] [] bare] }
section
variable {σ : Store} {fc fl fn : FuncId} {ps : List (D × Int)} {bare : Bool}
theorem withB_gl : (withB σ fc fl fn ps bare).gl = σ.gl := rfl
theorem withB_get0 : (withB σ fc fl fn ps bare).objs[σ.objs.length]? = some (.box [.func (.func fl) []]) := by simp [withB, withA]
theorem withB_get1 : (withB σ fc fl fn ps bare).objs[σ.objs.length + 1]? = some (.map (mapK ps) (mapV pint ps)) := by simp [withB, withA]
theorem withB_get2 : (withB σ fc fl fn ps bare).objs[σ.objs.length + 2]? = some (.box [.map (σ.objs.length + 1)]) := by simp [withB, withA]
theorem withB_get3 : (withB σ fc fl fn ps bare).objs[σ.objs.length + 3]? = some (renBox fc fn [.ptr σ.objs.length 0, .ptr (σ.objs.length + 2) 0] [] bare) := by simp [withB, withA]
theorem withB_take : (withB σ fc fl fn ps bare).objs.take (σ.objs.length + 4) = (withB σ fc fl fn ps bare).objs := List.take_of_length_le (by simp [withB, withA])
theorem withB_take0 : (withB σ fc fl fn ps bare).objs.take σ.objs.length = σ.objs := by simp [withB, withA]
theorem withB_mem {ob : AObj} {nt nl : Nat} (h : ob ∈ (withB σ fc fl fn ps bare).objs) : ob ∈ σ.objs ∨ ob.clo (σ.objs.length + 4) nt nl = true := by
  simp only [withB, withA, List.mem_append, List.mem_cons, List.not_mem_nil, or_false] at h
  rcases h with (h | rfl | rfl | rfl) | rfl
  · exact .inl h
  · right; simp [AObj.clo, AV.clos, AV.clo]
  · exact .inr rfl
  · right; simp [AObj.clo, AV.clos, AV.clo]
  · right; simp [AObj.clo, AV.clos, AV.clo]
theorem withB_toks : (withB σ fc fl fn ps bare).toks = σ.toks := rfl
end
end Go.Aw

/- Programs of the package flat, seven: sizes, labels that are reached. No program is named. -/
namespace Go.Aw
open Go
def sumTo (f : D → Nat) (l : List D) (k : Nat) : Nat := ((l.take k).map f).sum
theorem sumTo_zero {f : D → Nat} {l : List D} : sumTo f l 0 = 0 := by simp [sumTo]
theorem sumTo_next {f : D → Nat} {l : List D} {k : Nat} {x : D} (h : l[k]? = some x) : sumTo f l (k + 1) = sumTo f l k + f x := by unfold sumTo; rw [take_next h]; simp
theorem sumTo_all {f : D → Nat} {l : List D} : sumTo f l l.length = (l.map f).sum := by unfold sumTo; rw [List.take_length]
theorem sum_le {f : D → Nat} : ∀ {l : List D}, (∀ x, x ∈ l → f x ≤ x.size) → (l.map f).sum ≤ D.sizes l
  | [], _ => by simp [D.sizes]
  | x :: l, h => by
    have h1 := h x (by simp)
    have h2 := sum_le (l := l) (fun y hy => h y (by simp [hy]))
    simp only [List.map_cons, List.sum_cons, D.sizes]; omega
theorem sumTo_le {f : D → Nat} {l : List D} {k : Nat} (h : ∀ x, x ∈ l → f x ≤ x.size) : sumTo f l k ≤ D.sizes l := by
  have h1 := sum_le (l := l.take k) (fun x hx => h x (List.mem_of_mem_take hx))
  have h2 := sizes_append (l.take k) (l.drop k)
  rw [List.take_append_drop] at h2
  unfold sumTo; omega
theorem fsizes_sum : ∀ (i : Nat) (l : List D), fsizes i l = ((l.drop i).map fsize).sum
  | 0, [] => rfl
  | i + 1, [] => rfl
  | 0, x :: l => by rw [fsizes, fsizes_sum 0 l]; simp
  | i + 1, x :: l => by rw [fsizes, fsizes_sum i l]; rfl
theorem fsize_eq (d : D) : fsize d = 1 + ((parts d).map fsize).sum := by
  rw [parts_drop]
  cases d
  rw [fsize, fsizes_sum]
  rfl
mutual
theorem fsize_le : ∀ d : D, fsize d ≤ d.size
  | .mk k n t l => by
    have := fsizes_le (pdrop (.mk k n t l)) l
    simp only [fsize, D.size]; omega
theorem fsizes_le : ∀ (i : Nat) (l : List D), fsizes i l ≤ D.sizes l
  | _, [] => by simp [fsizes]
  | 0, x :: l => by
    have h1 := fsize_le x
    have h2 := fsizes_le 0 l
    simp only [fsizes, D.sizes]; omega
  | i + 1, x :: l => by
    have h2 := fsizes_le i l
    simp only [fsizes, D.sizes]; omega
end
theorem sizes_parts (d : D) : D.sizes (parts d) < d.size := by
  have h := sizes_drop_le d.kids (pdrop d)
  rw [← parts_drop] at h
  have := D.size_kids d; omega
/-- The number of expressions of a definition. -/
def bsize (d : D) : Nat := fsize (d2 d.kids)
def fSize (p : D) : Int × Int := if (fcheck p != 0) = true then (0, fcheck p) else (((p.kids.map bsize).sum : Nat), 0)
def fReach (p : D) : List D × Int := if (fcheck p != 0) = true then ([], fcheck p) else ((reach p).map D.head, 0)
theorem Right.bsize_le {p d : D} (R : Right p) (hd : d ∈ p.kids) : bsize d ≤ d.size := by
  obtain ⟨x0, x1, x2, ns, hk, _⟩ := R.def hd
  have h1 := D.size_kid_lt (d := d) (k := x2) (by rw [hk]; simp)
  have h2 := fsize_le x2
  unfold bsize
  rw [show d2 d.kids = x2 by rw [hk]; rfl]; omega
theorem sizes_kids (p : D) : D.sizes p.kids < p.size := by have := D.size_kids p; omega
theorem wrap_add {a b : Nat} (h : a + b ≤ 9223372036854775806) : IntKind.i64.wrap ((a : Int) + (b : Int)) = ((a + b : Nat) : Int) := by
  rw [wrap_id (by omega) (by omega)]; omega
end Go.Aw

/- Programs of the package flat, eight: two programs as one. No program is named. -/
namespace Go.Aw
open Go
def joinK (p : D) (l : List D) (k : Nat) : List D × Bool := (l.take k).foldl (joinStep p) (p.kids, false)
theorem joinK_zero {p : D} {l : List D} : joinK p l 0 = (p.kids, false) := by simp [joinK]
theorem joinK_next {p : D} {l : List D} {k : Nat} {x : D} (h : l[k]? = some x) : joinK p l (k + 1) = joinStep p (joinK p l k) x := by unfold joinK; rw [take_next h, List.foldl_append]; rfl
theorem joinK_all {p q : D} : joinK p q.kids q.kids.length = joinL p q := by unfold joinK joinL; rw [List.take_length]
theorem joinStep_new {p x : D} {st : List D × Bool} (h : (findD p.kids x.head).2 = false) : joinStep p st x = (st.1 ++ [x], st.2) := by unfold joinStep; rw [h]; rfl
theorem joinStep_apart {p x : D} {st : List D × Bool} (h : (findD p.kids x.head).2 = true) (h2 : (((d1 (findD p.kids x.head).1.kids).kids.length : Int) != (d1 x.kids).kids.length) = true) : joinStep p st x = (st.1, true) := by
  unfold joinStep; rw [h, if_neg (by decide), if_pos h2]
theorem joinStep_same {p x : D} {st : List D × Bool} (h : (findD p.kids x.head).2 = true) (h2 : (((d1 (findD p.kids x.head).1.kids).kids.length : Int) != (d1 x.kids).kids.length) = false) : joinStep p st x = st := by
  unfold joinStep; rw [h, if_neg (by decide), if_neg (by rw [h2]; decide)]
theorem findD_mem {l : List D} {f : D} (h : (findD l f).2 = true) : (findD l f).1 ∈ l := by
  unfold findD at h ⊢
  split
  · rename_i d hd; exact List.mem_of_find?_eq_some hd
  · rename_i hd; rw [hd] at h; cases h
theorem joinStep_len {p x : D} {st : List D × Bool} : (joinStep p st x).1.length ≤ st.1.length + 1 := by
  unfold joinStep; split
  · simp
  · split <;> simp
theorem joinK_len {p : D} {l : List D} : ∀ {k : Nat}, k ≤ l.length → (joinK p l k).1.length ≤ p.kids.length + k
  | 0, _ => by rw [joinK_zero]; simp
  | k + 1, h => by
    have ih := joinK_len (p := p) (l := l) (k := k) (by omega)
    obtain ⟨x, hx, _⟩ := get_lt (l := l) (k := k) (by omega)
    rw [joinK_next hx]
    have := joinStep_len (p := p) (x := x) (st := joinK p l k)
    omega
theorem joinStep_sizes {p x : D} {st : List D × Bool} : D.sizes (joinStep p st x).1 ≤ D.sizes st.1 + x.size := by
  unfold joinStep; split
  · simp [sizes_append, D.sizes]
  · split <;> simp
theorem join_sizes (p : D) : ∀ (l : List D) (st : List D × Bool), D.sizes (l.foldl (joinStep p) st).1 ≤ D.sizes st.1 + D.sizes l
  | [], st => by simp [D.sizes]
  | x :: l, st => by
    have h1 := join_sizes p l (joinStep p st x)
    have h2 := joinStep_sizes (p := p) (x := x) (st := st)
    simp only [List.foldl_cons, D.sizes]; omega
theorem joinD_size (p q : D) : (joinD p q).size ≤ p.size + q.size := by
  have h1 := join_sizes p q.kids (p.kids, false)
  have h2 := D.size_kids p
  have h3 := D.size_kids q
  have h4 := D.size_kids (joinD p q)
  have h5 : (joinD p q).kids = (joinL p q).1 := rfl
  rw [h5] at h4
  unfold joinL at h4
  simp only at h1
  omega
theorem joinD_enc (p q : D) : enc (joinD p q) = .agg [.int .i64 p.kind, .int .i64 p.num, .str p.text, .slice ((joinL p q).1.map enc)] := by rw [enc_eq]; rfl
/-- One of two. -/
def pq (p q : D) (k : Nat) : D := if k = 0 then p else q
theorem pq_take {p q : D} {k : Nat} (h : k < 2) : List.take 4 (List.drop (k * 4) [AV.pv (.int .i64 p.kind), AV.pv (.int .i64 p.num), AV.pv (.str p.text), AV.pv (.slice (p.kids.map enc)), AV.pv (.int .i64 q.kind), AV.pv (.int .i64 q.num), AV.pv (.str q.text), AV.pv (.slice (q.kids.map enc))]) =
    [AV.pv (.int .i64 (pq p q k).kind), AV.pv (.int .i64 (pq p q k).num), AV.pv (.str (pq p q k).text), AV.pv (.slice ((pq p q k).kids.map enc))] := by
  match k, h with
  | 0, _ => rfl
  | 1, _ => rfl
theorem fjoin_err {p q : D} {k : Nat} (hk : k < 2) (h0 : 0 < k → fcheck p = 0) (h : (fcheck (pq p q k) != 0) = true) : fjoin p q = (dnone, fcheck (pq p q k)) := by
  match k, hk with
  | 0, _ =>
    have h' : (fcheck p != 0) = true := h
    unfold fjoin; rw [if_pos h']; rfl
  | 1, _ =>
    have hp := h0 (by omega)
    have h' : (fcheck q != 0) = true := h
    unfold fjoin; rw [if_neg (by simp [hp]), if_pos h']; rfl
theorem join_inv {p q : D} {k : Nat} (hk : k < 2) (h0 : 0 < k → fcheck p = 0) (h : (fcheck (pq p q k) != 0) = false) : k + 1 ≤ 2 ∧ (0 < k + 1 → fcheck p = 0) ∧ (1 < k + 1 → fcheck q = 0) := by
  match k, hk with
  | 0, _ => exact ⟨by omega, fun _ => by simpa [pq] using h, fun h => by omega⟩
  | 1, _ => exact ⟨by omega, fun _ => h0 (by omega), fun _ => by simpa [pq] using h⟩
theorem fjoin_ok {p q : D} (hp : fcheck p = 0) (hq : fcheck q = 0) : fjoin p q = if decide ((4000 : Int) < (joinL p q).1.length) = true then (dnone, 3) else if (dcheck (joinD p q) != 0) = true then (dnone, 3) else if (joinL p q).2 = true then (dnone, 11) else (joinD p q, 0) := by
  unfold fjoin; rw [if_neg (by simp [hp]), if_neg (by simp [hq])]
/-- The store while the list of definitions grows. -/
def withJ (σ : Store) (e : TypeId) (p : D) (l : List D) : Store := { σ with objs := σ.objs ++ [.box [.pv (.int .i64 p.kind), .pv (.int .i64 p.num), .pv (.str p.text), .acc (l.map enc) σ.toks.length]], toks := σ.toks ++ [⟨l.length, e, 4⟩] }
section
variable {σ : Store} {e : TypeId} {p : D} {l : List D}
theorem withJ_get : (withJ σ e p l).objs[σ.objs.length]? = some (.box [.pv (.int .i64 p.kind), .pv (.int .i64 p.num), .pv (.str p.text), .acc (l.map enc) σ.toks.length]) := by simp [withJ]
theorem withJ_tok : (withJ σ e p l).toks[σ.toks.length]? = some ⟨l.length, e, 4⟩ := by simp [withJ]
theorem withJ_cut0 : (withJ σ e p l).cut σ.objs.length σ.toks.length = σ := by simp [withJ, Store.cut]
theorem withJ_mem {ob : AObj} {nl : Nat} (h : ob ∈ (withJ σ e p l).objs) : ob ∈ σ.objs ∨ ob.clo (σ.objs.length + 1) (σ.toks.length + 1) nl = true := by
  simp only [withJ, List.mem_append, List.mem_cons, List.not_mem_nil, or_false] at h
  rcases h with h | rfl
  · exact .inl h
  · right; simp [AObj.clo, AV.clos, AV.clo]
end
end Go.Aw

/- Loops whose private boxes change; what stands in a box may be appended to; data that are cut. No program is named. -/
namespace Go.Aw
open Go
section
variable {P : Program} {ty : TyT} {σ0 : Store} {N : Nat} {s s' : St} {Q : Exit → St → Prop}
theorem awp_loop_headKL {c : Code} {ι : Type} (no nt nl : Nat) (keep : List Nat) (m : ι → List (Nat × AV)) (L : ι → List (List AV)) (σf : ι → Store) (I : ι → Prop) (μ : ι → Nat) (i0 : ι) (hi0 : I i0) (h0 : Weak σ0 no nt nl s (headK s keep (m i0) (L i0) (σf i0)))
    (round : ∀ i, I i → AWp P σ0 N c (Then (Next σ0 (fun i => headK s keep (m i) (L i) (σf i)) I μ i) Q) (headK s keep (m i) (L i) (σf i))) : AWp P σ0 N (.loop c) Q s :=
  awp_loop_fam (fun i => headK s keep (m i) (L i) (σf i)) I μ i0 hi0 h0 round

/-- A slice without room that stands in a private box may be appended to from now on. -/
theorem awp_adoptL {c : Code} (i j : Nat) {cs : List AV} {x : AV} {xs : List PV} (e : TypeId) (sz : Nat) (hL : s.L[i]? = some cs) (hx : cs[j]? = some x) (hf : x.fullElems = some xs) (hs : allSz sz xs = true)
    (k : AWp P σ0 N c Q ⟨s.T, s.L.set i (cs.set j (.acc xs s.σ.toks.length)), { s.σ with toks := s.σ.toks ++ [⟨xs.length, e, sz⟩] }⟩) : AWp P σ0 N c Q s := by
  rintro g0 w0 a w ⟨g, r⟩
  obtain ⟨i1, le1⟩ := r.2.1.adopt ⟨xs.length, e, sz⟩
  have i2 : Inv { g with tb := g.tb ++ [none] } { s.σ with toks := s.σ.toks ++ [⟨xs.length, e, sz⟩] } (s.L.set i (cs.set j (.acc xs s.σ.toks.length))) w := by
    refine ⟨i1.lio, by simp only [List.length_set]; exact i1.llam, i1.ltb, i1.glob, i1.nodup, i1.low, i1.kept, i1.base, i1.cells, i1.objs, fun o ds b hds hb => ?_, i1.toks⟩
    rw [List.getElem?_set] at hds
    split at hds
    · subst_vars
      rw [if_pos (List.getElem?_eq_some_iff.1 hL).1] at hds
      cases hds
      obtain ⟨vs, e', h1, h2, h3, h4⟩ := r.2.1.priv _ cs b hL hb
      refine ⟨vs, e', h1, by rw [List.length_set]; exact h2, h3, fun n y v hy hv => ?_⟩
      rw [List.getElem?_set] at hy
      split at hy
      · subst_vars
        split at hy
        · cases hy
          exact (h4 _ x v hx hv).adopt hf r.2.1 ⟨xs.length, e, sz⟩ rfl (by simpa [allSz] using hs)
        · cases hy
      · exact (h4 n y v hy hv).mono le1 (fun _ _ h => h)
    · exact i1.priv o ds b hds hb
  exact k g0 w0 a w ⟨_, r.later (σ' := { s.σ with toks := s.σ.toks ++ [⟨xs.length, e, sz⟩] }) (L' := s.L.set i (cs.set j (.acc xs s.σ.toks.length))) le1 (fun _ _ h => h) i2 rfl rfl (fun _ _ => rfl) (Nat.le_refl _) rfl rfl rfl⟩

def adoptL (s : St) (i j : Nat) (e : TypeId) (sz : Nat) : Option St :=
  match s.L[i]? with
  | some cs => match cs[j]? with
    | some x => match x.fullElems with
      | some xs => if allSz sz xs = true then some ⟨s.T, s.L.set i (cs.set j (.acc xs s.σ.toks.length)), { s.σ with toks := s.σ.toks ++ [⟨xs.length, e, sz⟩] }⟩ else none
      | none => none
    | none => none
  | none => none

theorem awp_adoptL' {c : Code} (i j : Nat) (e : TypeId) (sz : Nat) (h : adoptL s i j e sz = some s') (k : AWp P σ0 N c Q s') : AWp P σ0 N c Q s := by
  unfold adoptL at h
  split at h
  · split at h
    · split at h
      · split at h
        · cases h; exact awp_adoptL i j e sz ‹_› ‹_› ‹_› ‹_› k
        · cases h
      · cases h
    · cases h
  · cases h
end
attribute [go_sem] adoptL
/-- A copy, as far as there is room. -/
def CutR (oc lf : Nat) (σ : Store) (r : AV) (σ' : Store) : Prop := ∃ (d' : D) (lf' : Nat), r = .pv (enc d') ∧ σ' = setC σ oc lf' ∧ d'.size + lf' ≤ lf
theorem setC_with {σ : Store} {o : Nat} {v v' : Int} {T : List Tok} : setC { setC σ o v with toks := T } o v' = { setC σ o v' with toks := T } := by simp [setC]
theorem enc_mk (k n : Int) (t : ByteArray) (l : List D) : enc (.mk k n t l) = .agg [.int .i64 k, .int .i64 n, .str t, .slice (l.map enc)] := by rw [enc_eq]; rfl
theorem cut_less {P : Program} {f : FuncId} {args : List AV} {σ : Store} {oc lf : Nat} {k n : Int} {tx : ByteArray}
    (h : ACalls P f args σ fun r σ' => ∃ (out : List D) (lv : Nat), WVt σ.objs.length σ.toks.length 0 r (.pv (enc (.mk k n tx out))) ∧ σ'.cut σ.objs.length σ.toks.length = setC σ oc lv ∧ D.sizes out + lv + 1 ≤ lf) : ACalls P f args σ (CutR oc lf σ) := by
  refine h.less ?_
  rintro r σ' ⟨out, lv, h1, h2, h3⟩
  refine ⟨_, _, _, h1, Nat.le_refl _, Nat.le_refl _, fun ob hob => ?_, ⟨_, lv, rfl, h2, by simp only [D.size]; omega⟩⟩
  have h4 : σ'.objs.take σ.objs.length = (setC σ oc lv).objs := congrArg Store.objs h2
  rw [h4] at hob
  exact setC_mem hob _ _ _
theorem cutR_some {oc lf : Nat} {σ : Store} (h : 0 < lf) : ∃ r σ', CutR oc lf σ r σ' := ⟨_, _, dnone, 0, rfl, rfl, by simp [dnone, D.size, D.sizes]; omega⟩
end Go.Aw

/- Programs of the package flat, ten: two right programs joined are one that is right, and its canonical form is that of the first. No program is named. -/
namespace Go.Aw
open Go
/-! ### a program and itself -/
theorem find_self {l : List D} {x : D} (h : Apart l) (hx : x ∈ l) : l.find? (fun d => deq d.head x.head) = some x := by
  induction l with
  | nil => simp at hx
  | cons y r ih =>
    have h := List.pairwise_cons.1 h
    rw [List.find?_cons]
    cases hd : deq y.head x.head with
    | true =>
      rcases List.mem_cons.1 hx with rfl | hx
      · rfl
      · have := h.1 x hx
        rw [deq_of hd, kq_refl] at this; cases this
    | false =>
      rcases List.mem_cons.1 hx with rfl | hx
      · rw [deq_refl] at hd; cases hd
      · exact ih h.2 hx
def foundB (p d : D) : Bool := (findD p.kids d.head).2
def apartB (p d : D) : Bool := foundB p d && (((d1 (findD p.kids d.head).1.kids).kids.length : Int) != (d1 d.kids).kids.length)
theorem joinL_eq (p q : D) : joinL p q = (p.kids ++ q.kids.filter (fun d => !foundB p d), q.kids.any (apartB p)) := by
  have key : ∀ (l : List D) (st : List D × Bool), l.foldl (joinStep p) st = (st.1 ++ l.filter (fun d => !foundB p d), st.2 || l.any (apartB p)) := by
    intro l
    induction l with
    | nil => intro st; simp
    | cons x l ih =>
      intro st
      rw [List.foldl_cons, ih]
      cases hf : (findD p.kids x.head).2 with
      | false =>
        have hb : foundB p x = false := hf
        have ha : apartB p x = false := by unfold apartB; rw [hb]; rfl
        rw [joinStep_new hf]
        simp [hb, ha]
      | true =>
        have hb : foundB p x = true := hf
        cases h2 : (((d1 (findD p.kids x.head).1.kids).kids.length : Int) != (d1 x.kids).kids.length) with
        | true =>
          have ha : apartB p x = true := by unfold apartB; rw [hb, h2]; rfl
          rw [joinStep_apart hf h2]
          simp [hb, ha]
        | false =>
          have ha : apartB p x = false := by unfold apartB; rw [hb, h2]; rfl
          rw [joinStep_same hf h2]
          simp [hb, ha]
  unfold joinL
  rw [key]; simp

theorem isSym_es (lt : Int → Bool) : isSym lt es = false := rfl
theorem formed_num {d : D} (h : formed d = true) (hk : d.kind = 1) : d.text = es ∧ d.kids = [] := by
  rw [formed_eq, if_pos (by rw [hk]; rfl)] at h
  simp only [Bool.and_eq_true, beq_iff_eq, decide_eq_true_eq] at h
  exact ⟨h.1, List.eq_nil_of_length_eq_zero (by omega)⟩
theorem formed_sym {d : D} (h : formed d = true) (hk : d.kind = 2) : d.num = 0 ∧ d.kids = [] ∧ isSym isAtom d.text = true := by
  rw [formed_eq, if_neg (by rw [hk]; decide), if_pos (by rw [hk]; rfl)] at h
  simp only [Bool.and_eq_true, beq_iff_eq] at h
  exact ⟨h.1.1, List.eq_nil_of_length_eq_zero (by omega), h.2⟩
theorem isLabel_kind {d : D} (h : isLabel d = true) : d.kind = 1 ∨ d.kind = 2 := by
  unfold isLabel isName at h
  split at h
  · rename_i h1; exact .inl (by simpa using h1)
  · simp only [Bool.and_eq_true, beq_iff_eq] at h; exact .inr h.1
theorem D.ext' {a b : D} (h1 : a.kind = b.kind) (h2 : a.num = b.num) (h3 : a.text = b.text) (h4 : a.kids = b.kids) : a = b := by
  cases a; cases b; simp only [D.kind, D.num, D.text, D.kids] at *; subst h1 h2 h3 h4; rfl
/-- Labels with one key are one label. -/
theorem label_eq {a b : D} (ha : isLabel a = true) (hb : isLabel b = true) (fa : formed a = true) (fb : formed b = true) (h : kq a b = true) : a = b := by
  obtain ⟨hn, ht⟩ := kq_iff.1 h
  rcases isLabel_kind ha with ka | ka <;> rcases isLabel_kind hb with kb | kb
  · exact D.ext' (ka.trans kb.symm) hn ht ((formed_num fa ka).2.trans (formed_num fb kb).2.symm)
  · have h1 := (formed_num fa ka).1
    have h2 := (formed_sym fb kb).2.2
    rw [← ht, h1, isSym_es] at h2; cases h2
  · have h1 := (formed_num fb kb).1
    have h2 := (formed_sym fa ka).2.2
    rw [ht, h1, isSym_es] at h2; cases h2
  · exact D.ext' (ka.trans kb.symm) hn ht ((formed_sym fa ka).2.1.trans (formed_sym fb kb).2.1.symm)

section
variable {p d : D} (R : Right p)
include R
theorem Right.label (hd : d ∈ p.kids) : isLabel d.head = true ∧ Aw.formed d.head = true := by
  obtain ⟨x0, x1, x2, ns, hk, _, hl, _⟩ := R.def hd
  rw [head_cons hk]
  exact ⟨hl, formed_kids (formed_kids R.formed hd) (by rw [hk]; simp)⟩
end
/-! ### heads of a list that is right -/
theorem names_len {d : D} {ns : List ByteArray} (h : names d = some ns) : ns.length = d.kids.length := by
  have key : ∀ (l : List D) (acc r : List ByteArray), namesGo acc l = some r → r.length = acc.length + l.length := by
    intro l
    induction l with
    | nil => intro acc r h; simp only [namesGo, Option.some.injEq] at h; subst h; simp
    | cons x l ih =>
      intro acc r h
      rw [namesGo] at h
      split at h
      · cases h
      · split at h
        · cases h
        · have := ih _ _ h; simp at this ⊢; omega
  unfold names at h
  split at h
  · cases h
  · have := key _ _ _ h; simpa using this

/-! ### the joined program is right -/
section
variable {p q : D} (R : Right p) (S : Right q) (hlen : (joinL p q).1.length ≤ 4000) (hchk : dcheck (joinD p q) = 0) (hap : (joinL p q).2 = false)
include R S
include hlen hchk
include hap
end
theorem fjoin_size (p q : D) : (fjoin p q).1.size ≤ p.size + q.size := by
  have h := joinD_size p q
  have h1 := p.size_pos
  have h2 : dnone.size = 1 := rfl
  unfold fjoin
  split
  · simp only; omega
  · split
    · simp only; omega
    · split
      · simp only; omega
      · split
        · simp only; omega
        · split
          · simp only; omega
          · simp only; omega
end Go.Aw

/- Programs of the package flat, eleven: a canonical form is not greater than the program. No program is named. -/
namespace Go.Aw
open Go
end Go.Aw

/- Layer 17's specification (one): names, labels, forms, and what is wrong with a body, told of data as trees; the same as the program's own checker's. No program is named. -/
namespace Go.Aw
open Go
/-! ### the words, written out (no rewriting by unfolding: the decisions' instances follow) -/
theorem eQuote : sQuote = ⟨#[113, 117, 111, 116, 101]⟩ := Eq.trans rfl rfl
theorem eIf : sIf = ⟨#[105, 102]⟩ := Eq.trans rfl rfl
theorem eLet : sLet = ⟨#[108, 101, 116]⟩ := Eq.trans rfl rfl
theorem eCall : sCall = ⟨#[99, 97, 108, 108]⟩ := Eq.trans rfl rfl

/-! ### bytes, symbols -/
theorem letter_tab : (List.range 256).all (fun c => letter (c : Int) == isAtom (c : Int)) = true := by kernel_rfl
theorem letter_atom {c : Nat} (h : c < 256) : letter (c : Int) = isAtom (c : Int) := by
  have := List.all_eq_true.1 letter_tab c (List.mem_range.2 h)
  simpa using this
theorem bt_nat (s : ByteArray) (i : Nat) : ∃ c : Nat, c < 256 ∧ bt s i = (c : Int) := by
  refine ⟨((s.data[((i : Int)).toNat]?).getD 0).toNat, UInt8.toNat_lt _, rfl⟩
theorem isSym_letter (s : ByteArray) : isSym letter s = isSym isAtom s := by
  have h : (fun i => letter (bt s i)) = fun i => isAtom (bt s i) := by
    funext i
    obtain ⟨c, hc, e⟩ := bt_nat s i
    rw [e, letter_atom hc]
  unfold isSym
  rw [h]

/-! ### names -/
def words7 : List ByteArray := [⟨#[113, 117, 111, 116, 101]⟩, ⟨#[105, 102]⟩, ⟨#[102, 110]⟩, ⟨#[108, 101, 116]⟩, ⟨#[114, 101, 99]⟩, ⟨#[115, 101, 113]⟩, ⟨#[117, 112]⟩]
def resI (s : ByteArray) : Int := idxOf (fun w => decide (w = s)) words7
def reserved (s : ByteArray) : Int := if resI s < 0 then 0 else 3 + resI s
def name04 (s : ByteArray) : Bool := isSym letter s && reserved s == 0
def rname (s : ByteArray) : Bool := name04 s && !(decide (s = sCall))
theorem idxOf_nonneg {α : Type} {p : α → Bool} {l : List α} : (0 ≤ idxOf p l) ↔ l.any p = true := by
  rw [← idxOf_any]; simp
theorem reserved_zero (s : ByteArray) : (reserved s == 0) = !(words7.any fun w => decide (w = s)) := by
  unfold reserved resI
  have h := idxOf_nonneg (p := fun w => decide (w = s)) (l := words7)
  cases hb : words7.any fun w => decide (w = s) with
  | true =>
    have h0 := h.2 hb
    rw [if_neg (by omega)]
    simp; omega
  | false =>
    have h0 : ¬ 0 ≤ idxOf (fun w => decide (w = s)) words7 := fun h0 => by rw [h.1 h0] at hb; cases hb
    rw [if_pos (by omega)]; rfl
theorem isRes_eq (s : ByteArray) : isRes s = (words7.any (fun w => decide (w = s)) || decide (s = sCall)) := by
  have e : ∀ l : List ByteArray, (kfind (.str s) (l.map .str)).isSome = l.any fun w => decide (s = w) := by
    intro l
    induction l with
    | nil => rfl
    | cons x l ih =>
      simp only [List.map_cons, kfind, List.any_cons]
      have hk : (PV.str s).keq (.str x) = decide (s = x) := by simp [PV.keq, pvAtomEq]
      rw [hk]
      cases hx : decide (s = x) with
      | true => simp
      | false => simp [← ih]
  have h8 : resK = (words7 ++ [sCall]).map .str := rfl
  unfold isRes
  rw [h8, e, List.any_append]
  have hc : (fun w => decide (s = w)) = fun w : ByteArray => decide (w = s) := by funext w; simp [eq_comm]
  have hs : (List.any [sCall] fun w => decide (s = w)) = decide (s = sCall) := by simp
  rw [hs, hc]
theorem rname_eq {d : D} (hf : formed d = true) (hk : d.kind = 2) : rname d.text = isName d := by
  have h := (formed_sym hf hk).2.2
  unfold rname name04 isName
  rw [isSym_letter, h, reserved_zero, isRes_eq, hk]
  simp [Bool.not_or]
def rlabel (d : D) : Bool := if (d.kind == 2) = true then rname d.text else if (d.kind == 1) = true then decide (0 ≤ d.num) && decide (d.num < 2147483648) else false
theorem rlabel_eq {d : D} (hf : formed d = true) : rlabel d = isLabel d := by
  unfold rlabel isLabel
  rcases formed_kind hf with h | h | h
  · rw [if_neg (by rw [h]; decide), if_pos (by rw [h]; rfl), if_pos (by rw [h]; rfl)]
    congr 1
    by_cases h2 : d.num < 2147483648
    · rw [decide_eq_true h2, decide_eq_true (by omega)]
    · rw [decide_eq_false h2, decide_eq_false (by omega)]
  · rw [if_pos (by rw [h]; rfl), if_neg (by rw [h]; decide), rname_eq hf h]
  · rw [if_neg (by rw [h]; decide), if_neg (by rw [h]; decide), if_neg (by rw [h]; decide)]
    unfold isName; rw [h]; rfl

/-! ### primitives -/
def ar2 : List ByteArray := [⟨#[43]⟩, ⟨#[45]⟩, ⟨#[42]⟩, ⟨#[113, 117, 111, 116]⟩, ⟨#[114, 101, 109]⟩, ⟨#[60]⟩, ⟨#[61]⟩, ⟨#[99, 111, 110, 115]⟩, ⟨#[109, 97, 114, 107]⟩]
def ar1 : List ByteArray := [⟨#[102, 105, 114, 115, 116]⟩, ⟨#[114, 101, 115, 116]⟩, ⟨#[99, 111, 117, 110, 116]⟩, ⟨#[108, 105, 115, 116, 63]⟩, ⟨#[110, 117, 109, 63]⟩, ⟨#[115, 121, 109, 63]⟩, ⟨#[115, 116, 111, 112]⟩]
def arityR (s : ByteArray) : Int × Bool := if (ar2.any fun w => decide (s = w)) = true then (2, true) else if (ar1.any fun w => decide (s = w)) = true then (1, true) else (0, false)
theorem arityR_eq (s : ByteArray) : arityR s = arity s := by
  unfold arityR
  split
  · rename_i h
    obtain ⟨w, hw, he⟩ := List.any_eq_true.1 h
    obtain rfl := of_decide_eq_true he
    simp only [ar2, List.mem_cons, List.not_mem_nil, or_false] at hw
    rcases hw with rfl | rfl | rfl | rfl | rfl | rfl | rfl | rfl | rfl <;> rfl
  · split
    · rename_i h
      obtain ⟨w, hw, he⟩ := List.any_eq_true.1 h
      obtain rfl := of_decide_eq_true he
      simp only [ar1, List.mem_cons, List.not_mem_nil, or_false] at hw
      rcases hw with rfl | rfl | rfl | rfl | rfl | rfl | rfl <;> rfl
    · rename_i h2 h1
      unfold arity
      have : primL.find? (fun p => decide (p.1 = s)) = none := by
        rw [List.find?_eq_none]
        intro p hp hq
        have hq := of_decide_eq_true hq
        have hm : p.1 ∈ ar2 ∨ p.1 ∈ ar1 := by
          simp only [primL, List.mem_cons, List.not_mem_nil, or_false] at hp
          rcases hp with rfl | rfl | rfl | rfl | rfl | rfl | rfl | rfl | rfl | rfl | rfl | rfl | rfl | rfl | rfl | rfl <;> simp [ar1, ar2]
        rcases hm with hm | hm
        · exact h2 (List.any_eq_true.2 ⟨p.1, hm, by simp [hq]⟩)
        · exact h1 (List.any_eq_true.2 ⟨p.1, hm, by simp [hq]⟩)
      rw [this]

/-! ### words, forms -/
def word (d : D) : ByteArray := if (d.kind != 3 || (d.kids.length : Int) == 0 || d.head.kind != 2) = true then es else d.head.text
def kidsR (d : D) : List D := if decide (word d = es) = true then [] else if decide (word d = sQuote) = true then [] else if decide (word d = sLet) = true then d.kids.drop 2 else if decide (word d = sCall) = true then d.kids.drop 2 else d.kids.drop 1
def form (d : D) : Bool :=
  if (d.kind == 1) = true then true else if (d.kind == 2) = true then rname d.text else
  if decide (word d = es) = true then false else
  if decide (word d = sQuote) = true then (d.kids.length : Int) == 2 else
  if decide (word d = sIf) = true then (d.kids.length : Int) == 4 else
  if decide (word d = sLet) = true then ((d.kids.length : Int) == 4 && (d1 d.kids).kind == 2) && rname (d1 d.kids).text else
  if decide (word d = sCall) = true then decide ((1 : Int) < d.kids.length) && rlabel (d1 d.kids) else (arity (word d)).2
theorem word_list {d : D} (hk : d.kind = 3) (hn : d.kids ≠ []) (hh : d.head.kind = 2) : word d = d.head.text := by
  have : d.kids.length ≠ 0 := fun e => hn (List.eq_nil_of_length_eq_zero e)
  unfold word
  rw [if_neg]
  rw [hk, hh]
  simp; omega
theorem word_none {d : D} (h : d.kind ≠ 3 ∨ d.kids = [] ∨ d.head.kind ≠ 2) : word d = es := by
  unfold word
  rw [if_pos]
  rcases h with h | h | h
  · simp [h]
  · simp [h]
  · simp [h]

theorem word_ne {d : D} (h : decide (word d = es) = false) : d.kind = 3 ∧ d.kids ≠ [] ∧ d.head.kind = 2 ∧ word d = d.head.text ∧ (1 : Int) ≤ d.kids.length := by
  have hc : ¬ (d.kind ≠ 3 ∨ d.kids = [] ∨ d.head.kind ≠ 2) := fun hc => by rw [word_none hc] at h; exact absurd h (by decide)
  have h1 : d.kind = 3 := Decidable.byContradiction fun e => hc (.inl e)
  have h2 : d.kids ≠ [] := fun e => hc (.inr (.inl e))
  have h3 : d.head.kind = 2 := Decidable.byContradiction fun e => hc (.inr (.inr e))
  have : d.kids.length ≠ 0 := fun e => h2 (List.eq_nil_of_length_eq_zero e)
  exact ⟨h1, h2, h3, word_list h1 h2 h3, by omega⟩
/-- The names bound in one of the expressions that stand in one. -/
def inb (b : List ByteArray) (d : D) (i : Nat) : List ByteArray := if (decide (word d = sLet) && (i : Int) == 1) = true then b ++ [(d1 d.kids).text] else b
def goB (ps : List (D × Int)) (b : List ByteArray) (d : D) : Nat → List D → Int
  | _, [] => 0
  | i, x :: l => if (cexpr ps (inb b d i) x != 0) = true then cexpr ps (inb b d i) x else goB ps b d (i + 1) l
theorem goB_step {ps : List (D × Int)} {b : List ByteArray} {d x : D} {k : Nat} (h : (kidsR d)[k]? = some x) :
    goB ps b d k ((kidsR d).drop k) = if (cexpr ps (inb b d k) x != 0) = true then cexpr ps (inb b d k) x else goB ps b d (k + 1) ((kidsR d).drop (k + 1)) := by
  rw [drop_cons h, goB]
def body1 (ps : List (D × Int)) (b : List ByteArray) (d : D) : Int :=
  if (!form d) = true then 4 else
  if (d.kind == 2 && !(b.any fun y => decide (y = d.text))) = true then 12 else
  if (decide (word d = sCall) && !(kpar ps (d1 d.kids)).2) = true then 5 else
  if (decide (word d = sCall) && (kpar ps (d1 d.kids)).1 != (d.kids.length : Int) - 2) = true then 11 else
  if ((arity (word d)).2 && (arity (word d)).1 != (d.kids.length : Int) - 1) = true then 11 else goB ps b d 0 (kidsR d)
theorem goB_cll {ps : List (D × Int)} {b : List ByteArray} {d : D} (hw : decide (word d = sLet) = false) : ∀ (l : List D) (i : Nat), goB ps b d i l = cll ps b l
  | [], i => rfl
  | x :: l, i => by
    have hi : inb b d i = b := by unfold inb; rw [hw]; rfl
    rw [goB, cll_cons, hi, goB_cll hw l (i + 1)]
theorem any_comm (b : List ByteArray) (s : ByteArray) : (b.any fun y => decide (y = s)) = b.any fun y => decide (s = y) := by
  congr 1; funext y; simp [eq_comm]
theorem arity_es : arity es = (0, false) := rfl
theorem sEs_ne {s : ByteArray} (h : isSym isAtom s = true) : decide (s = es) = false := by
  rw [decide_eq_false_iff_not]
  rintro rfl
  rw [isSym_es] at h; cases h
theorem cexpr_body {ps : List (D × Int)} {b : List ByteArray} {d : D} (hf : formed d = true) : cexpr ps b d = body1 ps b d := by
  rw [cexpr_eq]
  unfold body1
  rcases formed_kind hf with hk | hk | hk
  · have hw : word d = es := word_none (.inl (by rw [hk]; decide))
    have hF : form d = true := by unfold form; rw [if_pos (by rw [hk]; rfl)]
    have hK : kidsR d = [] := by unfold kidsR; rw [if_pos (by rw [hw]; rfl)]
    have hC : decide (es = sCall) = false := by decide
    simp only [hk, hF, hw, hK, hC, arity_es]; rfl
  · have hw : word d = es := word_none (.inl (by rw [hk]; decide))
    have hF : form d = rname d.text := by unfold form; rw [if_neg (by rw [hk]; decide), if_pos (by rw [hk]; rfl)]
    have hK : kidsR d = [] := by unfold kidsR; rw [if_pos (by rw [hw]; rfl)]
    have hC : decide (es = sCall) = false := by decide
    rw [hF, rname_eq hf hk, any_comm]
    simp only [hk, hw, hK, hC, arity_es]
    cases isName d <;> cases (b.any fun y => decide (d.text = y)) <;> rfl
  · have hk1 : (d.kind == 1) = false := by rw [hk]; rfl
    have hk2 : (d.kind == 2) = false := by rw [hk]; rfl
    simp only [hk1, hk2, Bool.false_and, Bool.false_eq_true, if_false]
    by_cases hb : ((d.kids.length : Int) == 0 || d.head.kind != 2) = true
    · rw [if_pos hb]
      have hw : word d = es := by
        refine word_none ?_
        simp only [Bool.or_eq_true, beq_iff_eq, bne_iff_ne] at hb
        rcases hb with hb | hb
        · exact .inr (.inl (List.eq_nil_of_length_eq_zero (by omega)))
        · exact .inr (.inr hb)
      have hF : form d = false := by unfold form; rw [if_neg (by rw [hk1]; decide), if_neg (by rw [hk2]; decide), if_pos (by rw [hw]; rfl)]
      rw [hF]; rfl
    · rw [if_neg hb]
      simp only [Bool.or_eq_true, beq_iff_eq, bne_iff_ne, not_or, Decidable.not_not] at hb
      have hn : d.kids ≠ [] := fun e => hb.1 (by rw [e]; rfl)
      have hw : word d = d.head.text := word_list hk hn hb.2
      obtain ⟨x0, r, hx⟩ := kids_cons hn
      have hh : d.head = x0 := head_cons hx
      have hf0 : formed d.head = true := by rw [hh]; exact formed_kids hf (by rw [hx]; simp)
      have hE : decide (word d = es) = false := by rw [hw]; exact sEs_ne (formed_sym hf0 hb.2).2.2
      have hform : form d = (if decide (word d = sQuote) = true then (d.kids.length : Int) == 2 else
          if decide (word d = sIf) = true then (d.kids.length : Int) == 4 else
          if decide (word d = sLet) = true then ((d.kids.length : Int) == 4 && (d1 d.kids).kind == 2) && rname (d1 d.kids).text else
          if decide (word d = sCall) = true then decide ((1 : Int) < d.kids.length) && rlabel (d1 d.kids) else (arity (word d)).2) := by
        unfold form; simp only [hk1, hk2, hE, Bool.false_eq_true, if_false]
      have hkids : kidsR d = (if decide (word d = sQuote) = true then [] else if decide (word d = sLet) = true then d.kids.drop 2 else if decide (word d = sCall) = true then d.kids.drop 2 else d.kids.drop 1) := by
        unfold kidsR; simp only [hE, Bool.false_eq_true, if_false]
      rw [← hw]
      cases hq : decide (word d = sQuote) with
      | true =>
        have hwq := of_decide_eq_true hq
        have hC : decide (word d = sCall) = false := by rw [hwq]; decide
        have hA : arity (word d) = (0, false) := by rw [hwq]; rfl
        rw [hform, hkids, hC, hA]
        simp only [hq, if_true]
        by_cases h2 : d.kids.length = 2
        · simp [h2, goB]
        · have : ((d.kids.length : Int) == 2) = false := by rw [beq_eq_false_iff_ne]; omega
          have h3 : ((d.kids.length : Int) != 2) = true := by rw [bne_iff_ne]; omega
          simp [this, h3]
      | false =>
        cases hi : decide (word d = sIf) with
        | true =>
          have hwi := of_decide_eq_true hi
          have hC : decide (word d = sCall) = false := by rw [hwi]; decide
          have hL : decide (word d = sLet) = false := by rw [hwi]; decide
          have hA : arity (word d) = (0, false) := by rw [hwi]; rfl
          rw [hform, hkids, hC, hA, goB_cll hL]
          simp only [hq, hi, hL, hC, if_true, Bool.false_eq_true, if_false]
          by_cases h2 : d.kids.length = 4
          · simp [h2]
          · have : ((d.kids.length : Int) == 4) = false := by rw [beq_eq_false_iff_ne]; omega
            have h3 : ((d.kids.length : Int) != 4) = true := by rw [bne_iff_ne]; omega
            simp [this, h3]
        | false =>
          cases hl : decide (word d = sLet) with
          | true =>
            have hwl := of_decide_eq_true hl
            have hC : decide (word d = sCall) = false := by rw [hwl]; decide
            have hA : arity (word d) = (0, false) := by rw [hwl]; rfl
            rw [hform, hkids, hC, hA]
            simp only [hq, hi, hl, hC, if_true, Bool.false_eq_true, if_false]
            by_cases h4 : d.kids.length = 4
            · match hkk : d.kids, h4 with
              | [y0, y1, y2, y3], _ =>
                have hf1 : formed y1 = true := formed_kids hf (by rw [hkk]; simp)
                have hd1 : d1 [y0, y1, y2, y3] = y1 := rfl
                have hg1 : ([y0, y1, y2, y3] : List D).getD 1 dnone = y1 := rfl
                have hi0 : inb b d 0 = b := by unfold inb; simp
                have hi1 : inb b d 1 = b ++ [y1.text] := by unfold inb; rw [hl, hkk]; rfl
                have hc2 : ∀ b : List ByteArray, cnth ps b 2 [y0, y1, y2, y3] = cexpr ps b y2 := fun b => cnth_get ps b 2 _ y2 rfl
                have hc3 : ∀ b : List ByteArray, cnth ps b 3 [y0, y1, y2, y3] = cexpr ps b y3 := fun b => cnth_get ps b 3 _ y3 rfl
                have hgo : goB ps b d 0 (([y0, y1, y2, y3] : List D).drop 2) = if (cexpr ps b y2 != 0) = true then cexpr ps b y2 else if (cexpr ps (b ++ [y1.text]) y3 != 0) = true then cexpr ps (b ++ [y1.text]) y3 else 0 := by
                  simp only [List.drop_succ_cons, List.drop_zero, goB, hi0, hi1]
                have h44 : ((([y0, y1, y2, y3] : List D).length : Int) != 4) = false := rfl
                have h45 : ((([y0, y1, y2, y3] : List D).length : Int) == 4) = true := rfl
                rw [hgo, hc2, hc3]
                simp only [hd1, hg1, h44, h45, Bool.true_and, Bool.false_or]
                have hnm : (y1.kind == 2 && rname y1.text) = isName y1 := by
                  by_cases hy : y1.kind = 2
                  · rw [rname_eq hf1 hy, hy]; simp
                  · unfold isName
                    have : (y1.kind == 2) = false := by rw [beq_eq_false_iff_ne]; exact hy
                    rw [this]; rfl
                rw [hnm]
                cases isName y1 with
                | false => rfl
                | true =>
                  by_cases h2 : cexpr ps b y2 = 0
                  · by_cases h3 : cexpr ps (b ++ [y1.text]) y3 = 0
                    · simp [h2, h3]
                    · simp [h2, h3]
                  · simp [h2]
            · have : ((d.kids.length : Int) == 4) = false := by rw [beq_eq_false_iff_ne]; omega
              have h3 : ((d.kids.length : Int) != 4) = true := by rw [bne_iff_ne]; omega
              simp [this, h3]
          | false =>
            cases hc : decide (word d = sCall) with
            | true =>
              have hwc := of_decide_eq_true hc
              have hA : arity (word d) = (0, false) := by rw [hwc]; rfl
              rw [hform, hkids, hA, goB_cll hl]
              simp only [hq, hi, hl, hc, if_true, Bool.false_eq_true, if_false, Bool.true_and, Bool.false_and]
              unfold ccall
              by_cases h2 : d.kids.length < 2
              · have e1 : decide ((d.kids.length : Int) < 2) = true := decide_eq_true (by omega)
                have e2 : decide ((1 : Int) < d.kids.length) = false := decide_eq_false (by omega)
                simp [e1, e2]
              · have e1 : decide ((d.kids.length : Int) < 2) = false := decide_eq_false (by omega)
                have e2 : decide ((1 : Int) < d.kids.length) = true := decide_eq_true (by omega)
                obtain ⟨x1, hx1, hx1m⟩ := get_lt (l := d.kids) (k := 1) (by omega)
                have hg1 : d.kids.getD 1 dnone = x1 := getD_of hx1
                have hd1 : d1 d.kids = x1 := hg1
                rw [hd1, hg1, rlabel_eq (formed_kids hf hx1m), e1, e2]
                simp only [Bool.false_or, Bool.true_and]
            | false =>
              rw [hform, hkids, goB_cll hl]
              simp only [hq, hi, hl, hc, Bool.false_eq_true, if_false, Bool.false_and]
              cases h2 : (arity (word d)).2 with
              | false => rfl
              | true => simp

/-- A number's digits. -/
def itoaB (n : Int) : ByteArray := ⟨(Lib.itoa n).toArray⟩

/-! ### definitions as structs -/
structure Df where
  lab : D
  ps : List ByteArray
  bod : D
def encDf (d : Df) : PV := .agg [.int .i64 d.lab.kind, .int .i64 d.lab.num, .str d.lab.text, .slice (d.lab.kids.map enc), .slice (d.ps.map .str), .int .i64 d.bod.kind, .int .i64 d.bod.num, .str d.bod.text, .slice (d.bod.kids.map enc)]
@[go_sem] theorem encDf_cells (d : Df) : (encDf d).cells = [.int .i64 d.lab.kind, .int .i64 d.lab.num, .str d.lab.text, .slice (d.lab.kids.map enc), .slice (d.ps.map .str), .int .i64 d.bod.kind, .int .i64 d.bod.num, .str d.bod.text, .slice (d.bod.kids.map enc)] := rfl
@[go_sem] theorem allSz_df (l : List Df) : allSz 9 (l.map encDf) = true := by simp [allSz, encDf_cells]
@[go_sem] theorem nrm_df (d : Df) : (encDf d).nrm = encDf d := rfl
@[go_sem high] theorem seq_df (x : Df) : seqPV 9 0 [(0, AV.pv (encDf x))] = some [encDf x] := by simp [seqPV, toPV, atomToPV, nrm_df, encDf_cells]
theorem agg_df (a b : D) (p : List ByteArray) : PV.agg [.int .i64 a.kind, .int .i64 a.num, .str a.text, .slice (a.kids.map enc), .slice (p.map .str), .int .i64 b.kind, .int .i64 b.num, .str b.text, .slice (b.kids.map enc)] = encDf ⟨a, p, b⟩ := rfl
def toDf (d : D) : Df := ⟨d0 d.kids, nlist (names (d1 d.kids)), d2 d.kids⟩
def findI (l : List Df) (f : D) : Int := idxOf (fun d => deq d.lab f) l
/-- What is known of labels is what the definitions say. -/
def LP (l : List Df) (ps : List (D × Int)) : Prop := ∀ f, isLabel f = true → formed f = true → kpar ps f = (match l.find? fun d => deq d.lab f with | some d => ((d.ps.length : Int), true) | none => (0, false))
theorem LP.neg {l : List Df} {ps : List (D × Int)} (h : LP l ps) {f : D} (hf : isLabel f = true) (ff : formed f = true) (hn : findI l f < 0) : (kpar ps f).2 = false := by
  rw [h f hf ff, idxOf_neg hn]
theorem LP.pos {l : List Df} {ps : List (D × Int)} (h : LP l ps) {f : D} (hf : isLabel f = true) (ff : formed f = true) (hn : ¬ findI l f < 0) : 0 ≤ findI l f ∧ ∃ d, l[(findI l f).toNat]? = some d ∧ kpar ps f = ((d.ps.length : Int), true) := by
  obtain ⟨h0, d, h1, h2⟩ := idxOf_get hn
  refine ⟨h0, d, h1, ?_⟩
  rw [h f hf ff, h2]
end Go.Aw

/- Layer 17's specification (two): sizes, depths, expressions in order. No program is named. -/
namespace Go.Aw
open Go
theorem sizes_sum : ∀ l : List D, D.sizes l = (l.map D.size).sum
  | [] => rfl
  | d :: l => by simp [D.sizes, sizes_sum l]
theorem size_sum (d : D) : d.size = 1 + sumTo D.size d.kids d.kids.length := by rw [sumTo_all, D.size_kids, sizes_sum]
theorem deeps_snoc : ∀ (l : List D) (x : D), D.deeps (l ++ [x]) = max (D.deeps l) x.deep
  | [], x => by simp [D.deeps]
  | d :: l, x => by simp only [List.cons_append, D.deeps, deeps_snoc l x]; omega
theorem deep_kids (d : D) : d.deep = 1 + D.deeps d.kids := by cases d; rfl
theorem deeps_next {l : List D} {k : Nat} {x : D} (h : l[k]? = some x) : (if D.deeps (l.take k) < x.deep then ((x.deep : Nat) : Int) else ((D.deeps (l.take k) : Nat) : Int)) = ((D.deeps (l.take (k + 1)) : Nat) : Int) := by
  rw [take_next h, deeps_snoc]
  split <;> omega
/-- The first ones of a list, turned to data. -/
def outN {α : Type} (l : List α) (h : α → D) (k : Nat) : List D := (l.take k).map h
section
variable {α : Type} {l : List α} {h : α → D} {k : Nat} {x : α}
theorem outN_zero : outN l h 0 = [] := by simp [outN]
theorem outN_next (hx : l[k]? = some x) : outN l h (k + 1) = outN l h k ++ [h x] := by unfold outN; rw [take_next hx]; simp
theorem outN_all : outN l h l.length = l.map h := by unfold outN; rw [List.take_length]
theorem outN_len (hk : k ≤ l.length) : (outN l h k).length = k := by unfold outN; rw [List.length_map, List.length_take]; omega
end
def symsD (l : List ByteArray) : D := dlist (l.map dsym)

/-! ### expressions that have been checked -/
def GoodE (d : D) : Prop := formed d = true ∧ ∃ (ps : List (D × Int)) (b : List ByteArray), cexpr ps b d = 0
section
variable {d x : D} (h : GoodE d)
include h
theorem GoodE.ok : okE d = true := by obtain ⟨h1, ps, b, h2⟩ := h; exact okE_of d b h2 h1
theorem GoodE.part (hx : x ∈ parts d) : GoodE x := by
  obtain ⟨h1, ps, b, h2⟩ := h
  by_cases hk : d.kind = 3
  · obtain ⟨b', hb⟩ := cexpr_parts h2 hk x hx
    exact ⟨formed_kids h1 (parts_mem hx), ps, b', hb⟩
  · rw [parts_nil hk] at hx; simp at hx
theorem GoodE.head (hk : d.kind = 3) : d.head.kind = 2 ∧ d.kids ≠ [] := by
  obtain ⟨h1, ps, b, h2⟩ := h
  have := cexpr_list h2 hk
  exact ⟨this.2.1, this.1⟩
theorem GoodE.word (hk : d.kind = 3) : word d = d.head.text ∧ decide (Aw.word d = es) = false := by
  obtain ⟨hh, hn⟩ := h.head hk
  have hw := word_list hk hn hh
  refine ⟨hw, ?_⟩
  obtain ⟨x0, r, hx⟩ := kids_cons hn
  have hf0 : formed d.head = true := by rw [head_cons hx]; exact formed_kids h.1 (by rw [hx]; simp)
  rw [hw]; exact sEs_ne (formed_sym hf0 hh).2.2
theorem GoodE.kids : kidsR d = parts d := by
  by_cases hk : d.kind = 3
  · obtain ⟨hw, he⟩ := h.word hk
    unfold kidsR parts
    have e3 : (d.kind != 3) = false := by rw [hk]; rfl
    simp only [he, e3, Bool.false_eq_true, if_false]
    rw [hw]
  · rw [parts_nil hk]
    unfold kidsR
    rw [if_pos (by rw [word_none (.inl hk)]; rfl)]
theorem GoodE.two (hw : Aw.word d = sLet ∨ Aw.word d = sCall) : 2 ≤ d.kids.length := by
  have hk : d.kind = 3 := by
    refine Decidable.byContradiction fun e => ?_
    rw [word_none (.inl e)] at hw
    rcases hw with hw | hw <;> exact absurd hw (by decide)
  exact okE_two h.ok hk (by rw [← (h.word hk).1]; exact hw)
theorem GoodE.isCall : decide (Aw.word d = sCall) = Aw.isCall d := by
  unfold Aw.isCall
  by_cases hk : d.kind = 3
  · rw [(h.word hk).1, hk]; simp
  · rw [word_none (.inl hk)]
    have : (d.kind == 3) = false := by rw [beq_eq_false_iff_ne]; exact hk
    rw [this]; rfl
/-- What is called is a label. -/
theorem GoodE.label (hc : Aw.isCall d = true) : 2 ≤ d.kids.length ∧ isLabel (d1 d.kids) = true ∧ formed (d1 d.kids) = true := by
  obtain ⟨hk, ht⟩ := isCall_iff.1 hc
  obtain ⟨h1, ps, b, h2⟩ := h
  obtain ⟨_, _, hc⟩ := cexpr_list h2 hk
  rcases hc with ⟨e, _⟩ | ⟨e, _⟩ | ⟨e, _⟩ | ⟨_, hc⟩ | ⟨_, _, _, e, _⟩
  · rw [ht] at e; exact absurd e sC_ne_Q
  · rw [ht] at e; exact absurd e.symm sI_ne_C
  · rw [ht] at e; exact absurd e sC_ne_L
  · obtain ⟨h3, h4, _⟩ := ccall_zero hc
    refine ⟨h3, h4, formed_kids h1 ?_⟩
    obtain ⟨x1, hx1, hm⟩ := get_lt (l := d.kids) (k := 1) (by omega)
    rw [show d1 d.kids = x1 from getD_of hx1]; exact hm
  · exact absurd ht e
end
theorem Right.good {p d : D} (R : Right p) (hd : d ∈ p.kids) : GoodE (d2 d.kids) := ⟨R.bodyF hd, _, _, R.body hd⟩

/-! ### the expressions in one, in order -/
end Go.Aw
namespace Go.Aw
open Go
section
variable {σ : Store} {k n m : Nat} {e : TypeId} {sz : Nat}
end
end Go.Aw
namespace Go.Aw
open Go
end Go.Aw

/- Layer 17's specification (three): labels as strings, the definitions. No program is named. -/
namespace Go.Aw
open Go
/-! ### digits -/
def dval (l : List UInt8) : Nat := l.foldl (fun a c => a * 10 + (c.toNat - 48)) 0
theorem digit_nat {n : Nat} (h : n < 10) : (UInt8.ofNat (48 + n)).toNat = 48 + n := by
  rw [UInt8.toNat_ofNat']; omega
theorem dval_dec : ∀ u : Nat, dval (Lib.decDigits u) = u := by
  intro u
  induction u using Nat.strongRecOn with
  | _ u ih =>
    rw [Lib.decDigits]
    split
    · rename_i h
      simp only [dval, List.foldl_cons, List.foldl_nil, digit_nat h]; omega
    · rename_i h
      have := ih (u / 10) (by omega)
      simp only [dval] at this ⊢
      rw [List.foldl_append, this]
      simp only [List.foldl_cons, List.foldl_nil, digit_nat (Nat.mod_lt u (by omega : 10 > 0))]
      omega
theorem dec_head : ∀ u : Nat, ∃ (c : UInt8) (r : List UInt8), Lib.decDigits u = c :: r ∧ 48 ≤ c.toNat ∧ c.toNat ≤ 57 := by
  intro u
  induction u using Nat.strongRecOn with
  | _ u ih =>
    rw [Lib.decDigits]
    split
    · rename_i h
      exact ⟨_, [], rfl, by rw [digit_nat h]; omega, by rw [digit_nat h]; omega⟩
    · obtain ⟨c, r, h1, h2, h3⟩ := ih (u / 10) (by omega)
      exact ⟨c, r ++ _, by rw [h1]; rfl, h2, h3⟩
theorem itoa_nat {n : Int} (h : 0 ≤ n) : Lib.itoa n = Lib.decDigits n.toNat := by unfold Lib.itoa; rw [if_neg (by omega)]
theorem itoaB_inj {n m : Int} (hn : 0 ≤ n) (hm : 0 ≤ m) (h : itoaB n = itoaB m) : n = m := by
  unfold itoaB at h
  have h1 : Lib.itoa n = Lib.itoa m := by
    have := congrArg (fun b : ByteArray => b.data.toList) h
    simpa using this
  rw [itoa_nat hn, itoa_nat hm] at h1
  have h2 := congrArg dval h1
  rw [dval_dec, dval_dec] at h2
  omega
theorem itoaB_digit {n : Int} (hn : 0 ≤ n) : isDigit (bt (itoaB n) 0) = true := by
  obtain ⟨c, r, h1, h2, h3⟩ := dec_head n.toNat
  have : bt (itoaB n) 0 = (c.toNat : Int) := by
    unfold itoaB
    rw [itoa_nat hn, h1]
    rfl
  rw [this]
  unfold isDigit
  rw [decide_eq_true (by omega), decide_eq_true (by omega)]; rfl
theorem sym_digit {lt : Int → Bool} {s : ByteArray} (h : isSym lt s = true) : isDigit (bt s 0) = false := by
  unfold isSym at h
  simp only [Bool.and_eq_true, Bool.not_eq_true', Bool.or_eq_false_iff] at h
  exact h.1.1.2

/-! ### a label as a string -/
def keyS (d : D) : ByteArray := if (d.kind == 2) = true then d.text else itoaB d.num
theorem label_num {d : D} (h : isLabel d = true) (hk : d.kind = 1) : 0 ≤ d.num ∧ d.num ≤ 2147483647 := by
  unfold isLabel at h
  rw [if_pos (by rw [hk]; rfl)] at h
  simpa using h
theorem label_range {d : D} (h : isLabel d = true) (hf : formed d = true) : 0 ≤ d.num ∧ d.num ≤ 2147483647 := by
  rcases isLabel_kind h with hk | hk
  · exact label_num h hk
  · rw [(formed_sym hf hk).1]; omega
theorem keyS_kq {a b : D} (ha : isLabel a = true) (hb : isLabel b = true) (fa : formed a = true) (fb : formed b = true) : decide (keyS a = keyS b) = kq a b := by
  cases hq : kq a b with
  | true => rw [label_eq ha hb fa fb hq]; simp
  | false =>
    rw [decide_eq_false_iff_not]
    intro h
    have hne : ¬ a = b := fun e => by rw [e, kq_refl] at hq; cases hq
    unfold keyS at h
    rcases isLabel_kind ha with ka | ka <;> rcases isLabel_kind hb with kb | kb
    · rw [if_neg (by rw [ka]; decide), if_neg (by rw [kb]; decide)] at h
      have := itoaB_inj (label_num ha ka).1 (label_num hb kb).1 h
      exact hne (D.ext' (ka.trans kb.symm) this ((formed_num fa ka).1.trans (formed_num fb kb).1.symm) ((formed_num fa ka).2.trans (formed_num fb kb).2.symm))
    · rw [if_neg (by rw [ka]; decide), if_pos (by rw [kb]; rfl)] at h
      have h1 := sym_digit (formed_sym fb kb).2.2
      rw [← h, itoaB_digit (label_num ha ka).1] at h1; cases h1
    · rw [if_pos (by rw [ka]; rfl), if_neg (by rw [kb]; decide)] at h
      have h1 := sym_digit (formed_sym fa ka).2.2
      rw [h, itoaB_digit (label_num hb kb).1] at h1; cases h1
    · rw [if_pos (by rw [ka]; rfl), if_pos (by rw [kb]; rfl)] at h
      exact hne (D.ext' (ka.trans kb.symm) ((formed_sym fa ka).1.trans (formed_sym fb kb).1.symm) h ((formed_sym fa ka).2.1.trans (formed_sym fb kb).2.1.symm))

/-! ### a set of strings -/
def sK (ps : List (D × Int)) : List PV := ps.map fun p => .str (keyS p.1)
def sV (ps : List (D × Int)) : List PV := ps.map fun _ => .bool true
theorem kfind_sK (x : ByteArray) : ∀ ps : List (D × Int), kfind (.str x) (sK ps) = ps.findIdx? fun p => decide (x = keyS p.1)
  | [] => rfl
  | p :: r => by
    have hk : (PV.str x).keq (.str (keyS p.1)) = decide (x = keyS p.1) := by simp [PV.keq, pvAtomEq]
    have ih := kfind_sK x r
    simp only [sK] at ih
    simp only [sK, List.map_cons, kfind, List.findIdx?_cons, hk, ih]
theorem sK_fits (ps : List (D × Int)) : (sK ps).all (KS.fits (.one .str)) = true := by
  simp only [sK, List.all_map, List.all_eq_true]
  intro p _; rfl
section
variable {ty : TyT} {s : St} {t kt et : TypeId} {ti te tk : TyI} {o : Nat} {ps : List (D × Int)}
theorem look_str (h : ty t = some ti) (hk : ti.kind = .map kt et) (h1 : ty et = some te) (h2 : ty kt = some tk) (h3 : tk.ks = some (.one .str)) (h4 : te.kind = .bool) (h5 : te.zero = [.bool false]) (ho : s.σ.objs[o]? = some (.map (sK ps) (sV ps))) (x : ByteArray) :
    lookAV ty s t (.map o) (.pv (.str x)) false = some (.pv (.bool (ps.any fun p => decide (x = keyS p.1)))) := by
  have hko : keyOk ty kt (.str x) (sK ps) = true := by
    simp only [keyOk, h2, h3, sK_fits, Bool.and_true]; rfl
  simp only [lookAV, h, hk, h1, mapOf, ho, toPV, atomToPV, Option.map_some, PV.nrm, hko, kfind_sK]
  cases hj : ps.findIdx? fun p => decide (x = keyS p.1) with
  | none =>
    have : (ps.any fun p => decide (x = keyS p.1)) = false := by
      rw [List.findIdx?_eq_none_iff] at hj
      rw [List.any_eq_false]
      intro p hp; simp [hj p hp]
    simp [this, okAV, zeroAV, h4, h5, TyK.agg]
  | some j =>
    rw [List.findIdx?_eq_some_iff_getElem] at hj
    obtain ⟨h6, h7, _⟩ := hj
    have : (ps.any fun p => decide (x = keyS p.1)) = true := List.any_eq_true.2 ⟨_, List.getElem_mem h6, h7⟩
    simp [this, okAV, sV, h6]
theorem put_str (h : ty t = some ti) (hk : ti.kind = .map kt et) (h2 : ty kt = some tk) (h3 : tk.ks = some (.one .str)) (ho : s.σ.objs[o]? = some (.map (sK ps) (sV ps))) (x : ByteArray) (hn : (ps.any fun p => decide (x = keyS p.1)) = false) :
    putAV ty s t (.map o) (.pv (.str x)) (.pv (.bool true)) = some { s.σ with objs := s.σ.objs.set o (.map (sK ps ++ [.str x]) (sV ps ++ [.bool true])) } := by
  have hko : keyOk ty kt (.str x) (sK ps) = true := by
    simp only [keyOk, h2, h3, sK_fits, Bool.and_true]; rfl
  have hf : kfind (.str x) (sK ps) = none := by
    rw [kfind_sK, List.findIdx?_eq_none_iff]
    intro p hp
    have := List.any_eq_false.1 hn p hp
    simpa using this
  simp only [putAV, h, hk, ho, toPV, atomToPV, Option.map_some, PV.nrm, hko, kput, hf]
end
/-- Labels that are right. -/
def LabOk (ps : List (D × Int)) : Prop := ∀ q, q ∈ ps → isLabel q.1 = true ∧ formed q.1 = true
theorem kpar_any (ps : List (D × Int)) (d : D) : (kpar ps d).2 = ps.any fun q => kq d q.1 := by
  unfold kpar kget
  cases h : ps.find? fun q => kq d q.1 with
  | none =>
    rw [List.find?_eq_none] at h
    have : (ps.any fun q => kq d q.1) = false := by rw [List.any_eq_false]; exact h
    rw [this]; rfl
  | some q =>
    have h1 := List.find?_some h
    have : (ps.any fun q => kq d q.1) = true := List.any_eq_true.2 ⟨q, List.mem_of_find?_eq_some h, h1⟩
    rw [this]; rfl
theorem seen_kpar {ps : List (D × Int)} (h : LabOk ps) {d : D} (hl : isLabel d = true) (hf : formed d = true) : (ps.any fun q => decide (keyS d = keyS q.1)) = (kpar ps d).2 := by
  rw [kpar_any]
  induction ps with
  | nil => rfl
  | cons q r ih =>
    rw [List.any_cons, List.any_cons, ih (fun q hq => h q (by simp [hq])), keyS_kq hl (h q (by simp)).1 hf (h q (by simp)).2]
theorem kset_new {ps : List (D × Int)} {d : D} {v : Int} (h : (kpar ps d).2 = false) : kset ps d v = ps ++ [(d, v)] := by
  rw [kpar_any] at h
  induction ps with
  | nil => rfl
  | cons q r ih =>
    simp only [List.any_cons, Bool.or_eq_false_iff] at h
    rw [kset, if_neg (by rw [h.1]; decide), ih h.2]; rfl
theorem sK_snoc {ps : List (D × Int)} {d : D} {v : Int} : sK (ps ++ [(d, v)]) = sK ps ++ [.str (keyS d)] := by simp [sK]
theorem sV_snoc {ps : List (D × Int)} {d : D} {v : Int} : sV (ps ++ [(d, v)]) = sV ps ++ [.bool true] := by simp [sV]

/-! ### a store with the set and the list of definitions -/
def withS (σ : Store) (ps : List (D × Int)) (e : TypeId) (n : Nat) : Store := { σ with objs := σ.objs ++ [.map (sK ps) (sV ps)], toks := σ.toks ++ [⟨n, e, 9⟩] }
section
variable {σ : Store} {ps ps' : List (D × Int)} {e : TypeId} {n m : Nat}
theorem withS_get : (withS σ ps e n).objs[σ.objs.length]? = some (.map (sK ps) (sV ps)) := by simp [withS]
theorem withS_tok : (withS σ ps e n).toks[σ.toks.length]? = some ⟨n, e, 9⟩ := by simp [withS]
theorem withS_cut : (withS σ ps e n).cut (σ.objs.length + 1) (σ.toks.length + 1) = withS σ ps e n := by simp [withS, Store.cut, List.take_of_length_le]
theorem withS_mem {ob : AObj} {nt nl : Nat} (h : ob ∈ (withS σ ps e n).objs) : ob ∈ σ.objs ∨ ob.clo (σ.objs.length + 1) nt nl = true := by
  simp only [withS, List.mem_append, List.mem_cons, List.not_mem_nil, or_false] at h
  rcases h with h | rfl
  · exact .inl h
  · exact .inr rfl
end
/-! ### the definitions -/
def rdefs (p : D) : List Df := if (fcheck p != 0) = true then [] else p.kids.map toDf
def dfK (l : List D) (k : Nat) : List Df := (l.take k).map toDf
theorem dfK_zero {l : List D} : dfK l 0 = [] := by simp [dfK]
theorem dfK_next {l : List D} {k : Nat} {x : D} (h : l[k]? = some x) : dfK l (k + 1) = dfK l k ++ [toDf x] := by unfold dfK; rw [take_next h]; simp
theorem dfK_all {l : List D} : dfK l l.length = l.map toDf := by unfold dfK; rw [List.take_length]
theorem dfK_len {l : List D} {k : Nat} (h : k ≤ l.length) : (dfK l k).length = k := by unfold dfK; rw [List.length_map, List.length_take]; omega
theorem kidsOf_no1 {d : D} (h : (d.kind != 3) = true) : kidsOf d 3 false = none := by unfold kidsOf; rw [if_pos]; rw [h]; rfl
theorem kidsOf_no2 {d : D} (h : ((d.kids.length : Int) != 3) = true) : kidsOf d 3 false = none := by
  unfold kidsOf
  rw [if_pos]
  simp only [bne_iff_ne] at h
  by_cases h1 : (d.kids.length : Int) < 3
  · simp [h1]
  · have : (3 : Int) < d.kids.length := by omega
    simp [this]
theorem kidsOf_yes {d : D} (h1 : (d.kind != 3) = false) (h2 : ((d.kids.length : Int) != 3) = false) : ∃ x0 x1 x2, d.kids = [x0, x1, x2] ∧ kidsOf d 3 false = some [x0, x1, x2] := by
  simp only [bne_eq_false_iff_eq] at h2
  have hl : d.kids.length = 3 := by omega
  match hk : d.kids, hl with
  | [x0, x1, x2], _ =>
    refine ⟨x0, x1, x2, rfl, ?_⟩
    unfold kidsOf
    rw [if_neg, hk]
    rw [h1, hk]; simp
theorem form_two {d : D} (hf : form d = true) (hw : word d = sLet ∨ word d = sCall) : 2 ≤ d.kids.length := by
  have hk : d.kind = 3 := by
    refine Decidable.byContradiction fun e => ?_
    rw [word_none (.inl e)] at hw
    rcases hw with hw | hw <;> exact absurd hw (by decide)
  unfold form at hf
  have e1 : (d.kind == 1) = false := by rw [hk]; rfl
  have e2 : (d.kind == 2) = false := by rw [hk]; rfl
  rcases hw with hw | hw
  · have a1 : decide (word d = es) = false := by rw [hw]; decide
    have a2 : decide (word d = sQuote) = false := by rw [hw]; decide
    have a3 : decide (word d = sIf) = false := by rw [hw]; decide
    have a4 : decide (word d = sLet) = true := by rw [hw]; decide
    simp only [e1, e2, a1, a2, a3, a4, Bool.false_eq_true, if_false, if_true, Bool.and_eq_true, beq_iff_eq] at hf
    omega
  · have a1 : decide (word d = es) = false := by rw [hw]; decide
    have a2 : decide (word d = sQuote) = false := by rw [hw]; decide
    have a3 : decide (word d = sIf) = false := by rw [hw]; decide
    have a4 : decide (word d = sLet) = false := by rw [hw]; decide
    have a5 : decide (word d = sCall) = true := by rw [hw]; decide
    simp only [e1, e2, a1, a2, a3, a4, a5, Bool.false_eq_true, if_false, if_true, Bool.and_eq_true, decide_eq_true_eq] at hf
    omega
theorem form_call {d : D} (hf : form d = true) (ff : formed d = true) (hw : word d = sCall) : isLabel (d1 d.kids) = true ∧ formed (d1 d.kids) = true := by
  have h2 := form_two hf (.inr hw)
  obtain ⟨x1, hx1, hm⟩ := get_lt (l := d.kids) (k := 1) (by omega)
  have hd1 : d1 d.kids = x1 := getD_of hx1
  have hf1 : formed (d1 d.kids) = true := by rw [hd1]; exact formed_kids ff hm
  refine ⟨?_, hf1⟩
  have hk : d.kind = 3 := by
    refine Decidable.byContradiction fun e => ?_
    rw [word_none (.inl e)] at hw
    exact absurd hw (by decide)
  unfold form at hf
  have e1 : (d.kind == 1) = false := by rw [hk]; rfl
  have e2 : (d.kind == 2) = false := by rw [hk]; rfl
  have a1 : decide (word d = es) = false := by rw [hw]; decide
  have a2 : decide (word d = sQuote) = false := by rw [hw]; decide
  have a3 : decide (word d = sIf) = false := by rw [hw]; decide
  have a4 : decide (word d = sLet) = false := by rw [hw]; decide
  have a5 : decide (word d = sCall) = true := by rw [hw]; decide
  simp only [e1, e2, a1, a2, a3, a4, a5, Bool.false_eq_true, if_false, if_true, Bool.and_eq_true, decide_eq_true_eq] at hf
  rw [← rlabel_eq hf1]; exact hf.2
theorem inb_no {b : List ByteArray} {d : D} {k : Nat} (h : decide (word d = sLet) = false) : inb b d k = b := by unfold inb; rw [h]; rfl
theorem inb_other {b : List ByteArray} {d : D} {k : Nat} (h : ((k : Int) == 1) = false) : inb b d k = b := by unfold inb; rw [h]; simp
theorem inb_yes {b : List ByteArray} {d : D} {k : Nat} (h : decide (word d = sLet) = true) (hk : ((k : Int) == 1) = true) : inb b d k = b ++ [(d1 d.kids).text] := by unfold inb; rw [h, hk]; rfl
theorem get_d1 {l : List D} (h : 2 ≤ l.length) : l[1]? = some (d1 l) := by
  obtain ⟨x, hx, _⟩ := get_lt (l := l) (k := 1) (by omega)
  rw [hx, show d1 l = x from getD_of hx]
theorem inb_len (b : List ByteArray) (d : D) (k : Nat) : (inb b d k).length ≤ b.length + 1 := by unfold inb; split <;> simp
theorem kidsR_len (d : D) : (kidsR d).length ≤ d.kids.length := by
  unfold kidsR
  split
  · simp
  · split
    · simp
    · split
      · simp
      · split <;> simp
theorem kidsR_mem {d x : D} (h : x ∈ kidsR d) : x ∈ d.kids := by
  unfold kidsR at h
  split at h
  · simp at h
  · split at h
    · simp at h
    · split at h
      · exact List.mem_of_mem_drop h
      · split at h <;> exact List.mem_of_mem_drop h
end Go.Aw
namespace Go.Aw
open Go
theorem LabOk.kset {ps : List (D × Int)} (h : LabOk ps) {d : D} {v : Int} (hl : isLabel d = true) (hf : formed d = true) (hn : (kpar ps d).2 = false) : LabOk (kset ps d v) := by
  rw [kset_new hn]
  intro q hq
  simp only [List.mem_append, List.mem_singleton] at hq
  rcases hq with hq | rfl
  · exact h q hq
  · exact ⟨hl, hf⟩
theorem toDf_of {d x0 x1 x2 : D} {ns : List ByteArray} (hk : d.kids = [x0, x1, x2]) (hn : names x1 = some ns) : toDf d = ⟨x0, ns, x2⟩ := by
  have h0 : d0 d.kids = x0 := by rw [hk]; rfl
  have h1 : d1 d.kids = x1 := by rw [hk]; rfl
  have h2 : d2 d.kids = x2 := by rw [hk]; rfl
  unfold toDf
  rw [h0, h1, h2, hn]; rfl
theorem lp_of {p : D} (hh : (heads p).1 = 0) : LP (p.kids.map toDf) (heads p).2 := by
  intro f hf ff
  obtain ⟨hdc, hk3, hne, _, he⟩ := heads_ok hh
  have hfp := dcheck_formed hdc
  have h := hh
  rw [he] at h
  rw [he, (headsGo_apart h).2.2 f]
  have key : ∀ l : List D, (∀ d, d ∈ l → d ∈ p.kids) → (match l.find? fun d => kq f d.head with | some d => (((nlist (names (d1 d.kids))).length : Int), true) | none => (0, false)) = (match (l.map toDf).find? fun d => deq d.lab f with | some d => ((d.ps.length : Int), true) | none => (0, false)) := by
    intro l
    induction l with
    | nil => intro _; rfl
    | cons y l ih =>
      intro hl
      obtain ⟨x0, x1, x2, ns, hk, _, hlab, hns, _⟩ := def_ok hh (hl y (by simp))
      have hyh : y.head = x0 := head_cons hk
      have hyf : formed x0 = true := formed_kids (formed_kids hfp (hl y (by simp))) (by rw [hk]; simp)
      have e : deq (toDf y).lab f = kq f y.head := by
        rw [toDf_of hk hns, hyh]
        show deq x0 f = kq f x0
        cases hq : kq f x0 with
        | true => rw [label_eq hf hlab ff hyf hq, deq_refl]
        | false =>
          cases hd : deq x0 f with
          | false => rfl
          | true => rw [deq_of hd, kq_refl] at hq; cases hq
      rw [List.map_cons, List.find?_cons, List.find?_cons, e]
      cases kq f y.head with
      | true => rfl
      | false => exact ih fun d hd => hl d (by simp [hd])
  exact key _ fun _ h => h
theorem dfs_small {p : D} (hh : (heads p).1 = 0) (hp : p.size ≤ 1000000000) : ∀ x, x ∈ p.kids.map toDf → x.lab.size ≤ 1000000000 ∧ x.ps.length ≤ 1000000000 := by
  intro x hx
  obtain ⟨d, hd, rfl⟩ := List.mem_map.1 hx
  obtain ⟨x0, x1, x2, ns, hk, _, _, hns, h8⟩ := def_ok hh hd
  rw [toDf_of hk hns]
  have h1 := D.size_kid_lt hd
  have h2 := D.size_kid_lt (d := d) (k := x0) (by rw [hk]; simp)
  exact ⟨by show x0.size ≤ _; omega, by show ns.length ≤ _; omega⟩
end Go.Aw

/- Layer 17 (four): what Main, Labels, Def, Calls, Same give. No program is named. -/
namespace Go.Aw
open Go
def pars (d : D) : List ByteArray := textsL (d1 d.kids).kids
theorem namesGo_texts : ∀ {l : List D} {acc ns : List ByteArray}, namesGo acc l = some ns → ns = acc ++ textsL l
  | [], acc, ns, h => by simp [namesGo] at h; subst h; simp [textsL]
  | x :: l, acc, ns, h => by
    rw [namesGo] at h
    split at h
    · cases h
    · split at h
      · cases h
      · rw [namesGo_texts h]; simp [textsL]
theorem names_texts {d : D} {ns : List ByteArray} (h : names d = some ns) : ns = textsL d.kids := by
  unfold names at h
  split at h
  · cases h
  · have := namesGo_texts h
    simpa using this
end Go.Aw

/- A field of a struct that is a value. No program is named. -/
namespace Go.Aw
open Go
variable {P : Program} {ty : TyT} {σ0 : Store} {N : Nat} {s : St} {o : Oper} {os : List Oper} {ops : Array Oper} {K : St → Prop}
end Go.Aw

/- Layer 17 (five): the program's answers and the specification's. No program is named. -/
namespace Go.Aw
open Go
section
variable {p d : D} (R : Right p)
include R
theorem Right.no : (fcheck p != 0) = false := by rw [R.chk]; rfl
theorem Right.rdefs : rdefs p = p.kids.map toDf := by unfold Aw.rdefs; rw [if_neg (by rw [R.no]; decide)]
theorem Right.df (hd : d ∈ p.kids) : ∃ x0 x1 x2 ns, d.kids = [x0, x1, x2] ∧ names x1 = some ns ∧ toDf d = ⟨x0, ns, x2⟩ ∧ d.head = x0 ∧ pars d = ns ∧ d2 d.kids = x2 ∧ ns.length ≤ 8 := by
  obtain ⟨x0, x1, x2, ns, hk, _, _, hn, h8⟩ := R.def hd
  refine ⟨x0, x1, x2, ns, hk, hn, toDf_of hk hn, head_cons hk, ?_, by rw [hk]; rfl, h8⟩
  unfold pars
  rw [show d1 d.kids = x1 by rw [hk]; rfl, names_texts hn]
theorem Right.small (d : Df) (hd : d ∈ Aw.rdefs p) : d.lab.size ≤ 900000000 ∧ d.ps.length ≤ 8 ∧ GoodE d.bod ∧ d.bod.size ≤ 900000000 ∧ isLabel d.lab = true ∧ Aw.formed d.lab = true := by
  rw [R.rdefs] at hd
  obtain ⟨x, hx, rfl⟩ := List.mem_map.1 hd
  obtain ⟨x0, x1, x2, ns, hkk, hn, ht, hh, hps, h2, h8⟩ := R.df hx
  have hg := R.good hx
  have hl := R.label hx
  rw [h2] at hg
  rw [hh] at hl
  have h1 := D.size_kid_lt hx
  have h3 := D.size_kid_lt (d := x) (k := x0) (by rw [hkk]; simp)
  have h4 := D.size_kid_lt (d := x) (k := x2) (by rw [hkk]; simp)
  have := R.sz
  rw [ht]
  exact ⟨by show x0.size ≤ _; omega, h8, hg, by show x2.size ≤ _; omega, hl.1, hl.2⟩
theorem Right.len : (Aw.rdefs p).length ≤ 4000 := by rw [R.rdefs, List.length_map]; exact (heads_ok R.heads).2.2.2.1
theorem Right.size : (fSize p).1 = ((((Aw.rdefs p).map fun d => fsize d.bod).sum : Nat) : Int) := by
  unfold fSize
  rw [if_neg (by rw [R.no]; decide), R.rdefs, List.map_map]
  rfl
end
end Go.Aw

/- Layer 17's specification (six): calls, what is reached. No program is named. -/
namespace Go.Aw
open Go
structure CI (st : CS) : Prop where
  lab : ∀ y, y ∈ st.1 → isLabel y = true ∧ formed y = true
  seen : ∀ f, isLabel f = true → formed f = true → seenB st.2 f = st.1.any fun y => deq y f
section
variable {p x : D} (R : Right p)
include R
theorem Right.findI (hx : x ∈ p.kids) : 0 ≤ findI (Aw.rdefs p) x.head ∧ (Aw.rdefs p)[(Aw.findI (Aw.rdefs p) x.head).toNat]? = some (toDf x) := by
  have hfind : (Aw.rdefs p).find? (fun d => deq d.lab x.head) = some (toDf x) := by
    rw [R.rdefs]
    have hs := find_self R.apart hx
    have key : ∀ l : List D, (∀ d, d ∈ l → d ∈ p.kids) → (l.map toDf).find? (fun d => deq d.lab x.head) = (l.find? fun d => deq d.head x.head).map toDf := by
      intro l
      induction l with
      | nil => intro _; rfl
      | cons y l ih =>
        intro hl
        obtain ⟨x0, x1, x2, ns, hkk, hn, ht, hh, _⟩ := R.df (hl y (by simp))
        rw [List.map_cons, List.find?_cons, List.find?_cons, ih fun d hd => hl d (by simp [hd])]
        have e : deq (toDf y).lab x.head = deq y.head x.head := by rw [ht, hh]
        rw [e]
        cases deq y.head x.head <;> rfl
    rw [key _ fun _ h => h, hs]; rfl
  have hn : ¬ Aw.findI (Aw.rdefs p) x.head < 0 := fun h => by
    have := idxOf_neg h
    rw [hfind] at this; cases this
  obtain ⟨h0, d, h1, h2⟩ := idxOf_get hn
  rw [hfind] at h2
  cases h2
  exact ⟨h0, h1⟩
end
end Go.Aw
namespace Go.Aw
open Go
section
variable {p y0 : D} (R : Right p)
include R
theorem Right.first : ∃ y0, (Aw.rdefs p)[0]? = some (toDf y0) ∧ rst p 0 = ([y0], [(y0.head, true)]) ∧ (toDf y0).lab = y0.head := by
  obtain ⟨y, r, hk⟩ := kids_cons R.ne
  obtain ⟨x0, x1, x2, ns, hkk, hns, htd, hxh, _⟩ := R.df (d := y) (by rw [hk]; simp)
  refine ⟨y, by rw [R.rdefs, hk]; rfl, ?_, by rw [htd, hxh]⟩
  show ([p.head], [(p.head.head, true)]) = _
  rw [head_cons hk]
end
end Go.Aw

/- Runs that are told whole: an evaluation of a function at given values, and that the machine's call gives what it gives. No program is named. -/
namespace Go.Aw
open Go
structure Cfg where
  P : Program
  ty : TyT
  sh : FuncId → List Tmp
  dm : FuncId → Nat → Nat × List Nat × Bool
  ca : FuncId → Bool
  orc : FuncId → List AV → Option AV

inductive Gate where
  | on | off | bad

def gateOf (ops : Array Oper) (o : Oper) (T : List (Nat × AV)) : Gate :=
  match o.guard with
  | none => .on
  | some _ => match guardTmp ops o with
    | some (d, want) => match Aw.get T d with
      | .pv (.bool b) => match b, want with
        | true, true => .on
        | false, false => .on
        | _, _ => .off
      | .tuple [] => .off
      | _ => .bad
    | none => .bad

def callOf (s : St) (o : Oper) : Option (FuncId × List AV) :=
  match o.op with
  | .call c => match c.callee with
    | .value fo => match ev s fo with
      | .func (.func f) caps => some (f, c.args.toList.map (ev s) ++ caps)
      | _ => none
    | _ => none
  | _ => none

def lower1 (x : AV) : AV := match toPV x with
  | some p => .pv p
  | none => x
def lowerT : AV → AV
  | .tuple xs => .tuple (xs.map lower1)
  | x => lower1 x
def cloT (no nt : Nat) : AV → Bool
  | .tuple xs => AV.clos no nt 0 xs
  | x => x.clo no nt 0

/-- What is left of a call's store. -/
def finR (σ : Store) (r : AV) (σ' : Store) : AV × Store :=
  match cloT σ.objs.length σ.toks.length (lowerT r) && (σ'.objs.take σ.objs.length).all (AObj.clo σ.objs.length σ.toks.length 0) with
  | true => (lowerT r, { σ'.cut σ.objs.length σ.toks.length with gl := σ.gl })
  | false => (r, { σ' with gl := σ.gl })

def isFin : Exit → Bool
  | .normal => true
  | .ret => true
  | _ => false

mutual
def evF (C : Cfg) : Nat → FuncId → List AV → Store → Option (AV × Store)
  | 0, _, _, _ => none
  | n + 1, f, args, σ => match C.orc f args with
    | some r => some (r, σ)
    | none => match C.P.funcs[f]? with
      | some fn => match fn.body with
        | some c => match decide (args.length ≤ fn.ntmps) with
          | true => match evC C n f fn.ntmps c ⟨argT 0 args, [], σ⟩ with
            | some (e, s) => match isFin e with
              | true => match resAV C.ty s fn.results.toList with
                | some l => match AV.noLs l with
                  | true => some (finR σ (oneOf l) s.σ)
                  | false => none
                | none => none
              | false => none
            | none => none
          | false => none
        | none => none
      | none => none
def evC (C : Cfg) : Nat → FuncId → Nat → Code → St → Option (Exit × St)
  | 0, _, _, _, _ => none
  | n + 1, f, N, c, s => match c with
    | .skip => some (.normal, s)
    | .ret => some (.ret, s)
    | .exit id => some (.exit id, s)
    | .seq x y => match evC C n f N x s with
      | some (.normal, s') => evC C n f N y s'
      | r => r
    | .block id c => match evC C n f N c s with
      | some (.exit id', s') => match Nat.beq id' id with
        | true => some (.normal, s')
        | false => some (.exit id', s')
      | r => r
    | .loop c => match evC C n f N c s with
      | some (.normal, s') => evC C n f N (.loop c) s'
      | r => r
    | .cond c x y => match ev s c with
      | .pv (.bool true) => evC C n f N x s
      | .pv (.bool false) => evC C n f N y s
      | _ => none
    | .region _ ops false => match evO C n f N ops ops.toList s with
      | some s' => some (.normal, s')
      | none => none
    | .region id ops true => match drawOk ops (C.dm f id).1 && decide ((C.dm f id).1 < ops.size) with
      | true => match evU C n f N (viewX (C.dm f id).2.1 (C.dm f id).2.2 s) ops (ops.toList.take (C.dm f id).1) s with
        | some s' => match evO C n f N ops (ops.toList.drop (C.dm f id).1) s' with
          | some s' => some (.normal, s')
          | none => none
        | none => none
      | false => none
    | _ => none
def evO (C : Cfg) : Nat → FuncId → Nat → Array Oper → List Oper → St → Option St
  | 0, _, _, _, _, _ => none
  | _ + 1, _, _, _, [], s => some s
  | n + 1, f, N, ops, o :: os, s => match dstOk N o.dst with
    | true => match gateOf ops o s.T with
      | .bad => none
      | .off => evO C n f N ops os (s.put o.dst (.tuple []))
      | .on => match callOf s o with
        | some (g, args) => match C.ca g && AV.noLs args with
          | true => match evF C n g args s.σ with
            | some (r, σ') => evO C n f N ops os (({ s with σ := σ' } : St).put o.dst r)
            | none => none
          | false => none
        | none => match stepOp C.ty (C.sh f) s o with
          | some s' => evO C n f N ops os s'
          | none => none
    | false => none
def evU (C : Cfg) : Nat → FuncId → Nat → View → Array Oper → List Oper → St → Option St
  | 0, _, _, _, _, _, _ => none
  | _ + 1, _, _, _, _, [], s => some s
  | n + 1, f, N, V, ops, o :: os, s => match dstOk N o.dst with
    | true => match gateOf ops o s.T with
      | .bad => none
      | .off => evU C n f N V ops os ⟨putT s.T o.dst (.tuple []), s.L, s.σ⟩
      | .on => match effOf C.ty (V.st s.T) o with
        | some (.call g args) => match C.ca g && AV.noLs args && V.objs.isEmpty with
          | true => match evF C n g args s.σ with
            | some (r, σ') => evU C n f N V ops os ⟨putT s.T o.dst r, s.L, σ'⟩
            | none => none
          | false => none
        | some e => match viewOk V e with
          | true => match effStep s o.dst e with
            | some s' => evU C n f N V ops os s'
            | none => none
          | false => none
        | none => none
    | false => none
end
section
variable {P : Program} {ty : TyT} {σ0 : Store} {N : Nat} {s s' : St} {o : Oper} {ops : Array Oper} {os : List Oper} {K : St → Prop} {V : View} {Q : Exit → St → Prop} {c : Code}
theorem awp_gl (h : s.σ.gl = σ0.gl → AWp P σ0 N c Q s) : AWp P σ0 N c Q s := by
  rintro g0 w0 a w ⟨g, r⟩
  exact h r.1.gl g0 w0 a w ⟨g, r⟩

theorem al_gl (h : s.σ.gl = σ0.gl → AOpsL P σ0 N ops os K s) : AOpsL P σ0 N ops os K s := by
  rintro l hl g0 w0 a w nx ⟨g, r⟩ hn
  exact h r.1.gl l hl g0 w0 a w nx ⟨g, r⟩ hn

theorem gate_on (h : gateOf ops o s.T = .on) : o.guard = none ∨ ∃ d b, guardTmp ops o = some (d, b) ∧ get s.T d = .pv (.bool b) := by
  unfold gateOf at h
  split at h
  · exact .inl ‹_›
  · split at h
    · rename_i d want hg
      split at h
      · rename_i b hb
        split at h
        · exact .inr ⟨d, true, hg, hb⟩
        · exact .inr ⟨d, false, hg, hb⟩
        · cases h
      · cases h
      · cases h
    · cases h

theorem gate_off {T : List (Nat × AV)} (h : gateOf ops o T = .off) : ∃ d b, guardTmp ops o = some (d, b) ∧ off (get T d) b = true := by
  unfold gateOf at h
  split at h
  · cases h
  · split at h
    · rename_i d want hg
      split at h
      · rename_i b hb
        split at h
        · cases h
        · cases h
        · rename_i h1 h2
          refine ⟨d, want, hg, ?_⟩
          rw [hb]
          cases b <;> cases want <;> simp_all [off]
      · rename_i hb
        exact ⟨d, want, hg, by rw [hb]; rfl⟩
      · cases h
    · cases h

theorem al_on (h : gateOf ops o s.T = .on) (hd : dstOk N o.dst = true) (k : AOp P σ0 N o (AOpsL P σ0 N ops os K) s) : AOpsL P σ0 N ops (o :: os) K s := by
  rcases gate_on h with hg | ⟨d, b, hg, hb⟩
  · exact al_cons hg k
  · exact al_take d b b hb rfl hg hd k

theorem al_off (h : gateOf ops o s.T = .off) (hd : dstOk N o.dst = true) (k : AOpsL P σ0 N ops os K (s.put o.dst (.tuple []))) : AOpsL P σ0 N ops (o :: os) K s := by
  obtain ⟨d, b, hg, hb⟩ := gate_off h
  intro l hl
  cases l with
  | nil => simp at hl
  | cons i l =>
    simp only [List.map_cons, List.cons.injEq] at hl
    exact aops_skip hl.1 hg hb hd (k l hl.2)

theorem gate_eff {e : Eff} (h : gateOf ops o s.T = .on) (he : effOf ty (V.st s.T) o = some e) : GateEff ty V ops s.T o e := by
  rcases gate_on h with hg | ⟨d, b, hg, hb⟩
  · exact .plain hg he
  · exact .yes hg hb he

theorem callOf_eq {g : FuncId} {args : List AV} (h : callOf s o = some (g, args)) : ∃ c fo caps, o.op = .call c ∧ c.callee = .value fo ∧ ev s fo = .func (.func g) caps ∧ args = c.args.toList.map (ev s) ++ caps := by
  unfold callOf at h
  split at h
  · rename_i c hc
    split at h
    · rename_i fo hfo
      split at h
      · rename_i f caps hf
        cases h
        exact ⟨c, fo, caps, hc, hfo, hf, rfl⟩
      · cases h
    · cases h
  · cases h

theorem lower1_wv {no nt : Nat} {x : AV} (h : (lower1 x).clo no nt 0 = true) : WV no nt 0 x (lower1 x) := by
  unfold lower1 at h ⊢
  split
  · exact .pv ‹_›
  · rename_i hx
    rw [hx] at h
    exact .same h

theorem lowerT_wvt {no nt : Nat} {r : AV} (h : cloT no nt (lowerT r) = true) : WVt no nt 0 r (lowerT r) := by
  cases r with
  | tuple xs =>
    simp only [lowerT, cloT, WVt] at h ⊢
    induction xs with
    | nil => trivial
    | cons x xs ih =>
      simp only [List.map_cons, AV.clos, Bool.and_eq_true] at h
      exact ⟨lower1_wv h.1, ih h.2⟩
  | _ =>
    simp only [lowerT] at h ⊢
    have h2 : ∀ (y : AV), (∀ xs, y ≠ .tuple xs) → cloT no nt y = true → y.clo no nt 0 = true := by
      intro y hy hc
      unfold cloT at hc
      split at hc
      · exact (hy _ rfl).elim
      · exact hc
    have h3 : ∀ (x : AV), (∀ xs, x ≠ .tuple xs) → ∀ xs, lower1 x ≠ .tuple xs := by
      intro x hx xs
      unfold lower1
      split
      · simp
      · exact hx xs
    have := lower1_wv (h2 _ (h3 _ (by simp)) h)
    unfold WVt
    split
    · rename_i e1 e2; cases e1
    · exact this
end
theorem ACalls.gl {P : Program} {f : FuncId} {args : List AV} {σ : Store} {R : AV → Store → Prop} (h : ACalls P f args σ R) : ACalls P f args σ fun r' s' => R r' s' ∧ s'.gl = σ.gl := by
  intro g' w cargs h1 h2 h3
  refine (h g' w cargs h1 h2 h3).mono ?_
  rintro e w' ⟨v, r1, σ1, g1, e1, e2, e3, e4, e5⟩
  exact ⟨v, r1, σ1, g1, e1, ⟨e2, e4.gl⟩, e3, e4, e5⟩

theorem appendStep_gl {s s' : St} {d : Option Tmp} {e : TypeId} {te : TyI} {x : AV} {ys : List PV} (h : appendStep s d e te x ys = some s') : s'.σ.gl = s.σ.gl := by
  unfold appendStep at h
  split at h
  · split at h
    · split at h
      · split at h
        · cases h; cases d <;> rfl
        · cases h
      · cases h
    · split at h
      · split at h
        · cases h; cases d <;> rfl
        · cases h
      · cases h
  · cases h

theorem effStep_gl {s s' : St} {d : Option Tmp} {e : Eff} (h : effStep s d e = some s') : s'.σ.gl = s.σ.gl := by
  cases e with
  | pure x => simp only [effStep, Option.some.injEq] at h; subst h; rfl
  | box cs => simp only [effStep, Option.some.injEq] at h; subst h; rfl
  | append e te x ys =>
    simp only [effStep] at h
    split at h
    · rename_i s1 h1
      have := appendStep_gl h1
      cases h; exact this
    · cases h
  | call => simp [effStep] at h
  | path => simp [effStep] at h
  | storeL i off ti ds =>
    simp only [effStep] at h
    split at h
    · split at h
      · cases h; rfl
      · cases h
    · cases h

theorem evF_gl {C : Cfg} {n : Nat} {f : FuncId} {args : List AV} {σ σ' : Store} {r : AV} (h : evF C n f args σ = some (r, σ')) : σ'.gl = σ.gl := by
  cases n with
  | zero => simp [evF] at h
  | succ n =>
    simp only [evF] at h
    split at h
    · cases h; rfl
    · split at h
      · split at h
        · split at h
          · split at h
            · split at h
              · split at h
                · split at h
                  · simp only [finR] at h
                    split at h <;> cases h <;> rfl
                  · cases h
                · cases h
              · cases h
            · cases h
          · cases h
        · cases h
      · cases h

/-- From the head of a loop on. -/
def AWpL (P : Program) (σ0 : Store) (N : Nat) (c : Code) (Q : Exit → St → Prop) (s : St) : Prop :=
  ∀ g0 w0 a w, Rel g0 σ0 w0 N s a w → ∀ b k cs, ∃ e a' w', lift g0 σ0 w0 N Q e a' w' ∧ Arrives P (lone (b.at a (.code c :: .inLoop c :: k)) cs w) b k cs e a' w'

theorem awp_loopL {P : Program} {σ0 : Store} {N : Nat} {c : Code} {Q : Exit → St → Prop} {s : St} (h : AWpL P σ0 N c Q s) : AWp P σ0 N (.loop c) Q s := by
  intro g0 w0 a w r b k cs
  obtain ⟨e₂, a₂, w₂, hq₂, harr₂⟩ := h g0 w0 a w r b k cs
  exact ⟨e₂, a₂, w₂, hq₂, .of_steps (.one step_loop) harr₂⟩

theorem awpL_round {P : Program} {σ0 : Store} {N : Nat} {c : Code} {Q : Exit → St → Prop} {s : St} (hw : AWp P σ0 N c (Then (AWpL P σ0 N c Q) Q) s) : AWpL P σ0 N c Q s := by
  intro g0 w0 a w r b k cs
  obtain ⟨e₁, a₁, w₁, ⟨s₁, hq, r₁⟩, harr⟩ := hw g0 w0 a w r b (.inLoop c :: k) cs
  cases e₁ with
  | normal =>
    obtain ⟨e₂, a₂, w₂, hq₂, harr₂⟩ := hq g0 w0 a₁ w₁ r₁ b k cs
    exact ⟨e₂, a₂, w₂, hq₂, .of_steps (Steps.trans harr (.one step_inLoop)) harr₂⟩
  | exit id => exact ⟨_, a₁, w₁, ⟨s₁, hq, r₁⟩, .pass (x := .inLoop c) rfl (fun _ _ => .inl (by simp)) harr⟩
  | goto l => exact ⟨_, a₁, w₁, ⟨s₁, hq, r₁⟩, .pass (x := .inLoop c) rfl (fun _ _ => .inl (by simp)) harr⟩
  | ret => exact ⟨_, a₁, w₁, ⟨s₁, hq, r₁⟩, .pass (x := .inLoop c) rfl (fun _ _ => .inl (by simp)) harr⟩
  | panic ch => exact ⟨_, a₁, w₁, ⟨s₁, hq, r₁⟩, .pass (x := .inLoop c) rfl (fun _ _ => .inl (by simp)) harr⟩
  | outgrown => exact ⟨_, a₁, w₁, ⟨s₁, hq, r₁⟩, .pass (x := .inLoop c) rfl (fun _ _ => .inl (by simp)) harr⟩

structure CfgOk (C : Cfg) (G : List (Nat × PV)) : Prop where
  hty : TyOk C.P C.ty
  hsz : ∀ t ti, C.ty t = some ti → ti.size ≠ 0
  hca : ∀ f, C.ca f = true → Callable C.P f
  horc : ∀ f args r, C.orc f args = some r → Pur C.P G f args r

theorem ev_sound {C : Cfg} {G : List (Nat × PV)} (H : CfgOk C G) : ∀ n : Nat,
    (∀ f args σ r σ', σ.gl = G → evF C n f args σ = some (r, σ') → ACalls C.P f args σ fun r' s' => r' = r ∧ s' = σ') ∧
    (∀ f N c s e s' σ0 (Q : Exit → St → Prop), σ0.gl = G → evC C n f N c s = some (e, s') → Q e s' → AWp C.P σ0 N c Q s) ∧
    (∀ f N ops os s s' σ0 (K : St → Prop), σ0.gl = G → evO C n f N ops os s = some s' → K s' → AOpsL C.P σ0 N ops os K s) ∧
    (∀ f N V ops os s s' (K : St → Prop), s.σ.gl = G → evU C n f N V ops os s = some s' → (s'.σ.gl = G → K s') → UL C.P C.ty V N ops os K s) ∧
    (∀ f N c s e s' σ0 (Q : Exit → St → Prop), σ0.gl = G → evC C n f N (.loop c) s = some (e, s') → Q e s' → AWpL C.P σ0 N c Q s)
  | 0 => ⟨fun _ _ _ _ _ _ h => by simp [evF] at h, fun _ _ _ _ _ _ _ _ _ h => by simp [evC] at h, fun _ _ _ _ _ _ _ _ _ h => by simp [evO] at h, fun _ _ _ _ _ _ _ _ _ h => by simp [evU] at h, fun _ _ _ _ _ _ _ _ _ h => by simp [evC] at h⟩
  | n + 1 => by
    obtain ⟨ihF, ihC, ihO, ihU, ihL⟩ := ev_sound H n
    have loop : ∀ f N c s e s' σ0 (Q : Exit → St → Prop), σ0.gl = G → evC C (n + 1) f N (.loop c) s = some (e, s') → Q e s' → AWpL C.P σ0 N c Q s := by
      intro f N c s e s' σ0 Q hgl h hQ
      simp only [evC] at h
      refine awpL_round ?_
      split at h
      · rename_i s1 h1
        exact ihC f N c s .normal s1 σ0 _ hgl h1 (ihL f N c s1 e s' σ0 _ hgl h hQ)
      · rename_i hne
        refine ihC f N c s e s' σ0 _ hgl h ?_
        cases e <;> first | exact hQ | exact (hne _ h).elim
    refine ⟨?_, ?_, ?_, ?_, loop⟩
    · intro f args σ r σ' hgl h
      simp only [evF] at h
      split at h
      · rename_i r1 ho
        cases h
        exact H.horc f args _ ho _ hgl
      · split at h
        · rename_i fn hfn
          split at h
          · rename_i c hc
            split at h
            · rename_i hlen
              split at h
              · rename_i e s hs
                split at h
                · rename_i hfin
                  split at h
                  · rename_i l hl
                    split at h
                    · rename_i hnl
                      have key : ACalls C.P f args σ fun r' s' => r' = oneOf l ∧ s' = s.σ := by
                        refine acalls_of H.hty hfn hc (by simpa using hlen) (ihC f fn.ntmps c _ e s σ _ hgl hs ?_)
                        cases e <;> first | (cases hfin; done) | exact ⟨l, hl, hnl, rfl, rfl⟩
                      have key := key.gl
                      simp only [finR] at h
                      split at h
                      · rename_i hclo
                        cases h
                        simp only [Bool.and_eq_true, List.all_eq_true] at hclo
                        refine key.less ?_
                        rintro _ _ ⟨⟨rfl, rfl⟩, hg2⟩
                        exact ⟨_, _, _, lowerT_wvt hclo.1, Nat.le_refl _, Nat.le_refl _, fun ob hob => .inr (hclo.2 ob hob), rfl, by rw [← hg2]; rfl⟩
                      · cases h
                        refine key.mono ?_
                        rintro _ _ ⟨⟨rfl, rfl⟩, hg2⟩
                        exact ⟨rfl, by rw [← hg2]⟩
                    · cases h
                  · cases h
                · cases h
              · cases h
            · cases h
          · cases h
        · cases h
    · intro f N c s e s' σ0 Q hgl h hQ
      cases c <;> (try simp only [evC] at h) <;> try (cases h; done)
      case skip => cases h; exact awp_skip hQ
      case ret => cases h; exact awp_ret hQ
      case exit => cases h; exact awp_exit hQ
      case seq x y =>
        refine awp_seq ?_
        split at h
        · rename_i s1 h1
          exact ihC f N x s .normal s1 σ0 _ hgl h1 (ihC f N y s1 e s' σ0 _ hgl h hQ)
        · rename_i hne
          refine ihC f N x s e s' σ0 _ hgl h ?_
          cases e <;> first | exact hQ | exact (hne _ h).elim
      case block id c =>
        refine awp_block ?_
        split at h
        · rename_i id' s1 h1
          refine ihC f N c s (.exit id') s1 σ0 _ hgl h1 ?_
          split at h
          · rename_i hb
            have := Nat.eq_of_beq_eq_true hb
            cases h; subst this; exact inBlock_hit hQ
          · rename_i hb
            have : id' ≠ id := fun e => by subst e; simp at hb
            cases h; exact inBlock_miss this hQ
        · rename_i hne
          refine ihC f N c s e s' σ0 _ hgl h ?_
          cases e <;> first | exact hQ | exact (hne _ _ h).elim
      case loop c =>
        exact awp_loopL (loop f N c s e s' σ0 Q hgl (by simp only [evC]; exact h) hQ)
      case cond c x y =>
        split at h
        · rename_i hc
          exact awp_cond hc (fun _ => ihC f N x s e s' σ0 Q hgl h hQ) (fun e => by cases e)
        · rename_i hc
          exact awp_cond hc (fun e => by cases e) (fun _ => ihC f N y s e s' σ0 Q hgl h hQ)
        · cases h
      case region id ops draw =>
        cases draw with
        | false =>
          simp only [evC] at h
          split at h
          · rename_i s1 h1
            cases h
            exact awp_reg (ihO f N ops _ s s' σ0 _ hgl h1 hQ)
          · cases h
        | true =>
          simp only [evC] at h
          split at h
          · rename_i hok
            simp only [Bool.and_eq_true, decide_eq_true_eq] at hok
            split at h
            · rename_i s1 h1
              split at h
              · rename_i s2 h2
                cases h
                refine awp_gl fun hsg => ?_
                refine awp_regDX H.hty H.hsz _ (C.dm f id).2.1 (C.dm f id).2.2 hok.1 hok.2 ?_
                exact ihU f N _ ops _ s s1 _ (hsg.trans hgl) h1 fun _ => ihO f N ops _ s1 s' σ0 _ hgl h2 hQ
              · cases h
            · cases h
          · cases h
    · intro f N ops os s s' σ0 K hgl h hK
      cases os with
      | nil => simp only [evO] at h; cases h; exact al_nil hK
      | cons o os =>
        simp only [evO] at h
        split at h
        · rename_i hd
          split at h
          · cases h
          · rename_i hg
            exact al_off hg hd (ihO f N ops os _ s' σ0 K hgl h hK)
          · rename_i hg
            split at h
            · rename_i g args hcall
              split at h
              · rename_i hca
                simp only [Bool.and_eq_true] at hca
                split at h
                · rename_i r σ' hF
                  obtain ⟨c, fo, caps, k1, k2, k3, rfl⟩ := callOf_eq hcall
                  refine al_gl fun hsg => ?_
                  refine al_on hg hd (aop_call k1 k2 k3 (H.hca g hca.1) hca.2 hd ((ihF g _ s.σ r σ' (hsg.trans hgl) hF).mono ?_))
                  rintro _ _ ⟨rfl, rfl⟩
                  exact ihO f N ops os _ s' σ0 K hgl h hK
                · cases h
              · cases h
            · split at h
              · rename_i s1 h1
                exact al_on hg hd (aop_step H.hty h1 hd (ihO f N ops os _ s' σ0 K hgl h hK))
              · cases h
        · cases h
    · intro f N V ops os s s' K hgl h hK
      cases os with
      | nil => simp only [evU] at h; cases h; exact ul_nil (hK hgl)
      | cons o os =>
        simp only [evU] at h
        split at h
        · rename_i hd
          split at h
          · cases h
          · rename_i hg
            obtain ⟨d, b, hgt, hb⟩ := gate_off hg
            exact ⟨hd, .pure (.tuple []), .no hgt hb, ihU f N V ops os ⟨putT s.T o.dst (.tuple []), s.L, s.σ⟩ s' K hgl h hK⟩
          · rename_i hg
            split at h
            · rename_i g args he
              split at h
              · rename_i hca
                simp only [Bool.and_eq_true, List.isEmpty_iff] at hca
                split at h
                · rename_i r σ' hF
                  have hc := ihF g args s.σ r σ' hgl hF
                  refine ⟨hd, _, gate_eff hg he, H.hca g hca.1.1, hca.1.2, ?_, ?_⟩
                  · refine hc.mono ?_
                    rintro _ _ ⟨rfl, rfl⟩
                    refine ⟨fun o ob ho => by rw [hca.2] at ho; simp at ho, ?_⟩
                    exact ihU f N V ops os ⟨putT s.T o.dst _, s.L, _⟩ s' K ((evF_gl hF).trans hgl) h hK
                  · exact ⟨r, σ', ihU f N V ops os ⟨putT s.T o.dst r, s.L, σ'⟩ s' K ((evF_gl hF).trans hgl) h hK⟩
                · cases h
              · cases h
            · rename_i e hne he
              split at h
              · rename_i hv
                split at h
                · rename_i s1 h1
                  refine ⟨hd, e, gate_eff hg he, effStep_exec (n := fun T L σ => UL C.P C.ty V N ops os K ⟨T, L, σ⟩) hv h1 ?_⟩
                  exact ihU f N V ops os s1 s' K ((effStep_gl h1).trans hgl) h hK
                · cases h
              · cases h
            · cases h
        · cases h
end Go.Aw

/- A run that is told whole, from an empty store: what it gives is looked at. No program is named. -/
namespace Go.Aw
open Go
mutual
def peq : PV → PV → Bool
  | .slice xs, .slice ys => peqs xs ys
  | .agg xs, .agg ys => peqs xs ys
  | .ptr xs, .ptr ys => peqs xs ys
  | .int k n, .int j m => pvAtomEq (.int k n) (.int j m)
  | .bool a, .bool b => a == b
  | .str a, .str b => decide (a = b)
  | .nils, .nils => true
  | .nilp, .nilp => true
  | .nilif, .nilif => true
  | .nilmap, .nilmap => true
  | .nilfn, .nilfn => true
  | _, _ => false
def peqs : List PV → List PV → Bool
  | [], [] => true
  | x :: xs, y :: ys => peq x y && peqs xs ys
  | _, _ => false
end
mutual
theorem peq_eq : ∀ {a b : PV}, peq a b = true → a = b
  | .slice xs, b, h => by cases b <;> simp [peq] at h; rw [peqs_eq h]
  | .agg xs, b, h => by cases b <;> simp [peq] at h; rw [peqs_eq h]
  | .ptr xs, b, h => by cases b <;> simp [peq] at h; rw [peqs_eq h]
  | .int k n, b, h => by cases b <;> simp [peq] at h; exact pvAtomEq_eq h
  | .bool a, b, h => by cases b <;> simp [peq] at h; rw [h]
  | .str a, b, h => by cases b <;> simp [peq] at h; rw [h]
  | .nils, b, h => by cases b <;> simp [peq] at h; rfl
  | .nilp, b, h => by cases b <;> simp [peq] at h; rfl
  | .nilif, b, h => by cases b <;> simp [peq] at h; rfl
  | .nilmap, b, h => by cases b <;> simp [peq] at h; rfl
  | .nilfn, b, h => by cases b <;> simp [peq] at h; rfl
  | .iface t p, b, h => by cases b <;> simp [peq] at h
  | .map ks vs, b, h => by cases b <;> simp [peq] at h
  | .tab k zs, b, h => by cases b <;> simp [peq] at h
theorem peqs_eq : ∀ {a b : List PV}, peqs a b = true → a = b
  | [], [], _ => rfl
  | x :: xs, y :: ys, h => by
    simp only [peqs, Bool.and_eq_true] at h
    rw [peq_eq h.1, peqs_eq h.2]
  | [], _ :: _, h => by simp [peqs] at h
  | _ :: _, [], h => by simp [peqs] at h
end
/-- Does the run give this, and leave nothing? -/
def gives (o : Option (AV × Store)) (q : PV) : Bool :=
  match o with
  | some (r, σ) => match r, σ.objs, σ.toks with
    | .pv p, [], [] => peq p q
    | _, _, _ => false
  | none => false

theorem purAt_eval {C : Cfg} {G : List (Nat × PV)} (H : CfgOk C G) {n : Nat} {f : FuncId} {args : List AV} {q : PV} (h : gives (evF C n f args ⟨G, [], []⟩) q = true) : PurAt C.P ⟨G, [], []⟩ f args (.pv q) := by
  cases he : evF C n f args ⟨G, [], []⟩ with
  | none => rw [he] at h; cases h
  | some p =>
    obtain ⟨r, σ'⟩ := p
    rw [he] at h
    have hg := evF_gl he
    have hc := (ev_sound H n).1 f args ⟨G, [], []⟩ r σ' rfl he
    obtain ⟨gl, objs, toks⟩ := σ'
    simp only [gives] at h
    split at h
    · simp only at hg
      subst hg
      rw [peq_eq h] at hc
      exact hc
    · cases h
end Go.Aw

/- Whether what stands in no order may be exchanged: the same look, by a table of what stands before what. No program is named. -/
namespace Go.Aw
open Go
def precRow (t : List Nat) (es : List Nat) : Nat := es.foldl (fun a j => a ||| ((1 <<< j) ||| t.getD j 0)) 0
def precTab (ops : Array Oper) : Nat → List Nat
  | 0 => []
  | n + 1 => let t := precTab ops n; t ++ [precRow t (edges ops .any n)]
def drawOkT (ops : Array Oper) (m : Nat) : Bool :=
  goesOn ops .any && goesOn ops .text && goesOn ops .gc &&
  (let t := precTab ops ops.size
   (List.range ops.size).all fun i =>
    ((edges ops .any i).all fun j => decide (j < i)) &&
    (let p := t.getD i 0
     (List.range i).all fun k => p.testBit k || (decide (i < m) && (match ops[k]?, ops[i]? with | some ok, some oi => swapOk ops ok oi | _, _ => false))))

theorem precRow_bit {t : List Nat} {k : Nat} : ∀ {es : List Nat} {a : Nat}, (es.foldl (fun a j => a ||| ((1 <<< j) ||| t.getD j 0)) a).testBit k = true → a.testBit k = true ∨ ∃ j, j ∈ es ∧ (k = j ∨ (t.getD j 0).testBit k = true)
  | [], a, h => .inl h
  | j :: es, a, h => by
    rw [List.foldl_cons] at h
    rcases precRow_bit h with h | ⟨j', h1, h2⟩
    · simp only [Nat.testBit_or, Bool.or_eq_true] at h
      rcases h with h | h | h
      · exact .inl h
      · refine .inr ⟨j, by simp, .inl ?_⟩
        rw [Nat.one_shiftLeft, Nat.testBit_two_pow] at h
        simpa [eq_comm] using h
      · exact .inr ⟨j, by simp, .inr h⟩
    · exact .inr ⟨j', by simp [h1], h2⟩

theorem precTab_len (ops : Array Oper) : ∀ n, (precTab ops n).length = n
  | 0 => rfl
  | n + 1 => by simp [precTab, precTab_len ops n]
theorem precTab_get (ops : Array Oper) : ∀ n i, i < n → (precTab ops n).getD i 0 = precRow (precTab ops i) (edges ops .any i)
  | 0, i, h => by omega
  | n + 1, i, h => by
    simp only [precTab, List.getD_eq_getElem?_getD]
    by_cases hi : i < n
    · rw [List.getElem?_append_left (by rw [precTab_len]; exact hi)]
      have := precTab_get ops n i hi
      rw [List.getD_eq_getElem?_getD] at this
      exact this
    · have : i = n := by omega
      subst this
      rw [List.getElem?_append_right (by rw [precTab_len]; omega), precTab_len]
      simp

theorem precTab_sound (ops : Array Oper) (hd : ∀ i, i < ops.size → ∀ j, j ∈ edges ops .any i → j < i) : ∀ i, i < ops.size → ∀ k f, i + 1 ≤ f → ((precTab ops ops.size).getD i 0).testBit k = true → k ∈ precs ops f i := by
  intro i
  induction i using Nat.strongRecOn with
  | _ i ih =>
    intro hi k f hf h
    rw [precTab_get ops _ i hi] at h
    unfold precRow at h
    obtain ⟨f, rfl⟩ : ∃ g, f = g + 1 := ⟨f - 1, by omega⟩
    rw [precs, List.mem_append, List.mem_flatMap]
    rcases precRow_bit h with h | ⟨j, h1, h2⟩
    · simp at h
    · have hj := hd i hi j h1
      rcases h2 with rfl | h2
      · exact .inl h1
      · refine .inr ⟨j, h1, ih j hj (by omega) k f (by omega) ?_⟩
        rw [precTab_get ops _ j (by omega)]
        rw [precTab_get ops i j hj] at h2
        exact h2

theorem drawOk_of {ops : Array Oper} {m : Nat} (h : drawOkT ops m = true) : drawOk ops m = true := by
  simp only [drawOkT, drawOk, Bool.and_eq_true, List.all_eq_true, List.mem_range, Bool.or_eq_true, decide_eq_true_eq] at h ⊢
  refine ⟨h.1, fun i hi k hk => ?_⟩
  rcases (h.2 i hi).2 k hk with h1 | h1
  · left
    rw [List.contains_iff_mem]
    exact precTab_sound ops (fun i hi => (h.2 i hi).1) i hi k ops.size (by omega) h1
  · exact .inr h1
end Go.Aw

/- Layer 17 (seven): definitions by their labels, what the program says of them and what the specification. No program is named. -/
namespace Go.Aw
open Go
section
variable {p f : D}
variable (R : Right p)
include R
theorem Right.find_map : (Aw.rdefs p).find? (fun d => deq d.lab f) = (p.kids.find? fun d => deq d.head f).map toDf := by
  rw [R.rdefs]
  have key : ∀ l : List D, (∀ d, d ∈ l → d ∈ p.kids) → (l.map toDf).find? (fun d => deq d.lab f) = (l.find? fun d => deq d.head f).map toDf := by
    intro l
    induction l with
    | nil => intro _; rfl
    | cons y l ih =>
      intro hl
      obtain ⟨x0, x1, x2, ns, hkk, hn, ht, hh, _⟩ := R.df (hl y (by simp))
      rw [List.map_cons, List.find?_cons, List.find?_cons, ih fun d hd => hl d (by simp [hd])]
      have e : deq (toDf y).lab f = deq y.head f := by rw [ht, hh]
      rw [e]
      cases deq y.head f <;> rfl
  exact key _ fun _ h => h
theorem Right.find_none (h : Aw.findI (Aw.rdefs p) f < 0) : (findD p.kids f).2 = false := by
  have h1 := idxOf_neg h
  rw [R.find_map] at h1
  unfold findD
  cases he : p.kids.find? fun d => deq d.head f with
  | none => rfl
  | some y => rw [he] at h1; cases h1
theorem Right.find_some (h : ¬ Aw.findI (Aw.rdefs p) f < 0) : 0 ≤ Aw.findI (Aw.rdefs p) f ∧ ∃ y, y ∈ p.kids ∧ findD p.kids f = (y, true) ∧ (Aw.rdefs p)[(Aw.findI (Aw.rdefs p) f).toNat]? = some (toDf y) := by
  obtain ⟨h0, d, h1, h2⟩ := idxOf_get h
  rw [R.find_map] at h2
  refine ⟨h0, ?_⟩
  cases he : p.kids.find? fun d => deq d.head f with
  | none => rw [he] at h2; cases h2
  | some y =>
    rw [he] at h2
    cases h2
    exact ⟨y, List.mem_of_find?_eq_some he, by unfold findD; rw [he], h1⟩
end
end Go.Aw

/- Layer 17's specification (eight): other labels, canonical forms, programs as data. No program is named. -/
namespace Go.Aw
open Go
/-! ### the index of a label -/
def dfD (d : Df) : D := dlist [d.lab, symsD d.ps, d.bod]
def progD (l : List Df) : D := dlist (l.map dfD)
end Go.Aw

/- Layer 17 (nine): joined programs, by the specification. No program is named. -/
namespace Go.Aw
open Go
/-! ### definitions as data are themselves -/
theorem formed_list {d : D} (h : formed d = true) (hk : d.kind = 3) : d.num = 0 ∧ d.text = es := by
  rw [formed_eq, if_neg (by rw [hk]; decide), if_neg (by rw [hk]; decide), if_pos (by rw [hk]; rfl)] at h
  simp only [Bool.and_eq_true, beq_iff_eq, decide_eq_true_eq] at h
  exact ⟨h.1.1, h.1.2⟩
theorem dlist_of {d : D} (h : formed d = true) (hk : d.kind = 3) : dlist d.kids = d := by
  obtain ⟨h1, h2⟩ := formed_list h hk
  exact D.ext' hk.symm h1.symm h2.symm rfl
theorem dsym_of {d : D} (h : formed d = true) (hk : d.kind = 2) : dsym d.text = d := by
  obtain ⟨h1, h2, _⟩ := formed_sym h hk
  exact D.ext' hk.symm h1.symm rfl h2.symm
theorem namesGo_kinds : ∀ {l : List D} {acc ns : List ByteArray}, namesGo acc l = some ns → ∀ x, x ∈ l → isName x = true
  | [], acc, ns, _, x, hx => by simp at hx
  | y :: l, acc, ns, h, x, hx => by
    rw [namesGo] at h
    split at h
    · cases h
    · rename_i hy
      split at h
      · cases h
      · rcases List.mem_cons.1 hx with rfl | hx
        · simpa using hy
        · exact namesGo_kinds h x hx
theorem names_some {d : D} {ns : List ByteArray} (h : names d = some ns) : d.kind = 3 ∧ (∀ x, x ∈ d.kids → x.kind = 2) := by
  unfold names at h
  split at h
  · cases h
  · rename_i hk
    refine ⟨by simpa using hk, fun x hx => ?_⟩
    have := namesGo_kinds h x hx
    unfold isName at this
    simp only [Bool.and_eq_true, beq_iff_eq] at this
    exact this.1
theorem symsD_of {d : D} {ns : List ByteArray} (hf : formed d = true) (h : names d = some ns) : symsD ns = d := by
  obtain ⟨hk, hkk⟩ := names_some h
  rw [names_texts h]
  unfold symsD textsL
  rw [List.map_map]
  have : d.kids.map (dsym ∘ D.text) = d.kids := by
    conv => rhs; rw [← List.map_id d.kids]
    exact List.map_congr_left fun x hx => dsym_of (formed_kids hf hx) (hkk x hx)
  rw [this]
  exact dlist_of hf hk
section
variable {p d : D} (R : Right p)
include R
theorem Right.dfD (hd : d ∈ p.kids) : Aw.dfD (toDf d) = d := by
  obtain ⟨x0, x1, x2, ns, hk, hk3, _, hn, _⟩ := R.def hd
  have hf := formed_kids R.formed hd
  have hs := symsD_of (formed_kids hf (by rw [hk]; simp)) hn
  rw [toDf_of hk hn]
  show dlist [x0, symsD ns, x2] = d
  rw [hs, ← hk]
  exact dlist_of hf hk3
end
theorem progD_of {l : List D} (h : ∀ d, d ∈ l → dfD (toDf d) = d) : progD (l.map toDf) = dlist l := by
  unfold progD
  rw [List.map_map]
  have : l.map (dfD ∘ toDf) = l := by
    conv => rhs; rw [← List.map_id l]
    exact List.map_congr_left fun x hx => h x hx
  rw [this]

/-! ### joined programs -/
def jdf (p q : D) (k : Nat) : List Df := (joinK p q.kids k).1.map toDf
theorem jdf_len {p q : D} {k : Nat} (h : k ≤ q.kids.length) : (jdf p q k).length ≤ p.kids.length + k := by unfold jdf; rw [List.length_map]; exact joinK_len h
section
variable {p q x : D} {k : Nat} (R : Right p) (S : Right q)
theorem Right.rdefs_len (R : Right p) : (Aw.rdefs p).length = p.kids.length := by rw [R.rdefs, List.length_map]
theorem Right.rdefs_get (R : Right p) (h : p.kids[k]? = some x) : (Aw.rdefs p)[k]? = some (toDf x) := by rw [R.rdefs, List.getElem?_map, h]; rfl
theorem jdf_zero (R : Right p) : jdf p q 0 = rdefs p := by unfold jdf; rw [joinK_zero, R.rdefs]
theorem jdf_new (R : Right p) (hx : q.kids[k]? = some x) (h : findI (rdefs p) x.head < 0) : jdf p q (k + 1) = jdf p q k ++ [toDf x] := by
  unfold jdf
  rw [joinK_next hx, joinStep_new (R.find_none h)]
  simp
theorem jdf_old (R : Right p) (hx : q.kids[k]? = some x) (h : ¬ findI (rdefs p) x.head < 0) : jdf p q (k + 1) = jdf p q k := by
  obtain ⟨_, y, hy, hf, _⟩ := R.find_some h
  have h2 : (findD p.kids x.head).2 = true := by rw [hf]
  unfold jdf
  rw [joinK_next hx]
  cases hc : (((d1 (findD p.kids x.head).1.kids).kids.length : Int) != (d1 x.kids).kids.length) with
  | true => rw [joinStep_apart h2 hc]
  | false => rw [joinStep_same h2 hc]
include R S in
theorem join_progD : progD (jdf p q q.kids.length) = joinD p q := by
  have hk : (joinK p q.kids q.kids.length).1 = (joinL p q).1 := by rw [joinK_all]
  unfold jdf
  rw [hk, progD_of]
  · have h1 := formed_list R.formed (heads_ok R.heads).2.1
    exact D.ext' (heads_ok R.heads).2.1.symm h1.1.symm h1.2.symm rfl
  · intro d hd
    rw [joinL_eq] at hd
    simp only [List.mem_append, List.mem_filter] at hd
    rcases hd with hd | ⟨hd, _⟩
    · exact R.dfD hd
    · exact S.dfD hd
theorem apart_no (h : findI (rdefs p) x.head < 0) (R : Right p) : apartB p x = false := by unfold apartB foundB; rw [R.find_none h]; rfl
theorem apart_is (R : Right p) (S : Right q) (hx : x ∈ q.kids) {y : D} (hy : y ∈ p.kids) (hf : findD p.kids x.head = (y, true)) : apartB p x = (((toDf y).ps.length : Int) != (toDf x).ps.length) := by
  obtain ⟨x0, x1, x2, ns, hk, hn, ht, _⟩ := S.df hx
  obtain ⟨y0, y1, y2, ms, hk', hn', ht', _⟩ := R.df hy
  unfold apartB foundB
  rw [hf, ht, ht']
  show (true && (((d1 y.kids).kids.length : Int) != (d1 x.kids).kids.length)) = ((ms.length : Int) != ns.length)
  rw [Bool.true_and, show d1 y.kids = y1 by rw [hk']; rfl, show d1 x.kids = x1 by rw [hk]; rfl, names_len hn, names_len hn']
end
theorem joinL_apart (p q : D) : (joinL p q).2 = q.kids.any (apartB p) := by rw [joinL_eq]
theorem jdf_all_len (p q : D) : (jdf p q q.kids.length).length = (joinL p q).1.length := by unfold jdf; rw [List.length_map, joinK_all]
end Go.Aw
namespace Go.Aw
open Go
theorem jdf_small {p q : D} (R : Right p) (S : Right q) : ∀ x, x ∈ jdf p q q.kids.length → x.ps.length ≤ 1000000000 := by
  intro x hx
  unfold jdf at hx
  rw [joinK_all, joinL_eq] at hx
  obtain ⟨d, hd, rfl⟩ := List.mem_map.1 hx
  simp only [List.mem_append, List.mem_filter] at hd
  rcases hd with hd | ⟨hd, _⟩
  · obtain ⟨x0, x1, x2, ns, _, _, ht, _, _, _, h8⟩ := R.df hd
    rw [ht]; show ns.length ≤ _; omega
  · obtain ⟨x0, x1, x2, ns, _, _, ht, _, _, _, h8⟩ := S.df hd
    rw [ht]; show ns.length ≤ _; omega
end Go.Aw

/- Layer 17 (ten): what is reached is closed; the specification's canonical form is the program's. No program is named. -/
namespace Go.Aw
open Go
/-! ### what is reached is closed under calls -/
section
variable {p x f : D} (R : Right p)
include R
end
/-! ### where labels stand -/
section
variable {p x : D} (R : Right p)
include R
end
end Go.Aw
namespace Go.Aw
open Go
section
variable {p : D} (R : Right p)
include R
theorem Right.fcanon : Aw.fcanon p = (canonD p, 0) := by unfold Aw.fcanon; rw [if_neg (by rw [R.no]; decide)]
end
theorem fjoin_bad1 {x : D} (y : D) (h : (fcheck x == 0) = false) : fjoin x y = (dnone, fcheck x) := by
  unfold fjoin; rw [if_pos (by simpa using h)]
theorem fjoin_bad2 {x y : D} (R : Right x) (h : (fcheck y == 0) = false) : fjoin x y = (dnone, fcheck y) := by
  unfold fjoin; rw [if_neg (by rw [R.no]; decide), if_pos (by simpa using h)]
end Go.Aw

/- From the row's reading of memory to abstract values, and back: data, slices, laid tables; what the row says behind a call that has turned nothing old. No program is named. -/
namespace Go.Aw
open Go Go.ChangeShapes Go.WideShapes Go.ChangeAt Go.WideMaps Go.WideElems Go.RowKit
theorem exists_list {α : Type} {Q : Nat → α → Prop} : ∀ n : Nat, (∀ i, i < n → ∃ d, Q i d) → ∃ l : List α, l.length = n ∧ ∀ i x, l[i]? = some x → Q i x
  | 0, _ => ⟨[], rfl, fun i x h => by simp at h⟩
  | n + 1, h => by
    obtain ⟨l, h1, h2⟩ := exists_list n (fun i hi => h i (by omega))
    obtain ⟨d, hd⟩ := h n (by omega)
    refine ⟨l ++ [d], by simp [h1], fun i x hx => ?_⟩
    rcases getElem?_snoc hx with hx | ⟨rfl, rfl⟩
    · exact h2 i x hx
    · rw [h1]; exact hd

theorem rp_slice_of {B : Nat} {S : Nat → Nat → Prop} {w : World} {a : Addr} {len cap sz : Nat} {xs : List PV} (hlen : xs.length = len) (hcap : len ≤ cap) (hb : a.block < B) (h0 : 0 < sz) (hsz : ∀ x, x ∈ xs → x.cells.length = sz)
    (h : ∀ (q : Nat) x, xs[q]? = some x → ∃ cs : List Value, cs.length = sz ∧ (∀ r, r < sz → w.cell? ((a.add (q * sz)).add r) = cs[r]?) ∧ (∀ v, v ∈ cs → v.oneCell' = true) ∧ ∀ (r : Nat) y v, x.cells[r]? = some y → cs[r]? = some v → RP B S w y v) :
    RP B S w (.slice xs) (.slice (some a) len cap) := by
  by_cases hl : xs = []
  · subst hl; simp at hlen; subst hlen; exact .empty
  have hspot : a.spot = none := by
    obtain ⟨x, r, hx⟩ := kids_cons hl
    obtain ⟨cs, h1, h2, _⟩ := h 0 x (by rw [hx]; rfl)
    have h3 := h2 0 h0
    rw [Nat.zero_mul, Addr.add, if_pos rfl, Addr.add, if_pos rfl] at h3
    have h4 : cs[0]? = some cs[0] := by simp
    rw [h4] at h3
    unfold World.cell? at h3
    cases hs : a.spot with
    | none => rfl
    | some s =>
      rw [hs] at h3
      split at h3 <;> simp at h3
  have hadd : ∀ n, a.add n = ⟨a.block, a.off + n, none⟩ := by
    intro n
    unfold Addr.add
    split
    · subst_vars; cases a; simp only at hspot; subst hspot; rfl
    · rfl
  have hadd2 : ∀ n m, (a.add n).add m = ⟨a.block, a.off + (n + m), none⟩ := by
    intro n m
    rw [hadd]
    unfold Addr.add
    split
    · subst_vars; rfl
    · show (⟨a.block, a.off + n + m, none⟩ : Addr) = _
      rw [Nat.add_assoc]
  have ha : a = ⟨a.block, a.off, none⟩ := by cases a; simp only at hspot; subst hspot; rfl
  have hall : ∀ i, i < len * sz → ∃ (q r : Nat) (x : PV) (cs : List Value), i = q * sz + r ∧ r < sz ∧ xs[q]? = some x ∧ cs.length = sz ∧ w.cell? ⟨a.block, a.off + i, none⟩ = cs[r]? ∧ (∀ v, v ∈ cs → v.oneCell' = true) ∧ ∀ (r : Nat) y v, x.cells[r]? = some y → cs[r]? = some v → RP B S w y v := by
    intro i hi
    have hq : i / sz < len := Nat.div_lt_of_lt_mul (by rw [Nat.mul_comm]; exact hi)
    have hr : i % sz < sz := Nat.mod_lt _ h0
    have hx : xs[i / sz]? = some xs[i / sz] := by simp [hlen, hq]
    obtain ⟨cs, h1, h2, h3, h4⟩ := h _ _ hx
    have h5 := h2 (i % sz) hr
    have he : i / sz * sz + i % sz = i := by rw [Nat.mul_comm]; exact Nat.div_add_mod i sz
    rw [hadd2, he] at h5
    exact ⟨i / sz, i % sz, _, cs, he.symm, hr, hx, h1, h5, h3, h4⟩
  rw [ha, ← hlen]
  refine RP.slice (sz := sz) (vs := (List.range (len * sz)).map fun j => (w.cell? ⟨a.block, a.off + j, none⟩).getD (.int .i64 0)) hsz (by simp [hlen]) (by omega) (fun i v hv => ?_) (fun i y v hy hv => ?_)
  · have hi : i < len * sz := by have := (List.getElem?_eq_some_iff.1 hv).1; simpa using this
    obtain ⟨q, r, x, cs, h1, h2, h3, h4, h5, h6, h7⟩ := hall i hi
    have h8 : cs[r]? = some cs[r] := by simp [h4, h2]
    rw [h8] at h5
    simp only [List.getElem?_map, List.getElem?_range hi, Option.map_some, Option.some.injEq, h5, Option.getD_some] at hv
    subst hv
    exact ⟨.inl hb, h5, h6 _ (List.getElem_mem _)⟩
  · have hi : i < len * sz := by have := (List.getElem?_eq_some_iff.1 hv).1; simpa using this
    obtain ⟨q, r, x, cs, h1, h2, h3, h4, h5, h6, h7⟩ := hall i hi
    have h8 : cs[r]? = some cs[r] := by simp [h4, h2]
    rw [h8] at h5
    simp only [List.getElem?_map, List.getElem?_range hi, Option.map_some, Option.some.injEq, h5, Option.getD_some] at hv
    subst hv
    rw [h1, flat_get hsz h3 h2] at hy
    exact h7 r y _ hy h8

/-! ### data -/
structure DatumTy (P : Program) (tD tK ti tn ts : TypeId) : Prop where
  und : ∃ f0 f1 f2 f3 : Field, P.underlying tD = some (.struct #[f0, f1, f2, f3]) ∧ f0.type = ti ∧ f0.offset = 0 ∧ f1.type = tn ∧ f1.offset = 1 ∧ f2.type = ts ∧ f2.offset = 2 ∧ f3.type = tK ∧ f3.offset = 3
  i : P.underlying ti = some (.int .i64)
  n : P.underlying tn = some (.int .i64)
  s : P.underlying ts = some .string
  k : P.underlying tK = some (.slice tD)
  cD : P.cellsOf tD = 4
  ci : P.cellsOf ti = 1
  cn : P.cellsOf tn = 1
  cs : P.cellsOf ts = 1
  ck : P.cellsOf tK = 1

theorem one_of {α : Type} {l : List α} {i : Nat} {a : α} (h : (l.drop i).take 1 = [a]) : l[i]? = some a := by
  have h1 : ((l.drop i).take 1)[0]? = some a := by rw [h]; rfl
  rw [List.getElem?_take, List.getElem?_drop] at h1
  simpa using h1

section
variable {H : Type} {enc' : TypeId × Value → H} {P : Program} {w : World} {base : Nat} {spare : Nat → Bool} {held : Bool} {tD tK ti tn ts : TypeId} {S : Nat → Nat → Prop}
theorem open_datum (T : DatumTy P tD tK ti tn ts) : ∀ (fuel : Nat) (cs : List Value) (x : DataW H × List MemPlace), DataW.trod enc' P w base spare held fuel tD cs = some x →
    ∃ (d : D) (v : Value), cs = [.int .i64 d.kind, .int .i64 d.num, .string d.text, v] ∧ v.oneCell' = true ∧ RP w.heap.size S w (.slice (d.kids.map enc)) v := by
  intro fuel
  induction fuel using Nat.strongRecOn with
  | _ fuel ih =>
    intro cs x h
    obtain ⟨f0, f1, f2, f3, hu, t0, o0, t1, o1, t2, o2, t3, o3⟩ := T.und
    obtain ⟨xs, n, rfl, rfl, hl, hlen, hf⟩ := DataW.trod_struct hu h
    have hxl : xs.length = 4 := by simpa using hlen
    have g0 := hf 0 f0 rfl
    have g1 := hf 1 f1 rfl
    have g2 := hf 2 f2 rfl
    have g3 := hf 3 f3 rfl
    rw [t0, o0, T.ci] at g0
    rw [t1, o1, T.cn] at g1
    rw [t2, o2, T.cs] at g2
    rw [t3, o3, T.ck] at g3
    have s0 : xs[0]? = some xs[0] := by simp
    have s1 : xs[1]? = some xs[1] := by simp
    have s2 : xs[2]? = some xs[2] := by simp
    have s3 : xs[3]? = some xs[3] := by simp
    rw [s0] at g0
    rw [s1] at g1
    rw [s2] at g2
    rw [s3] at g3
    obtain ⟨k, e0, _, _⟩ := DataW.trod_int T.i g0
    obtain ⟨m, e1, _, _⟩ := DataW.trod_int T.n g1
    obtain ⟨t, e2, _, _⟩ := DataW.trod_string T.s g2
    have a0 := one_of e0
    have a1 := one_of e1
    have a2 := one_of e2
    rw [T.cD] at hl
    have hcs : ∃ v, cs = [.int .i64 k, .int .i64 m, .string t, v] := by
      match cs, hl, a0, a1, a2 with
      | [c0, c1, c2, c3], _, a0, a1, a2 =>
        simp only [List.getElem?_cons_zero, List.getElem?_cons_succ, Option.some.injEq] at a0 a1 a2
        exact ⟨c3, by rw [a0, a1, a2]⟩
    obtain ⟨v, hcs⟩ := hcs
    rw [hcs] at g3
    have g3' : DataW.trod enc' P w base spare held n tK [v] = some xs[3] := g3
    rcases DataW.trod_slice T.k g3' with ⟨hv, _⟩ | ⟨a, len, cap, elems, rest, m', rfl, hv, _, hb, hlc, hcm, hel, hes, _⟩
    · cases hv
      exact ⟨.mk k m t [], _, hcs, rfl, by simp only [D.kids, List.map_nil]; exact .empty⟩
    · cases hv
      rw [T.cD] at hes
      have hex : ∀ i, i < len → ∃ d : D, ∃ v' : Value, (∀ r, r < 4 → w.cell? ((a.add (i * 4)).add r) = ([.int .i64 d.kind, .int .i64 d.num, .string d.text, v'] : List Value)[r]?) ∧ v'.oneCell' = true ∧ RP w.heap.size S w (.slice (d.kids.map enc)) v' := by
        intro i hi
        have h1 := hes i hi
        have h2 : elems[i]? = some elems[i] := by simp [hel, hi]
        rw [h2] at h1
        obtain ⟨cs', hc, ht⟩ := Option.bind_eq_some_iff.1 h1
        obtain ⟨_, _, hc2⟩ := World.cells?_some hc
        obtain ⟨d, v', he, hone, hrp⟩ := ih m' (by omega) cs' _ ht
        subst he
        exact ⟨d, v', hc2, hone, hrp⟩
      obtain ⟨l, hll, hlq⟩ := exists_list len hex
      refine ⟨.mk k m t l, _, hcs, rfl, ?_⟩
      show RP w.heap.size S w (.slice (l.map enc)) (.slice (some a) len cap)
      by_cases hlen0 : len = 0
      · subst hlen0
        have : l = [] := List.eq_nil_of_length_eq_zero hll
        subst this
        exact .empty
      have hblk : a.block < w.heap.size := by
        obtain ⟨d, v', h1, _⟩ := hex 0 (by omega)
        have h2 := h1 0 (by omega)
        rw [Nat.zero_mul, Addr.add, if_pos rfl, Addr.add, if_pos rfl] at h2
        unfold World.cell? at h2
        by_cases hlt : a.block < w.heap.size
        · exact hlt
        · rw [Array.getElem?_eq_none (by omega)] at h2; simp at h2
      refine rp_slice_of (sz := 4) (by simp [hll]) hlc hblk (by omega) (fun x hx => ?_) (fun q x hx => ?_)
      · obtain ⟨d, _, rfl⟩ := List.mem_map.1 hx
        rw [enc_cells]; rfl
      · rw [List.getElem?_map] at hx
        obtain ⟨d, hd, rfl⟩ := Option.map_eq_some_iff.1 hx
        obtain ⟨v', h1, h2, h3⟩ := hlq q d hd
        refine ⟨[.int .i64 d.kind, .int .i64 d.num, .string d.text, v'], rfl, h1, fun u hu => ?_, fun r y u hy hu => ?_⟩
        · simp only [List.mem_cons, List.not_mem_nil, or_false] at hu
          rcases hu with rfl | rfl | rfl | rfl <;> first | rfl | exact h2
        · rw [enc_cells] at hy
          match r with
          | 0 => simp at hy hu; subst hy hu; exact .int
          | 1 => simp at hy hu; subst hy hu; exact .int
          | 2 => simp at hy hu; subst hy hu; exact .str
          | 3 => simp at hy hu; subst hy hu; exact h3
          | r + 4 => simp at hy
end
end Go.Aw

/- Laid tables as abstract values; the beginning of a call; what the row says behind it. No program is named. -/
namespace Go.Aw
open Go Go.ChangeShapes Go.WideShapes Go.ChangeAt Go.WideMaps Go.WideElems Go.RowKit
theorem insert_perm {H : Type} (x : Lit × DataW H) : ∀ l : List (Lit × DataW H), (DataW.insert x l).Perm (x :: l)
  | [] => .refl _
  | y :: r => by
    unfold DataW.insert
    split
    · exact .refl _
    · exact ((insert_perm x r).cons y).trans (.swap _ _ _)
theorem foldr_insert_perm {H : Type} : ∀ l : List (Lit × DataW H), (l.foldr DataW.insert []).Perm l
  | [] => .refl _
  | x :: l => (insert_perm x _).trans ((foldr_insert_perm l).cons x)

def strPV (s : List UInt8) : PV := .str ⟨s.toArray⟩
def litStr : Lit → List UInt8
  | .string s => s
  | _ => []

section
variable {H : Type} {enc' : TypeId × Value → H} {P : Program} {w : World} {base : Nat} {sp : Nat → Bool} {held : Bool} {S : Nat → Nat → Prop} {t k e : TypeId} {fuel : Nat} {cs : List Value} {ps : List MemPlace}
theorem open_set (ht : P.underlying t = some (.map k e)) (hks : P.underlying k = some .string) (he : P.underlying e = some .bool) {names : List (List UInt8)}
    (h : DataW.trod enc' P w base sp held fuel t cs = some (.map (names.map fun s => (.string s, .lit (.bool true))), ps)) :
    ∃ (b : Nat) (l : List (List UInt8)), cs = [.map (some b)] ∧ l.Perm names ∧ RP w.heap.size S w (.map (l.map strPV) (l.map fun _ => .bool true)) (.map (some b)) := by
  rcases WideElems.open_map ht h with ⟨_, hx⟩ | ⟨b, es, clock, n, rfl, rfl, hb, _, F, hx⟩
  · cases hx
  simp only [Prod.mk.injEq, DataW.map.injEq] at hx
  have hperm := foldr_insert_perm (es.toList.map (rg P k (elemAt enc' P w base sp held n e)))
  rw [← hx.1] at hperm
  refine ⟨b, (es.toList.map (rg P k (elemAt enc' P w base sp held n e))).map fun y => litStr y.1, rfl, ?_, ?_⟩
  · have h2 := (hperm.map fun y : Lit × DataW H => litStr y.1).symm
    have e1 : ((names.map fun s => ((Lit.string s, DataW.lit (.bool true)) : Lit × DataW H)).map fun y : Lit × DataW H => litStr y.1) = names := by
      rw [List.map_map]
      exact List.map_id _
    rw [e1] at h2
    exact h2
  have hent : ∀ x, x ∈ es.toList → ∃ s : ByteArray, x.key = .string s ∧ x.val = .bool true ∧ litStr (rg P k (elemAt enc' P w base sp held n e) x).1 = s.data.toList := by
    intro x hxm
    obtain ⟨y, hy⟩ := F.reads x hxm
    have hrg : rg P k (elemAt enc' P w base sp held n e) x = y := rg_of hy
    have hmem : y ∈ names.map fun s => ((Lit.string s, DataW.lit (.bool true)) : Lit × DataW H) := by
      have : y ∈ es.toList.map (rg P k (elemAt enc' P w base sp held n e)) := List.mem_map.2 ⟨x, hxm, hrg⟩
      exact hperm.mem_iff.2 this
    obtain ⟨s, _, hs⟩ := List.mem_map.1 hmem
    subst hs
    have hkey := rd_key hy
    obtain ⟨z, hz, hz2⟩ := rd_val hy
    obtain ⟨bb, hv, hz3⟩ := elemAt_bool he hz
    rw [keyOf_string hks] at hkey
    have hk2 : ∃ s' : ByteArray, x.key = .string s' ∧ s'.data.toList = s := by
      unfold mapKey at hkey
      rw [hks] at hkey
      split at hkey <;> simp_all
    obtain ⟨s', h1, h2⟩ := hk2
    refine ⟨s', h1, ?_, by rw [hrg, h2]; rfl⟩
    rw [hz3] at hz2
    simp only [DataW.lit.injEq, Lit.bool.injEq] at hz2
    rw [hv, ← hz2]
  have hblt : b < w.heap.size := by
    by_cases hlt : b < w.heap.size
    · exact hlt
    · rw [Array.getElem?_eq_none (by omega)] at hb; cases hb
  refine RP.map (es := es.toList) (clock := clock) hblt (by rw [hb]) (by simp) (by simp) (fun i x en hx hen => ?_) (fun i x en hx hen => ?_)
  · simp only [List.map_map, List.getElem?_map, hen, Option.map_some, Option.some.injEq] at hx
    obtain ⟨s, h1, _, h3⟩ := hent en (List.mem_of_getElem? hen)
    subst hx
    simp only [Function.comp, strPV, h3, h1]
    have : (⟨s.data.toList.toArray⟩ : ByteArray) = s := by simp
    rw [this]; exact .str
  · simp only [List.map_map, List.getElem?_map, hen, Option.map_some, Option.some.injEq, Function.comp] at hx
    obtain ⟨s, _, h2, _⟩ := hent en (List.mem_of_getElem? hen)
    subst hx
    rw [h2]; exact .bool

/-- A table of names and numbers. -/
theorem open_table {f0 f1 : Field} (ht : P.underlying t = some (.slice e)) (he : P.underlying e = some (.struct #[f0, f1])) (hf0 : P.underlying f0.type = some .string) (hf1 : P.underlying f1.type = some (.int .i64)) (o0 : f0.offset = 0) (o1 : f1.offset = 1)
    (c0 : P.cellsOf f0.type = 1) (c1 : P.cellsOf f1.type = 1) (ce : P.cellsOf e = 2) {L : List (List UInt8 × Int)} {r : List (DataW H)}
    (h : DataW.trod enc' P w base sp held fuel t cs = some (.slice (L.map fun p => .agg [.lit (.string p.1), .lit (.int .i64 p.2)]) r, ps)) :
    ∃ v, cs = [v] ∧ v.oneCell' = true ∧ RP w.heap.size S w (.slice (L.map fun p => .agg [strPV p.1, .int .i64 p.2])) v := by
  rcases DataW.trod_slice ht h with ⟨_, hx⟩ | ⟨a, len, cap, elems, rest, m, rfl, rfl, hx, hb, hlc, hcm, hel, hes, _⟩
  · cases hx
  simp only [Prod.mk.injEq, DataW.slice.injEq] at hx
  have hLl : L.length = len := by
    have := congrArg List.length hx.1.1
    simpa [hel] using this
  refine ⟨_, rfl, rfl, ?_⟩
  by_cases hL : L = []
  · subst hL; simp at hLl; subst hLl; exact .empty
  rw [ce] at hes
  have key : ∀ (i : Nat) (p : List UInt8 × Int), L[i]? = some p → ∃ s : ByteArray, s.data.toList = p.1 ∧ ∀ j, j < 2 → w.cell? ((a.add (i * 2)).add j) = ([.string s, .int .i64 p.2] : List Value)[j]? := by
    intro i p hp
    have hi : i < len := by rw [← hLl]; exact (List.getElem?_eq_some_iff.1 hp).1
    have h1 := hes i hi
    have h2 : elems[i]? = some elems[i] := by simp [hel, hi]
    rw [h2] at h1
    obtain ⟨cs', hc, hstr⟩ := Option.bind_eq_some_iff.1 h1
    obtain ⟨_, hcl, hc2⟩ := World.cells?_some hc
    obtain ⟨xs, n, rfl, hxe, hl, hlen, hf⟩ := DataW.trod_struct he hstr
    have hxl : xs.length = 2 := by simpa using hlen
    have g0 := hf 0 f0 rfl
    have g1 := hf 1 f1 rfl
    rw [o0, c0] at g0
    rw [o1, c1] at g1
    have s0 : xs[0]? = some xs[0] := by simp
    have s1 : xs[1]? = some xs[1] := by simp
    rw [s0] at g0
    rw [s1] at g1
    obtain ⟨st, e0, x0, _⟩ := DataW.trod_string hf0 g0
    obtain ⟨q, e1, x1, _⟩ := DataW.trod_int hf1 g1
    have a0 := one_of e0
    have a1 := one_of e1
    have hval : elems[i].1 = .agg [.lit (.string p.1), .lit (.int .i64 p.2)] := by
      have h3 : (elems.map (·.1))[i]? = some elems[i].1 := by rw [List.getElem?_map, h2]; rfl
      rw [← hx.1.1, List.getElem?_map, hp] at h3
      simpa using h3.symm
    have hxs : xs = [xs[0], xs[1]] := by
      refine List.ext_getElem (by simp [hxl]) (fun j h1 h2 => ?_)
      match j with
      | 0 => rfl
      | 1 => rfl
      | j + 2 => simp only [List.length_cons, List.length_nil] at h2; omega
    rw [hxe, hxs] at hval
    simp only [List.map_cons, List.map_nil, DataW.agg.injEq, List.cons.injEq, x0, x1, DataW.lit.injEq, Lit.string.injEq, Lit.int.injEq, and_true, true_and] at hval
    have hcs : cs' = [.string st, .int .i64 q] := by
      match cs', hcl, a0, a1 with
      | [u, v], _, a0, a1 =>
        simp only [List.getElem?_cons_zero, List.getElem?_cons_succ, Option.some.injEq] at a0 a1
        rw [a0, a1]
    rw [hcs, hval.2] at hc2
    exact ⟨st, hval.1, hc2⟩
  have hblk : a.block < w.heap.size := by
    obtain ⟨p, r, hp⟩ := kids_cons hL
    obtain ⟨s, _, h1⟩ := key 0 p (by rw [hp]; rfl)
    have h2 := h1 0 (by omega)
    rw [Nat.zero_mul, Addr.add, if_pos rfl, Addr.add, if_pos rfl] at h2
    unfold World.cell? at h2
    by_cases hlt : a.block < w.heap.size
    · exact hlt
    · rw [Array.getElem?_eq_none (by omega)] at h2; simp at h2
  refine rp_slice_of (sz := 2) (by simp [hLl]) hlc hblk (by omega) (fun x hx => ?_) (fun q x hx => ?_)
  · obtain ⟨p, _, rfl⟩ := List.mem_map.1 hx
    rfl
  · rw [List.getElem?_map] at hx
    obtain ⟨p, hp, rfl⟩ := Option.map_eq_some_iff.1 hx
    obtain ⟨s, h1, h2⟩ := key q p hp
    refine ⟨_, rfl, h2, fun u hu => ?_, fun r y u hy hu => ?_⟩
    · simp only [List.mem_cons, List.not_mem_nil, or_false] at hu
      rcases hu with rfl | rfl <;> rfl
    · match r with
      | 0 =>
        simp [PV.cells] at hy hu; subst hy hu
        unfold strPV
        have : (⟨p.1.toArray⟩ : ByteArray) = s := by rw [← h1]
        rw [this]; exact .str
      | 1 => simp [PV.cells] at hy hu; subst hy hu; exact .int
      | r + 2 => simp [PV.cells] at hy
end
/-! ### the beginning and the end of a call -/
def g0 (W : World) : Ghost := { B := W.heap.size, K := fun _ => False, S := fun _ _ => False, io := [], lam := [], tb := [] }
theorem inv0 {W : World} {gl : List (Nat × PV)} (h : ∀ n p, (n, p) ∈ gl → RP W.heap.size (fun _ _ => False) W p (.pointer (some ⟨n, 0, none⟩))) : Inv (g0 W) ⟨gl, [], []⟩ [] W := by
  refine ⟨rfl, rfl, rfl, h, List.nodup_nil, fun b hb => (by simp [g0, Ghost.owned] at hb), fun b hb => (by cases hb), Nat.le_refl _, fun b o hS => (by cases hS), fun o ob b ho => (by simp at ho), fun i cs b hL => (by simp at hL), fun k t tb ht => (by simp at ht)⟩
theorem below_of {W W' : World} {σ σ' : Store} {g' : Ghost} (h : Ext (g0 W) σ W g' σ' W') : Below W.heap.size W W' :=
  ⟨h.os, h.tape, h.output, h.size, fun k hk => h.le.keeps.blk k hk⟩

section
variable {H : Type} {enc' : TypeId × Value → H} {P : Program}
theorem post_of_below {f : Func} {s : ChangeSpec} {apart fresh handsOn again : Bool} {W W' : World} {args : Array Value} {v : Value} {ds gs : List (DataW H)} {before pa pv : List MemPlace}
    (hW : DataW.Whole enc' P f.params.toList s.vars apart W args.toList ds gs before)
    (hres : ∀ (b : Nat) (sp : Nat → Bool) (hd : Bool), DataW.TrodAll enc' P W' b sp hd f.resultTypes.toList (v.resultList f.resultTypes.size) (s.fn H (ds ++ gs)).results [])
    (hargs : ∀ sp : Nat → Bool, (∀ p ∈ before, sp p.block = true) → DataW.TrodAll enc' P W' 0 sp true f.params.toList args.toList (s.fn H (ds ++ gs)).args pa)
    (hvars : ∀ sp : Nat → Bool, (∀ p ∈ before, sp p.block = true) → DataW.TrodVars enc' P W' sp s.vars (s.fn H (ds ++ gs)).vars pv)
    (hps : before = pa ++ pv) (hb : Below W.heap.size W W')
    (hok : ∀ (j : Nat) (t : TypeId) (r : Value), f.resultTypes[j]? = some t → (v.resultList f.resultTypes.size)[j]? = some r → Value.okWide P W' .any 0 t r) :
    s.post enc' P f apart fresh handsOn again W args v W' := by
  have hold : ∀ p ∈ before, (fun b => decide (b < W.heap.size)) p.block = true := fun p hp => by simpa using hW.lt p hp
  refine ⟨ds, gs, before, [], pa, pv, hW, hres _ _ _, hargs _ hold, hvars _ hold, hb.frame _, fun _ => ?_⟩
  have hlt := hW.lt
  obtain ⟨_, _, _, _, _, hz, hn⟩ := hW
  refine ⟨hok, _, _, ([] ++ pa) ++ pv, ⟨[] ++ pa, pv, trodAll_append (hargs _ (fun _ _ => rfl)) (hres _ _ _), hvars _ (fun _ _ => rfl), rfl, ?_, ?_⟩, ?_⟩
  · intro b off hp
    have hp' : MemPlace.cell b off ∈ before := by rw [hps]; simpa using hp
    have hl := hlt _ hp'
    rw [hb.frozen (p := ⟨b, off, none⟩) hl]
    exact hz b off hp'
  · intro ha
    have := hn ha
    rw [hps] at this
    simpa using this
  · intro p hp _
    rw [hps]
    simpa using hp
end
end Go.Aw

/- The laid tables of the packages node and prim. No program is named. -/
namespace Go.Aw
open Go
def resNames : List (List UInt8) := [[99, 97, 108, 108], [102, 110], [105, 102], [108, 101, 116], [113, 117, 111, 116, 101], [114, 101, 99], [115, 101, 113], [117, 112]]
def primNames : List (List UInt8 × Int) := primL.map fun p => (p.1.data.toList, p.2)
theorem kfind_any (x : PV) : ∀ ks : List PV, (kfind x ks).isSome = ks.any fun k => x.keq k
  | [] => rfl
  | k :: r => by
    rw [kfind, List.any_cons]
    cases x.keq k with
    | true => rfl
    | false => simp only [Bool.false_eq_true, if_false, Option.isSome_map, Bool.false_or]; exact kfind_any x r
theorem any_mem {α : Type} {l r : List α} (h : ∀ y, y ∈ l ↔ y ∈ r) (f : α → Bool) : l.any f = r.any f := by
  rw [Bool.eq_iff_iff, List.any_eq_true, List.any_eq_true]
  constructor
  · rintro ⟨y, h1, h2⟩; exact ⟨y, (h y).1 h1, h2⟩
  · rintro ⟨y, h1, h2⟩; exact ⟨y, (h y).2 h1, h2⟩
theorem resNames_mem (y : PV) : y ∈ resNames.map strPV ↔ y ∈ resK := by
  simp only [resNames, resK, strPV, List.map_cons, List.map_nil, List.mem_cons, List.not_mem_nil, or_false]
  constructor
  · rintro (rfl | rfl | rfl | rfl | rfl | rfl | rfl | rfl) <;> simp
  · rintro (rfl | rfl | rfl | rfl | rfl | rfl | rfl | rfl) <;> simp
def resO (l : List (List UInt8)) (h : l.Perm resNames) : ResO where
  l := l.map strPV
  len := by rw [List.length_map, h.length_eq]; rfl
  fit := by simp [strPV, KS.fits, KA.fits]
  find := fun x => by
    rw [kfind_any]
    unfold isRes
    rw [kfind_any]
    exact any_mem (fun y => by rw [← resNames_mem y, List.mem_map, List.mem_map]; constructor <;> (rintro ⟨s, h1, h2⟩; exact ⟨s, by first | exact h.mem_iff.1 h1 | exact h.mem_iff.2 h1, h2⟩)) _
theorem resV_of {l : List (List UInt8)} (h : l.Perm resNames) : (l.map fun _ => PV.bool true) = resV := by
  have hl : l.length = 8 := h.length_eq
  match l, hl with
  | [_, _, _, _, _, _, _, _], _ => rfl
theorem primV_of : (primNames.map fun p => PV.agg [strPV p.1, .int .i64 p.2]) = primL.map encPrim := by
  unfold primNames
  rw [List.map_map]
  refine List.map_congr_left fun p _ => ?_
  simp [strPV, encPrim]
/-- A variable of one cell. -/
theorem rp_var {B : Nat} {S : Nat → Nat → Prop} {w : World} {n : Nat} {p : PV} {v : Value} (hn : n < B) (hc : w.cell? ⟨n, 0, none⟩ = some v) (h1 : v.oneCell' = true) (hp : RP B S w p v) : RP B S w (.ptr [p]) (.pointer (some ⟨n, 0, none⟩)) := by
  refine RP.ptr (vs := [v]) rfl (fun i u hu => ?_) (fun i x u hx hu => ?_)
  · match i with
    | 0 => simp at hu; subst hu; exact ⟨.inl hn, by simpa using hc, h1⟩
    | i + 1 => simp at hu
  · match i with
    | 0 => simp at hx hu; subst hx hu; exact hp
    | i + 1 => simp at hx
theorem cell_lt {w : World} {n i : Nat} {v : Value} (h : w.cell? ⟨n, i, none⟩ = some v) : n < w.heap.size := by
  unfold World.cell? at h
  by_cases hlt : n < w.heap.size
  · exact hlt
  · rw [Array.getElem?_eq_none (by show w.heap.size ≤ n; omega)] at h; simp at h
/-- A datum that is handed over. -/
theorem open_agg {v : Value} {k n : Int} {t : ByteArray} {u : Value} (h : v.cells.toList = [.int .i64 k, .int .i64 n, .string t, u]) : v = .agg #[.int .i64 k, .int .i64 n, .string t, u] := by
  cases v with
  | agg cs => simp only [Value.cells] at h; rw [← Array.toArray_toList (xs := cs), h]
  | _ => simp [Value.cells] at h
theorem rp_datum {B : Nat} {S : Nat → Nat → Prop} {w : World} {d : D} {u : Value} (h1 : u.oneCell' = true) (h : RP B S w (.slice (d.kids.map enc)) u) : RP B S w (enc d) (.agg #[.int .i64 d.kind, .int .i64 d.num, .string d.text, u]) := by
  rw [enc_eq]
  refine RP.agg (vs := [.int .i64 d.kind, .int .i64 d.num, .string d.text, u]) rfl (fun v hv => ?_) (fun i x v hx hv => ?_)
  · simp only [List.mem_cons, List.not_mem_nil, or_false] at hv
    rcases hv with rfl | rfl | rfl | rfl <;> first | rfl | exact h1
  · match i with
    | 0 => simp at hx hv; subst hx hv; exact .int
    | 1 => simp at hx hv; subst hx hv; exact .int
    | 2 => simp at hx hv; subst hx hv; exact .str
    | 3 => simp at hx hv; subst hx hv; exact h
    | i + 4 => simp at hx
end Go.Aw
