/- Part of the proof that the statement holds for every input that its row lets in: an own logic of abstract values over the given model, and laws of data and programs; no program is named in it. -/
import Derived.Test.YtmpofjiokpeegaaGreatDoorZA3
import Derived.Test.YtmpofjiokpeegaaGreatDoorZA2
import Derived.ProofKit
import Derived.LaidMore
import Derived.OpenShut
import Derived.Stop.Joined
import Derived.LaidLaws
set_option linter.unusedSimpArgs false
set_option linter.unusedVariables false
/- A run that is told whole, from an empty store: what it gives is looked at. No program is named. -/
namespace Go.Aw
open Go
mutual
def peq : PV → PV → Bool
  | .slice xs, .slice ys => peqs xs ys
  | .agg xs, .agg ys => peqs xs ys
  | .ptr xs, .ptr ys => peqs xs ys
  | .int k n, .int j m => pvAtomEq (.int k n) (.int j m)
  | .bool a, .bool b => a == b
  | .str a, .str b => decide (a = b)
  | .nils, .nils => true
  | .nilp, .nilp => true
  | .nilif, .nilif => true
  | .nilmap, .nilmap => true
  | .nilfn, .nilfn => true
  | _, _ => false
def peqs : List PV → List PV → Bool
  | [], [] => true
  | x :: xs, y :: ys => peq x y && peqs xs ys
  | _, _ => false
end
mutual
theorem peq_eq : ∀ {a b : PV}, peq a b = true → a = b
  | .slice xs, b, h => by cases b <;> simp [peq] at h; rw [peqs_eq h]
  | .agg xs, b, h => by cases b <;> simp [peq] at h; rw [peqs_eq h]
  | .ptr xs, b, h => by cases b <;> simp [peq] at h; rw [peqs_eq h]
  | .int k n, b, h => by cases b <;> simp [peq] at h; exact pvAtomEq_eq h
  | .bool a, b, h => by cases b <;> simp [peq] at h; rw [h]
  | .str a, b, h => by cases b <;> simp [peq] at h; rw [h]
  | .nils, b, h => by cases b <;> simp [peq] at h; rfl
  | .nilp, b, h => by cases b <;> simp [peq] at h; rfl
  | .nilif, b, h => by cases b <;> simp [peq] at h; rfl
  | .nilmap, b, h => by cases b <;> simp [peq] at h; rfl
  | .nilfn, b, h => by cases b <;> simp [peq] at h; rfl
  | .iface t p, b, h => by cases b <;> simp [peq] at h
  | .map ks vs, b, h => by cases b <;> simp [peq] at h
  | .tab k zs, b, h => by cases b <;> simp [peq] at h
theorem peqs_eq : ∀ {a b : List PV}, peqs a b = true → a = b
  | [], [], _ => rfl
  | x :: xs, y :: ys, h => by
    simp only [peqs, Bool.and_eq_true] at h
    rw [peq_eq h.1, peqs_eq h.2]
  | [], _ :: _, h => by simp [peqs] at h
  | _ :: _, [], h => by simp [peqs] at h
end
/-- Does the run give this, and leave nothing? -/
def gives (o : Option (AV × Store)) (q : PV) : Bool :=
  match o with
  | some (r, σ) => match r, σ.objs, σ.toks with
    | .pv p, [], [] => peq p q
    | _, _, _ => false
  | none => false

theorem purAt_eval {C : Cfg} {G : List (Nat × PV)} (H : CfgOk C G) {n : Nat} {f : FuncId} {args : List AV} {q : PV} (h : gives (evF C n f args ⟨G, [], []⟩) q = true) : PurAt C.P ⟨G, [], []⟩ f args (.pv q) := by
  cases he : evF C n f args ⟨G, [], []⟩ with
  | none => rw [he] at h; cases h
  | some p =>
    obtain ⟨r, σ'⟩ := p
    rw [he] at h
    have hg := evF_gl he
    have hc := (ev_sound H n).1 f args ⟨G, [], []⟩ r σ' rfl he
    obtain ⟨gl, objs, toks⟩ := σ'
    simp only [gives] at h
    split at h
    · simp only at hg
      subst hg
      rw [peq_eq h] at hc
      exact hc
    · cases h
end Go.Aw

/- Whether what stands in no order may be exchanged: the same look, by a table of what stands before what. No program is named. -/
namespace Go.Aw
open Go
def precRow (t : List Nat) (es : List Nat) : Nat := es.foldl (fun a j => a ||| ((1 <<< j) ||| t.getD j 0)) 0
def precTab (ops : Array Oper) : Nat → List Nat
  | 0 => []
  | n + 1 => let t := precTab ops n; t ++ [precRow t (edges ops .any n)]
def drawOkT (ops : Array Oper) (m : Nat) : Bool :=
  goesOn ops .any && goesOn ops .text && goesOn ops .gc &&
  (let t := precTab ops ops.size
   (List.range ops.size).all fun i =>
    ((edges ops .any i).all fun j => decide (j < i)) &&
    (let p := t.getD i 0
     (List.range i).all fun k => p.testBit k || (decide (i < m) && (match ops[k]?, ops[i]? with | some ok, some oi => swapOk ops ok oi | _, _ => false))))

theorem precRow_bit {t : List Nat} {k : Nat} : ∀ {es : List Nat} {a : Nat}, (es.foldl (fun a j => a ||| ((1 <<< j) ||| t.getD j 0)) a).testBit k = true → a.testBit k = true ∨ ∃ j, j ∈ es ∧ (k = j ∨ (t.getD j 0).testBit k = true)
  | [], a, h => .inl h
  | j :: es, a, h => by
    rw [List.foldl_cons] at h
    rcases precRow_bit h with h | ⟨j', h1, h2⟩
    · simp only [Nat.testBit_or, Bool.or_eq_true] at h
      rcases h with h | h | h
      · exact .inl h
      · refine .inr ⟨j, by simp, .inl ?_⟩
        rw [Nat.one_shiftLeft, Nat.testBit_two_pow] at h
        simpa [eq_comm] using h
      · exact .inr ⟨j, by simp, .inr h⟩
    · exact .inr ⟨j', by simp [h1], h2⟩

theorem precTab_len (ops : Array Oper) : ∀ n, (precTab ops n).length = n
  | 0 => rfl
  | n + 1 => by simp [precTab, precTab_len ops n]
theorem precTab_get (ops : Array Oper) : ∀ n i, i < n → (precTab ops n).getD i 0 = precRow (precTab ops i) (edges ops .any i)
  | 0, i, h => by omega
  | n + 1, i, h => by
    simp only [precTab, List.getD_eq_getElem?_getD]
    by_cases hi : i < n
    · rw [List.getElem?_append_left (by rw [precTab_len]; exact hi)]
      have := precTab_get ops n i hi
      rw [List.getD_eq_getElem?_getD] at this
      exact this
    · have : i = n := by omega
      subst this
      rw [List.getElem?_append_right (by rw [precTab_len]; omega), precTab_len]
      simp

theorem precTab_sound (ops : Array Oper) (hd : ∀ i, i < ops.size → ∀ j, j ∈ edges ops .any i → j < i) : ∀ i, i < ops.size → ∀ k f, i + 1 ≤ f → ((precTab ops ops.size).getD i 0).testBit k = true → k ∈ precs ops f i := by
  intro i
  induction i using Nat.strongRecOn with
  | _ i ih =>
    intro hi k f hf h
    rw [precTab_get ops _ i hi] at h
    unfold precRow at h
    obtain ⟨f, rfl⟩ : ∃ g, f = g + 1 := ⟨f - 1, by omega⟩
    rw [precs, List.mem_append, List.mem_flatMap]
    rcases precRow_bit h with h | ⟨j, h1, h2⟩
    · simp at h
    · have hj := hd i hi j h1
      rcases h2 with rfl | h2
      · exact .inl h1
      · refine .inr ⟨j, h1, ih j hj (by omega) k f (by omega) ?_⟩
        rw [precTab_get ops _ j (by omega)]
        rw [precTab_get ops i j hj] at h2
        exact h2

theorem drawOk_of {ops : Array Oper} {m : Nat} (h : drawOkT ops m = true) : drawOk ops m = true := by
  simp only [drawOkT, drawOk, Bool.and_eq_true, List.all_eq_true, List.mem_range, Bool.or_eq_true, decide_eq_true_eq] at h ⊢
  refine ⟨h.1, fun i hi k hk => ?_⟩
  rcases (h.2 i hi).2 k hk with h1 | h1
  · left
    rw [List.contains_iff_mem]
    exact precTab_sound ops (fun i hi => (h.2 i hi).1) i hi k ops.size (by omega) h1
  · exact .inr h1
end Go.Aw

/- Terms of layer 25 (eight): Erase and Lifted. No program is named. -/
namespace Go.Aw
open Go
theorem sym_self {d : D} (h : formed d = true) (hk : d.kind = 2) : dsym d.text = d := by
  obtain ⟨h1, h2, _⟩ := formed_sym h hk
  cases d
  simp only [D.kind, D.num, D.kids, D.text] at *
  subst h1 h2 hk
  rfl
theorem mName_kind {d : D} (h : mName d = true) : d.kind = 2 := by
  unfold mName at h
  simp only [Bool.and_eq_true, beq_iff_eq] at h
  exact h.1
theorem list_self {d : D} (h : formed d = true) (hk : d.kind = 3) : dlist d.kids = d := by
  obtain ⟨h1, h2⟩ := formed_list h hk
  cases d
  simp only [D.kind, D.num, D.kids, D.text] at *
  subst h1 h2 hk
  rfl
theorem nms_take {d : D} (h : formed d = true) (hn : ∀ x, x ∈ (d.kids.drop 1).take (shN d.head.text) → mName x = true) : (nmsD d).map dsym = (d.kids.drop 1).take (shN d.head.text) := by
  unfold nmsD
  rw [List.map_map]
  conv => rhs; rw [← List.map_id ((d.kids.drop 1).take (shN d.head.text))]
  refine List.map_congr_left fun x hx => ?_
  exact sym_self (formed_kids h (List.mem_of_mem_drop (List.mem_of_mem_take hx))) (mName_kind (hn x hx))
theorem GoodM.names {d : D} (h : GoodM d) (hk : d.kind = 3) (hq : d.head.text ≠ sQuote) : ∀ x, x ∈ (d.kids.drop 1).take (shN d.head.text) → mName x = true := by
  intro x hx
  rcases (h.list hk).2.2.2.2 with ⟨e, _⟩ | ⟨e, f, y, b, hks, _, hf, hy⟩ | ⟨e, y, a, b, hks, _, hy⟩ | ⟨_, hks, _, hf, hl, _⟩
  · exact absurd e hq
  · rw [e, show shN sFn = 2 from rfl, hks] at hx
    simp at hx
    rcases hx with rfl | rfl <;> assumption
  · rw [e, show shN sLet = 1 from rfl, hks] at hx
    simp at hx
    subst hx; exact hy
  · have : shN d.head.text = 0 := by
      rcases shp_cases d.head.text with ⟨e, s⟩ | ⟨e, s⟩ | ⟨e, s⟩ | ⟨e, s⟩ | ⟨e, s⟩ | ⟨e, s⟩ | ⟨e, s⟩ | ⟨e, s⟩ | ⟨s, _⟩
      all_goals first | exact absurd e hq | exact absurd e hf | exact absurd e hl | exact shN_of s | exact shN_none s
    rw [this] at hx
    simp at hx
/-- A term is its head, its names and the terms in it. -/
theorem GoodM.split {d : D} (h : GoodM d) (hk : d.kind = 3) (hq : d.head.text ≠ sQuote) : d.kids = d.head :: (nmsD d).map dsym ++ inner d := by
  rw [nms_take h.formed (h.names hk hq), inner_eq, if_neg (by rw [hk]; decide), if_neg (by simpa using hq)]
  obtain ⟨x0, r, hx⟩ := kids_cons (h.ne hk)
  rw [head_cons hx, hx]
  simp only [List.drop_succ_cons, List.drop_zero, List.cons_append]
  rw [show 1 + shN x0.text = shN x0.text + 1 by omega, List.drop_succ_cons, List.take_append_drop]
theorem GoodM.self {d : D} (h : GoodM d) (hk : d.kind = 3) (hq : d.head.text ≠ sQuote) : dlist (d.head :: (nmsD d).map dsym ++ inner d) = d := by rw [← h.split hk hq, list_self h.formed hk]
theorem made_kids (h : D) (ns : List ByteArray) (l : List D) : (dlist (h :: ns.map dsym ++ l)).kids = h :: (ns.map dsym ++ l) := rfl
theorem made_head (h : D) (ns : List ByteArray) (l : List D) : (dlist (h :: ns.map dsym ++ l)).head = h := rfl
theorem nms_made {h : D} {ns : List ByteArray} {l : List D} (hn : ns.length = shN h.text) : nmsD (dlist (h :: ns.map dsym ++ l)) = ns := by
  unfold nmsD
  rw [made_kids, made_head, List.drop_succ_cons, List.drop_zero, List.take_left' (by simp [hn]), List.map_map]
  conv => rhs; rw [← List.map_id ns]
  exact List.map_congr_left fun x _ => rfl
/-- A term with other terms in it. -/
theorem GoodM.made {d : D} (h : GoodM d) (hk : d.kind = 3) (hq : d.head.text ≠ sQuote) {l : List D} (hl : l.length = (inner d).length) (hg : ∀ x, x ∈ l → GoodM x) : GoodM (dlist (d.head :: (nmsD d).map dsym ++ l)) := by
  obtain ⟨hn, h2, hf0, _, _⟩ := h.list hk
  have hnl := h.nms hk hq
  have hlen := h.inner_length hk hq
  have hsp := h.split hk hq
  refine ⟨?_, ?_⟩
  · rw [formed_dlist]
    intro x hx
    rw [List.cons_append, List.mem_cons, List.mem_append] at hx
    rcases hx with rfl | hx | hx
    · exact hf0
    · refine formed_kids h.formed ?_
      rw [hsp, List.cons_append]
      exact List.mem_cons_of_mem _ (List.mem_append_left _ hx)
    · exact (hg x hx).formed
  · have h0 := h.ok
    have k2 : (d.kind == 2) = false := by rw [hk]; rfl
    have km : mName d = false := by unfold mName; rw [k2]; rfl
    have k1 : (d.kind == 1) = false := by rw [hk]; rfl
    have kl : (d.kids.length : Int) = ((dlist (d.head :: (nmsD d).map dsym ++ l)).kids.length : Int) := by
      rw [made_kids, hlen]; simp [hnl, hl]; omega
    have kt : (d.kids.drop 1).take (shN d.head.text) = ((dlist (d.head :: (nmsD d).map dsym ++ l)).kids.drop 1).take (shN d.head.text) := by
      rw [hsp, made_kids, List.cons_append, List.drop_succ_cons, List.drop_succ_cons, List.drop_zero, List.drop_zero, List.take_left' (by simp [hnl]), List.take_left' (by simp [hnl])]
    have hml : mchkL l = 0 := mchkL_zero.2 fun x hx => (hg x hx).ok
    have hx : mName (dlist (d.head :: (nmsD d).map dsym ++ l)) = false := rfl
    rw [mchk_eq, k1, km, if_neg (by decide)] at h0
    rw [mchk_eq, show ((dlist (d.head :: (nmsD d).map dsym ++ l)).kind == 1) = false from rfl, hx, if_neg (by decide), made_head, inner_made hq hnl, hml, ← kl]
    have hc : (d.kind != 3 || (d.kids.length : Int) == 0 || d.head.kind != 2) = ((dlist (d.head :: (nmsD d).map dsym ++ l)).kind != 3 || (d.kids.length : Int) == 0 || d.head.kind != 2) := by rw [hk]; rfl
    rw [← hc]
    split at h0
    · exact absurd h0 (by decide)
    · rename_i hcc
      rw [if_neg hcc]
      cases hs : shp d.head.text with
      | none =>
        rw [hs] at h0
        simp only at h0 ⊢
        split at h0
        · exact absurd h0 (by decide)
        · rename_i ha
          rw [if_neg ha]
          split at h0
          · exact absurd h0 (by decide)
          · rename_i hb
            rw [if_neg hb]
      | some p =>
        obtain ⟨a, b⟩ := p
        rw [hs] at h0
        rw [shN_of hs] at kt
        simp only at h0 ⊢
        rw [← kt]
        split at h0
        · exact absurd h0 (by decide)
        · rename_i ha
          rw [if_neg ha]
def lv (d : D) : Bool := isW d sLift || isW d sRun
def Flat (d : D) : Prop := ∀ x, x ∈ mall d → lv x = false
theorem Flat.part {d x : D} (h : Flat d) (hx : x ∈ inner d) : Flat x := fun y hy => h y (by rw [mall_eq]; exact List.mem_cons_of_mem _ (List.mem_flatMap.2 ⟨x, hx, hy⟩))
theorem Flat.self {d : D} (h : Flat d) : lv d = false := h d (by rw [mall_eq]; simp)
theorem flat_iff {d : D} : Flat d ↔ lv d = false ∧ ∀ x, x ∈ inner d → Flat x := by
  constructor
  · exact fun h => ⟨h.self, fun x hx => h.part hx⟩
  · rintro ⟨h1, h2⟩ x hx
    rw [mall_eq] at hx
    rcases List.mem_cons.1 hx with rfl | hx
    · exact h1
    · obtain ⟨y, hy, hxy⟩ := List.mem_flatMap.1 hx
      exact h2 y hy x hxy
theorem lv_leaf {d : D} (h : d.kind ≠ 3) : lv d = false := by
  unfold lv isW
  have : (d.kind == 3) = false := by simpa using h
  rw [this]; rfl
theorem lv_quote {d : D} (h : d.head.text = sQuote) : lv d = false := by
  unfold lv isW
  rw [h]
  have e1 : decide (sQuote = sLift) = false := by decide
  have e2 : decide (sQuote = sRun) = false := by decide
  rw [e1, e2]; simp
theorem inner_quote {d : D} (h : d.head.text = sQuote) : inner d = [] := by
  rw [inner_eq]
  split
  · rfl
  · rw [if_pos (by simpa using h)]
theorem erase_flat {d : D} (h : lv d = false) : eraseF d = d := by
  unfold lv at h
  simp only [Bool.or_eq_false_iff] at h
  unfold eraseF
  rw [h.1, h.2]; rfl
theorem lift_len {d : D} (h : GoodM d) (hw : isW d sLift = true) : ∃ y, inner d = [y] ∧ d1 d.kids = y := by
  obtain ⟨hk, ht⟩ := isW_iff.1 hw
  have hq : d.head.text ≠ sQuote := by rw [ht]; decide
  have hl := h.inner_length hk hq
  have h2 := h.len.1 hw
  rw [ht, show shN sLift = 0 from rfl] at hl
  have hs := h.split hk hq
  have hn : nmsD d = [] := by have := h.nms hk hq; rw [ht] at this; exact List.eq_nil_of_length_eq_zero this
  rw [hn] at hs
  match hi : inner d, (show (inner d).length = 1 by omega) with
  | [y], _ => exact ⟨y, rfl, by rw [hs, hi]; rfl⟩
theorem run_len {d : D} (h : GoodM d) (hw : isW d sRun = true) : ∃ b y, inner d = [b, y] ∧ d2 d.kids = y := by
  obtain ⟨hk, ht⟩ := isW_iff.1 hw
  have hq : d.head.text ≠ sQuote := by rw [ht]; decide
  have hl := h.inner_length hk hq
  have h2 := h.len.2 hw
  rw [ht, show shN sRun = 0 from rfl] at hl
  have hs := h.split hk hq
  have hn : nmsD d = [] := by have := h.nms hk hq; rw [ht] at this; exact List.eq_nil_of_length_eq_zero this
  rw [hn] at hs
  match hi : inner d, (show (inner d).length = 2 by omega) with
  | [b, y], _ => exact ⟨b, y, rfl, by rw [hs, hi]; rfl⟩
/-- What Erase leaves is a term of one level. -/
theorem erase_ok {d : D} : GoodM d → GoodM (mmap eraseF d) ∧ Flat (mmap eraseF d) ∧ (mmap eraseF d).deep ≤ d.deep := by
  induction d using D.ind with
  | _ k n t l ih =>
    generalize hd : D.mk k n t l = d at *
    have hl : d.kids = l := by rw [← hd]; rfl
    subst hl
    clear hd
    intro hg
    rw [mmap_eq]
    split
    · rename_i h3
      have hk : d.kind ≠ 3 := by simpa using h3
      rw [erase_flat (lv_leaf hk)]
      exact ⟨hg, flat_iff.2 ⟨lv_leaf hk, fun x hx => by rw [inner_none hk] at hx; simp at hx⟩, Nat.le_refl _⟩
    · split
      · rename_i hq
        have hq' : d.head.text = sQuote := by simpa using hq
        rw [erase_flat (lv_quote hq')]
        exact ⟨hg, flat_iff.2 ⟨lv_quote hq', fun x hx => by rw [inner_quote hq'] at hx; simp at hx⟩, Nat.le_refl _⟩
      · rename_i h3 hq
        have hk : d.kind = 3 := by simpa using h3
        have hq' : d.head.text ≠ sQuote := by simpa using hq
        have hnl := hg.nms hk hq'
        have hin : ∀ x, x ∈ inner d → GoodM (mmap eraseF x) ∧ Flat (mmap eraseF x) ∧ (mmap eraseF x).deep ≤ x.deep := fun x hx => ih x (inner_mem hx) (hg.part hx)
        have hml : ∀ x, x ∈ (inner d).map (mmap eraseF) → GoodM x ∧ Flat x ∧ x.deep + 1 ≤ d.deep := fun x hx => by
          obtain ⟨y, hy, rfl⟩ := List.mem_map.1 hx
          obtain ⟨a1, a2, a3⟩ := hin y hy
          refine ⟨a1, a2, ?_⟩
          have := deep_le_deeps (inner_mem hy)
          rw [deep_kids d]; omega
        have hgm := hg.made hk hq' (l := (inner d).map (mmap eraseF)) (by simp) fun x hx => (hml x hx).1
        have him : inner (dlist (d.head :: (nmsD d).map dsym ++ (inner d).map (mmap eraseF))) = (inner d).map (mmap eraseF) := inner_made hq' hnl
        have hdm : (dlist (d.head :: (nmsD d).map dsym ++ (inner d).map (mmap eraseF))).deep ≤ d.deep := by
          have hsp := hg.split hk hq'
          rw [deep_dlist, deep_kids d, hsp]
          have : D.deeps (d.head :: (nmsD d).map dsym ++ (inner d).map (mmap eraseF)) ≤ D.deeps (d.head :: (nmsD d).map dsym ++ inner d) := by
            rw [deeps_le]
            intro x hx
            rw [List.mem_append] at hx
            rcases hx with hx | hx
            · exact deep_le_deeps (List.mem_append_left _ hx)
            · obtain ⟨y, hy, rfl⟩ := List.mem_map.1 hx
              exact Nat.le_trans (hin y hy).2.2 (deep_le_deeps (List.mem_append_right _ hy))
          omega
        generalize hm : dlist (d.head :: (nmsD d).map dsym ++ (inner d).map (mmap eraseF)) = m at *
        unfold eraseF
        split
        · rename_i hw
          obtain ⟨y, hi, e⟩ := lift_len hgm hw
          rw [e]
          rw [him] at hi
          have := hml y (by rw [hi]; simp)
          exact ⟨this.1, this.2.1, by omega⟩
        · split
          · rename_i hw
            obtain ⟨b, y, hi, e⟩ := run_len hgm hw
            rw [e]
            rw [him] at hi
            have := hml y (by rw [hi]; simp)
            exact ⟨this.1, this.2.1, by omega⟩
          · rename_i w1 w2
            refine ⟨hgm, flat_iff.2 ⟨?_, fun x hx => ?_⟩, hdm⟩
            · unfold lv
              rw [Bool.not_eq_true] at w1 w2
              rw [w1, w2]; rfl
            · rw [him] at hx
              exact (hml x hx).2.1
/-- Mapping by what changes nothing in a term. -/
theorem mmap_same {f : D → D} {d : D} (hf : ∀ x, x ∈ mall d → f x = x) : GoodM d → mmap f d = d := by
  induction d using D.ind with
  | _ k n t l ih =>
    generalize hd : D.mk k n t l = d at *
    have hl : d.kids = l := by rw [← hd]; rfl
    subst hl
    clear hd
    intro hg
    have h0 := hf d (by rw [mall_eq]; simp)
    rw [mmap_eq]
    split
    · exact h0
    · split
      · exact h0
      · rename_i h3 hq
        have hk : d.kind = 3 := by simpa using h3
        have hq' : d.head.text ≠ sQuote := by simpa using hq
        have hin : (inner d).map (mmap f) = inner d := by
          conv => rhs; rw [← List.map_id (inner d)]
          refine List.map_congr_left fun x hx => ?_
          exact ih x (inner_mem hx) (fun y hy => hf y (by rw [mall_eq]; exact List.mem_cons_of_mem _ (List.mem_flatMap.2 ⟨x, hx, hy⟩))) (hg.part hx)
        rw [hin, hg.self hk hq', h0]
theorem erase_same {d : D} (hg : GoodM d) (hf : Flat d) : mmap eraseF d = d := mmap_same (fun x hx => erase_flat (hf x hx)) hg
/-! ### Lifted -/
theorem lift_eq (d : D) : dlist [dsym sLift, d] = dlist (dsym sLift :: ([] : List ByteArray).map dsym ++ [d]) := rfl
theorem erase_lift (d : D) : mmap eraseF (dlist [dsym sLift, d]) = mmap eraseF d := by
  rw [mmap_eq, if_neg (fun h => by cases h), if_neg (fun h => absurd (of_decide_eq_true h) (show ¬ (dlist [dsym sLift, d]).head.text = sQuote from show sLift ≠ sQuote by decide))]
  have h1 : nmsD (dlist [dsym sLift, d]) = [] := rfl
  have h2 : inner (dlist [dsym sLift, d]) = [d] := by rw [lift_eq, inner_made (by decide) rfl]
  rw [h1, h2]
  rfl
theorem good_lift {d : D} (h : GoodM d) : GoodM (dlist [dsym sLift, d]) := by
  refine ⟨?_, ?_⟩
  · rw [formed_dlist]
    intro x hx
    simp only [List.mem_cons, List.not_mem_nil, or_false] at hx
    rcases hx with rfl | rfl
    · decide +kernel
    · exact h.formed
  · have h2 : inner (dlist [dsym sLift, d]) = [d] := by rw [lift_eq, inner_made (by decide) rfl]
    rw [mchk_eq, if_neg (fun h => by cases h), h2]
    have h3 : shp (dlist [dsym sLift, d]).head.text = some (0, 2) := rfl
    rw [h3, if_neg (by show ¬ ((3 : Int) != 3 || ((2 : Nat) : Int) == 0 || (2 : Int) != 2) = true; decide)]
    show (if (((2 : Nat) : Int) != ((2 : Nat) : Int) || ([] : List D).any fun x => !mName x) = true then (4 : Int) else mchkL [d]) = 0
    rw [if_neg (by decide)]
    exact mchkL_zero.2 fun x hx => by simp at hx; subst hx; exact h.ok
theorem liftF_cases (d : D) : liftF d = d ∨ liftF d = dlist [dsym sLift, d] := by unfold liftF; split <;> simp
theorem lift_ok {d : D} : GoodM d → Flat d → GoodM (mmap liftF d) ∧ mmap eraseF (mmap liftF d) = d := by
  induction d using D.ind with
  | _ k n t l ih =>
    generalize hd : D.mk k n t l = d at *
    have hl : d.kids = l := by rw [← hd]; rfl
    subst hl
    clear hd
    intro hg hf
    have key : ∀ m, GoodM m → mmap eraseF m = d → GoodM (liftF m) ∧ mmap eraseF (liftF m) = d := by
      intro m h1 h2
      rcases liftF_cases m with e | e <;> rw [e]
      · exact ⟨h1, h2⟩
      · exact ⟨good_lift h1, by rw [erase_lift]; exact h2⟩
    rw [mmap_eq]
    split
    · exact key d hg (erase_same hg hf)
    · split
      · exact key d hg (erase_same hg hf)
      · rename_i h3 hq
        have hk : d.kind = 3 := by simpa using h3
        have hq' : d.head.text ≠ sQuote := by simpa using hq
        have hnl := hg.nms hk hq'
        have hin : ∀ x, x ∈ inner d → GoodM (mmap liftF x) ∧ mmap eraseF (mmap liftF x) = x := fun x hx => ih x (inner_mem hx) (hg.part hx) (hf.part hx)
        refine key _ (hg.made hk hq' (by simp) fun x hx => ?_) ?_
        · obtain ⟨y, hy, rfl⟩ := List.mem_map.1 hx
          exact (hin y hy).1
        · rw [mmap_eq, if_neg (fun h => by cases h), made_head, if_neg (by simpa using hq'), inner_made hq' hnl, nms_made hnl]
          have : ((inner d).map (mmap liftF)).map (mmap eraseF) = inner d := by
            rw [List.map_map]
            conv => rhs; rw [← List.map_id (inner d)]
            exact List.map_congr_left fun x hx => (hin x hx).2
          rw [this, hg.self hk hq', erase_flat hf.self]
/-! ### what the law says -/
theorem flat_counts {d : D} : Flat d ↔ mcount (fun x => isW x sLift) d = 0 ∧ mcount (fun x => isW x sRun) d = 0 := by
  unfold mcount Flat lv
  rw [List.countP_eq_zero, List.countP_eq_zero]
  constructor
  · intro h
    constructor
    · intro x hx; have := h x hx; simp only [Bool.or_eq_false_iff] at this; simp [this.1]
    · intro x hx; have := h x hx; simp only [Bool.or_eq_false_iff] at this; simp [this.2]
  · rintro ⟨h1, h2⟩ x hx
    have a := h1 x hx
    have b := h2 x hx
    rw [Bool.not_eq_true] at a b
    rw [a, b]; rfl
theorem mone_flat {d : D} : mone d = true ↔ Flat d := by
  unfold mone mcount Flat pOne lv
  simp only [beq_iff_eq, Int.natCast_eq_zero, List.countP_eq_zero, Bool.not_eq_true]
theorem merase_checks {d : D} (h : mcheck d = 0) : mcheck (mmap eraseF d) = 0 ∧ mcount (fun x => isW x sLift) (mmap eraseF d) = 0 ∧ mcount (fun x => isW x sRun) (mmap eraseF d) = 0 := by
  have hg := mcheck_good h
  obtain ⟨h1, h2, h3⟩ := erase_ok hg
  obtain ⟨h4, h5⟩ := flat_counts.1 h2
  refine ⟨?_, h4, h5⟩
  have hd : dcheck d = 0 := by
    unfold mcheck at h
    split at h
    · rename_i hc; rw [h] at hc; simp at hc
    · rename_i hc; simpa using hc
  have hd2 : dcheck (mmap eraseF d) = 0 := by
    obtain ⟨_, a, b⟩ := dcheck_iff.1 hd
    exact dcheck_iff.2 ⟨h1.formed, Nat.le_trans (merase_size hg) a, Nat.le_trans h3 b⟩
  unfold mcheck
  rw [hd2, if_neg (by decide)]
  exact h1.ok
theorem mlifted_checks {d : D} (hg : GoodM d) (hf : Flat d) (hd : dcheck (mmap liftF d) = 0) : mcheck (mmap liftF d) = 0 ∧ mmap eraseF (mmap liftF d) = d := by
  obtain ⟨h1, h2⟩ := lift_ok hg hf
  refine ⟨?_, h2⟩
  unfold mcheck
  rw [hd, if_neg (by decide)]
  exact h1.ok
end Go.Aw

/- From the row's reading of memory to abstract values, and back: data, slices, laid tables; what the row says behind a call that has turned nothing old. No program is named. -/
namespace Go.Aw
open Go Go.ChangeShapes Go.WideShapes Go.ChangeAt Go.WideMaps Go.WideElems Go.RowKit
theorem exists_list {α : Type} {Q : Nat → α → Prop} : ∀ n : Nat, (∀ i, i < n → ∃ d, Q i d) → ∃ l : List α, l.length = n ∧ ∀ i x, l[i]? = some x → Q i x
  | 0, _ => ⟨[], rfl, fun i x h => by simp at h⟩
  | n + 1, h => by
    obtain ⟨l, h1, h2⟩ := exists_list n (fun i hi => h i (by omega))
    obtain ⟨d, hd⟩ := h n (by omega)
    refine ⟨l ++ [d], by simp [h1], fun i x hx => ?_⟩
    rcases getElem?_snoc hx with hx | ⟨rfl, rfl⟩
    · exact h2 i x hx
    · rw [h1]; exact hd

theorem rp_slice_of {B : Nat} {S : Nat → Nat → Prop} {w : World} {a : Addr} {len cap sz : Nat} {xs : List PV} (hlen : xs.length = len) (hcap : len ≤ cap) (hb : a.block < B) (h0 : 0 < sz) (hsz : ∀ x, x ∈ xs → x.cells.length = sz)
    (h : ∀ (q : Nat) x, xs[q]? = some x → ∃ cs : List Value, cs.length = sz ∧ (∀ r, r < sz → w.cell? ((a.add (q * sz)).add r) = cs[r]?) ∧ (∀ v, v ∈ cs → v.oneCell' = true) ∧ ∀ (r : Nat) y v, x.cells[r]? = some y → cs[r]? = some v → RP B S w y v) :
    RP B S w (.slice xs) (.slice (some a) len cap) := by
  by_cases hl : xs = []
  · subst hl; simp at hlen; subst hlen; exact .empty
  have hspot : a.spot = none := by
    obtain ⟨x, r, hx⟩ := kids_cons hl
    obtain ⟨cs, h1, h2, _⟩ := h 0 x (by rw [hx]; rfl)
    have h3 := h2 0 h0
    rw [Nat.zero_mul, Addr.add, if_pos rfl, Addr.add, if_pos rfl] at h3
    have h4 : cs[0]? = some cs[0] := by simp
    rw [h4] at h3
    unfold World.cell? at h3
    cases hs : a.spot with
    | none => rfl
    | some s =>
      rw [hs] at h3
      split at h3 <;> simp at h3
  have hadd : ∀ n, a.add n = ⟨a.block, a.off + n, none⟩ := by
    intro n
    unfold Addr.add
    split
    · subst_vars; cases a; simp only at hspot; subst hspot; rfl
    · rfl
  have hadd2 : ∀ n m, (a.add n).add m = ⟨a.block, a.off + (n + m), none⟩ := by
    intro n m
    rw [hadd]
    unfold Addr.add
    split
    · subst_vars; rfl
    · show (⟨a.block, a.off + n + m, none⟩ : Addr) = _
      rw [Nat.add_assoc]
  have ha : a = ⟨a.block, a.off, none⟩ := by cases a; simp only at hspot; subst hspot; rfl
  have hall : ∀ i, i < len * sz → ∃ (q r : Nat) (x : PV) (cs : List Value), i = q * sz + r ∧ r < sz ∧ xs[q]? = some x ∧ cs.length = sz ∧ w.cell? ⟨a.block, a.off + i, none⟩ = cs[r]? ∧ (∀ v, v ∈ cs → v.oneCell' = true) ∧ ∀ (r : Nat) y v, x.cells[r]? = some y → cs[r]? = some v → RP B S w y v := by
    intro i hi
    have hq : i / sz < len := Nat.div_lt_of_lt_mul (by rw [Nat.mul_comm]; exact hi)
    have hr : i % sz < sz := Nat.mod_lt _ h0
    have hx : xs[i / sz]? = some xs[i / sz] := by simp [hlen, hq]
    obtain ⟨cs, h1, h2, h3, h4⟩ := h _ _ hx
    have h5 := h2 (i % sz) hr
    have he : i / sz * sz + i % sz = i := by rw [Nat.mul_comm]; exact Nat.div_add_mod i sz
    rw [hadd2, he] at h5
    exact ⟨i / sz, i % sz, _, cs, he.symm, hr, hx, h1, h5, h3, h4⟩
  rw [ha, ← hlen]
  refine RP.slice (sz := sz) (vs := (List.range (len * sz)).map fun j => (w.cell? ⟨a.block, a.off + j, none⟩).getD (.int .i64 0)) hsz (by simp [hlen]) (by omega) (fun i v hv => ?_) (fun i y v hy hv => ?_)
  · have hi : i < len * sz := by have := (List.getElem?_eq_some_iff.1 hv).1; simpa using this
    obtain ⟨q, r, x, cs, h1, h2, h3, h4, h5, h6, h7⟩ := hall i hi
    have h8 : cs[r]? = some cs[r] := by simp [h4, h2]
    rw [h8] at h5
    simp only [List.getElem?_map, List.getElem?_range hi, Option.map_some, Option.some.injEq, h5, Option.getD_some] at hv
    subst hv
    exact ⟨.inl hb, h5, h6 _ (List.getElem_mem _)⟩
  · have hi : i < len * sz := by have := (List.getElem?_eq_some_iff.1 hv).1; simpa using this
    obtain ⟨q, r, x, cs, h1, h2, h3, h4, h5, h6, h7⟩ := hall i hi
    have h8 : cs[r]? = some cs[r] := by simp [h4, h2]
    rw [h8] at h5
    simp only [List.getElem?_map, List.getElem?_range hi, Option.map_some, Option.some.injEq, h5, Option.getD_some] at hv
    subst hv
    rw [h1, flat_get hsz h3 h2] at hy
    exact h7 r y _ hy h8

/-! ### data -/
structure DatumTy (P : Program) (tD tK ti tn ts : TypeId) : Prop where
  und : ∃ f0 f1 f2 f3 : Field, P.underlying tD = some (.struct #[f0, f1, f2, f3]) ∧ f0.type = ti ∧ f0.offset = 0 ∧ f1.type = tn ∧ f1.offset = 1 ∧ f2.type = ts ∧ f2.offset = 2 ∧ f3.type = tK ∧ f3.offset = 3
  i : P.underlying ti = some (.int .i64)
  n : P.underlying tn = some (.int .i64)
  s : P.underlying ts = some .string
  k : P.underlying tK = some (.slice tD)
  cD : P.cellsOf tD = 4
  ci : P.cellsOf ti = 1
  cn : P.cellsOf tn = 1
  cs : P.cellsOf ts = 1
  ck : P.cellsOf tK = 1

theorem one_of {α : Type} {l : List α} {i : Nat} {a : α} (h : (l.drop i).take 1 = [a]) : l[i]? = some a := by
  have h1 : ((l.drop i).take 1)[0]? = some a := by rw [h]; rfl
  rw [List.getElem?_take, List.getElem?_drop] at h1
  simpa using h1

section
variable {H : Type} {enc' : TypeId × Value → H} {P : Program} {w : World} {base : Nat} {spare : Nat → Bool} {held : Bool} {tD tK ti tn ts : TypeId} {S : Nat → Nat → Prop}
theorem open_datum (T : DatumTy P tD tK ti tn ts) : ∀ (fuel : Nat) (cs : List Value) (x : DataW H × List MemPlace), DataW.trod enc' P w base spare held fuel tD cs = some x →
    ∃ (d : D) (v : Value), cs = [.int .i64 d.kind, .int .i64 d.num, .string d.text, v] ∧ v.oneCell' = true ∧ RP w.heap.size S w (.slice (d.kids.map enc)) v := by
  intro fuel
  induction fuel using Nat.strongRecOn with
  | _ fuel ih =>
    intro cs x h
    obtain ⟨f0, f1, f2, f3, hu, t0, o0, t1, o1, t2, o2, t3, o3⟩ := T.und
    obtain ⟨xs, n, rfl, rfl, hl, hlen, hf⟩ := DataW.trod_struct hu h
    have hxl : xs.length = 4 := by simpa using hlen
    have g0 := hf 0 f0 rfl
    have g1 := hf 1 f1 rfl
    have g2 := hf 2 f2 rfl
    have g3 := hf 3 f3 rfl
    rw [t0, o0, T.ci] at g0
    rw [t1, o1, T.cn] at g1
    rw [t2, o2, T.cs] at g2
    rw [t3, o3, T.ck] at g3
    have s0 : xs[0]? = some xs[0] := by simp
    have s1 : xs[1]? = some xs[1] := by simp
    have s2 : xs[2]? = some xs[2] := by simp
    have s3 : xs[3]? = some xs[3] := by simp
    rw [s0] at g0
    rw [s1] at g1
    rw [s2] at g2
    rw [s3] at g3
    obtain ⟨k, e0, _, _⟩ := DataW.trod_int T.i g0
    obtain ⟨m, e1, _, _⟩ := DataW.trod_int T.n g1
    obtain ⟨t, e2, _, _⟩ := DataW.trod_string T.s g2
    have a0 := one_of e0
    have a1 := one_of e1
    have a2 := one_of e2
    rw [T.cD] at hl
    have hcs : ∃ v, cs = [.int .i64 k, .int .i64 m, .string t, v] := by
      match cs, hl, a0, a1, a2 with
      | [c0, c1, c2, c3], _, a0, a1, a2 =>
        simp only [List.getElem?_cons_zero, List.getElem?_cons_succ, Option.some.injEq] at a0 a1 a2
        exact ⟨c3, by rw [a0, a1, a2]⟩
    obtain ⟨v, hcs⟩ := hcs
    rw [hcs] at g3
    have g3' : DataW.trod enc' P w base spare held n tK [v] = some xs[3] := g3
    rcases DataW.trod_slice T.k g3' with ⟨hv, _⟩ | ⟨a, len, cap, elems, rest, m', rfl, hv, _, hb, hlc, hcm, hel, hes, _⟩
    · cases hv
      exact ⟨.mk k m t [], _, hcs, rfl, by simp only [D.kids, List.map_nil]; exact .empty⟩
    · cases hv
      rw [T.cD] at hes
      have hex : ∀ i, i < len → ∃ d : D, ∃ v' : Value, (∀ r, r < 4 → w.cell? ((a.add (i * 4)).add r) = ([.int .i64 d.kind, .int .i64 d.num, .string d.text, v'] : List Value)[r]?) ∧ v'.oneCell' = true ∧ RP w.heap.size S w (.slice (d.kids.map enc)) v' := by
        intro i hi
        have h1 := hes i hi
        have h2 : elems[i]? = some elems[i] := by simp [hel, hi]
        rw [h2] at h1
        obtain ⟨cs', hc, ht⟩ := Option.bind_eq_some_iff.1 h1
        obtain ⟨_, _, hc2⟩ := World.cells?_some hc
        obtain ⟨d, v', he, hone, hrp⟩ := ih m' (by omega) cs' _ ht
        subst he
        exact ⟨d, v', hc2, hone, hrp⟩
      obtain ⟨l, hll, hlq⟩ := exists_list len hex
      refine ⟨.mk k m t l, _, hcs, rfl, ?_⟩
      show RP w.heap.size S w (.slice (l.map enc)) (.slice (some a) len cap)
      by_cases hlen0 : len = 0
      · subst hlen0
        have : l = [] := List.eq_nil_of_length_eq_zero hll
        subst this
        exact .empty
      have hblk : a.block < w.heap.size := by
        obtain ⟨d, v', h1, _⟩ := hex 0 (by omega)
        have h2 := h1 0 (by omega)
        rw [Nat.zero_mul, Addr.add, if_pos rfl, Addr.add, if_pos rfl] at h2
        unfold World.cell? at h2
        by_cases hlt : a.block < w.heap.size
        · exact hlt
        · rw [Array.getElem?_eq_none (by omega)] at h2; simp at h2
      refine rp_slice_of (sz := 4) (by simp [hll]) hlc hblk (by omega) (fun x hx => ?_) (fun q x hx => ?_)
      · obtain ⟨d, _, rfl⟩ := List.mem_map.1 hx
        rw [enc_cells]; rfl
      · rw [List.getElem?_map] at hx
        obtain ⟨d, hd, rfl⟩ := Option.map_eq_some_iff.1 hx
        obtain ⟨v', h1, h2, h3⟩ := hlq q d hd
        refine ⟨[.int .i64 d.kind, .int .i64 d.num, .string d.text, v'], rfl, h1, fun u hu => ?_, fun r y u hy hu => ?_⟩
        · simp only [List.mem_cons, List.not_mem_nil, or_false] at hu
          rcases hu with rfl | rfl | rfl | rfl <;> first | rfl | exact h2
        · rw [enc_cells] at hy
          match r with
          | 0 => simp at hy hu; subst hy hu; exact .int
          | 1 => simp at hy hu; subst hy hu; exact .int
          | 2 => simp at hy hu; subst hy hu; exact .str
          | 3 => simp at hy hu; subst hy hu; exact h3
          | r + 4 => simp at hy
end
end Go.Aw

/- Laid tables as abstract values; the beginning of a call; what the row says behind it. No program is named. -/
namespace Go.Aw
open Go Go.ChangeShapes Go.WideShapes Go.ChangeAt Go.WideMaps Go.WideElems Go.RowKit
theorem insert_perm {H : Type} (x : Lit × DataW H) : ∀ l : List (Lit × DataW H), (DataW.insert x l).Perm (x :: l)
  | [] => .refl _
  | y :: r => by
    unfold DataW.insert
    split
    · exact .refl _
    · exact ((insert_perm x r).cons y).trans (.swap _ _ _)
theorem foldr_insert_perm {H : Type} : ∀ l : List (Lit × DataW H), (l.foldr DataW.insert []).Perm l
  | [] => .refl _
  | x :: l => (insert_perm x _).trans ((foldr_insert_perm l).cons x)

def strPV (s : List UInt8) : PV := .str ⟨s.toArray⟩
def litStr : Lit → List UInt8
  | .string s => s
  | _ => []

section
variable {H : Type} {enc' : TypeId × Value → H} {P : Program} {w : World} {base : Nat} {sp : Nat → Bool} {held : Bool} {S : Nat → Nat → Prop} {t k e : TypeId} {fuel : Nat} {cs : List Value} {ps : List MemPlace}
/-- A table of names and numbers. -/
theorem open_table {f0 f1 : Field} (ht : P.underlying t = some (.slice e)) (he : P.underlying e = some (.struct #[f0, f1])) (hf0 : P.underlying f0.type = some .string) (hf1 : P.underlying f1.type = some (.int .i64)) (o0 : f0.offset = 0) (o1 : f1.offset = 1)
    (c0 : P.cellsOf f0.type = 1) (c1 : P.cellsOf f1.type = 1) (ce : P.cellsOf e = 2) {L : List (List UInt8 × Int)} {r : List (DataW H)}
    (h : DataW.trod enc' P w base sp held fuel t cs = some (.slice (L.map fun p => .agg [.lit (.string p.1), .lit (.int .i64 p.2)]) r, ps)) :
    ∃ v, cs = [v] ∧ v.oneCell' = true ∧ RP w.heap.size S w (.slice (L.map fun p => .agg [strPV p.1, .int .i64 p.2])) v := by
  rcases DataW.trod_slice ht h with ⟨_, hx⟩ | ⟨a, len, cap, elems, rest, m, rfl, rfl, hx, hb, hlc, hcm, hel, hes, _⟩
  · cases hx
  simp only [Prod.mk.injEq, DataW.slice.injEq] at hx
  have hLl : L.length = len := by
    have := congrArg List.length hx.1.1
    simpa [hel] using this
  refine ⟨_, rfl, rfl, ?_⟩
  by_cases hL : L = []
  · subst hL; simp at hLl; subst hLl; exact .empty
  rw [ce] at hes
  have key : ∀ (i : Nat) (p : List UInt8 × Int), L[i]? = some p → ∃ s : ByteArray, s.data.toList = p.1 ∧ ∀ j, j < 2 → w.cell? ((a.add (i * 2)).add j) = ([.string s, .int .i64 p.2] : List Value)[j]? := by
    intro i p hp
    have hi : i < len := by rw [← hLl]; exact (List.getElem?_eq_some_iff.1 hp).1
    have h1 := hes i hi
    have h2 : elems[i]? = some elems[i] := by simp [hel, hi]
    rw [h2] at h1
    obtain ⟨cs', hc, hstr⟩ := Option.bind_eq_some_iff.1 h1
    obtain ⟨_, hcl, hc2⟩ := World.cells?_some hc
    obtain ⟨xs, n, rfl, hxe, hl, hlen, hf⟩ := DataW.trod_struct he hstr
    have hxl : xs.length = 2 := by simpa using hlen
    have g0 := hf 0 f0 rfl
    have g1 := hf 1 f1 rfl
    rw [o0, c0] at g0
    rw [o1, c1] at g1
    have s0 : xs[0]? = some xs[0] := by simp
    have s1 : xs[1]? = some xs[1] := by simp
    rw [s0] at g0
    rw [s1] at g1
    obtain ⟨st, e0, x0, _⟩ := DataW.trod_string hf0 g0
    obtain ⟨q, e1, x1, _⟩ := DataW.trod_int hf1 g1
    have a0 := one_of e0
    have a1 := one_of e1
    have hval : elems[i].1 = .agg [.lit (.string p.1), .lit (.int .i64 p.2)] := by
      have h3 : (elems.map (·.1))[i]? = some elems[i].1 := by rw [List.getElem?_map, h2]; rfl
      rw [← hx.1.1, List.getElem?_map, hp] at h3
      simpa using h3.symm
    have hxs : xs = [xs[0], xs[1]] := by
      refine List.ext_getElem (by simp [hxl]) (fun j h1 h2 => ?_)
      match j with
      | 0 => rfl
      | 1 => rfl
      | j + 2 => simp only [List.length_cons, List.length_nil] at h2; omega
    rw [hxe, hxs] at hval
    simp only [List.map_cons, List.map_nil, DataW.agg.injEq, List.cons.injEq, x0, x1, DataW.lit.injEq, Lit.string.injEq, Lit.int.injEq, and_true, true_and] at hval
    have hcs : cs' = [.string st, .int .i64 q] := by
      match cs', hcl, a0, a1 with
      | [u, v], _, a0, a1 =>
        simp only [List.getElem?_cons_zero, List.getElem?_cons_succ, Option.some.injEq] at a0 a1
        rw [a0, a1]
    rw [hcs, hval.2] at hc2
    exact ⟨st, hval.1, hc2⟩
  have hblk : a.block < w.heap.size := by
    obtain ⟨p, r, hp⟩ := kids_cons hL
    obtain ⟨s, _, h1⟩ := key 0 p (by rw [hp]; rfl)
    have h2 := h1 0 (by omega)
    rw [Nat.zero_mul, Addr.add, if_pos rfl, Addr.add, if_pos rfl] at h2
    unfold World.cell? at h2
    by_cases hlt : a.block < w.heap.size
    · exact hlt
    · rw [Array.getElem?_eq_none (by omega)] at h2; simp at h2
  refine rp_slice_of (sz := 2) (by simp [hLl]) hlc hblk (by omega) (fun x hx => ?_) (fun q x hx => ?_)
  · obtain ⟨p, _, rfl⟩ := List.mem_map.1 hx
    rfl
  · rw [List.getElem?_map] at hx
    obtain ⟨p, hp, rfl⟩ := Option.map_eq_some_iff.1 hx
    obtain ⟨s, h1, h2⟩ := key q p hp
    refine ⟨_, rfl, h2, fun u hu => ?_, fun r y u hy hu => ?_⟩
    · simp only [List.mem_cons, List.not_mem_nil, or_false] at hu
      rcases hu with rfl | rfl <;> rfl
    · match r with
      | 0 =>
        simp [PV.cells] at hy hu; subst hy hu
        unfold strPV
        have : (⟨p.1.toArray⟩ : ByteArray) = s := by rw [← h1]
        rw [this]; exact .str
      | 1 => simp [PV.cells] at hy hu; subst hy hu; exact .int
      | r + 2 => simp [PV.cells] at hy
end
/-! ### the beginning and the end of a call -/
def g0 (W : World) : Ghost := { B := W.heap.size, K := fun _ => False, S := fun _ _ => False, io := [], lam := [], tb := [] }
theorem inv0 {W : World} {gl : List (Nat × PV)} (h : ∀ n p, (n, p) ∈ gl → RP W.heap.size (fun _ _ => False) W p (.pointer (some ⟨n, 0, none⟩))) : Inv (g0 W) ⟨gl, [], []⟩ [] W := by
  refine ⟨rfl, rfl, rfl, h, List.nodup_nil, fun b hb => (by simp [g0, Ghost.owned] at hb), fun b hb => (by cases hb), Nat.le_refl _, fun b o hS => (by cases hS), fun o ob b ho => (by simp at ho), fun i cs b hL => (by simp at hL), fun k t tb ht => (by simp at ht)⟩
theorem below_of {W W' : World} {σ σ' : Store} {g' : Ghost} (h : Ext (g0 W) σ W g' σ' W') : Below W.heap.size W W' :=
  ⟨h.os, h.tape, h.output, h.size, fun k hk => h.le.keeps.blk k hk⟩

section
variable {H : Type} {enc' : TypeId × Value → H} {P : Program}
theorem post_of_below {f : Func} {s : ChangeSpec} {apart fresh handsOn again : Bool} {W W' : World} {args : Array Value} {v : Value} {ds gs : List (DataW H)} {before pa pv : List MemPlace}
    (hW : DataW.Whole enc' P f.params.toList s.vars apart W args.toList ds gs before)
    (hres : ∀ (b : Nat) (sp : Nat → Bool) (hd : Bool), DataW.TrodAll enc' P W' b sp hd f.resultTypes.toList (v.resultList f.resultTypes.size) (s.fn H (ds ++ gs)).results [])
    (hargs : ∀ sp : Nat → Bool, (∀ p ∈ before, sp p.block = true) → DataW.TrodAll enc' P W' 0 sp true f.params.toList args.toList (s.fn H (ds ++ gs)).args pa)
    (hvars : ∀ sp : Nat → Bool, (∀ p ∈ before, sp p.block = true) → DataW.TrodVars enc' P W' sp s.vars (s.fn H (ds ++ gs)).vars pv)
    (hps : before = pa ++ pv) (hb : Below W.heap.size W W')
    (hok : ∀ (j : Nat) (t : TypeId) (r : Value), f.resultTypes[j]? = some t → (v.resultList f.resultTypes.size)[j]? = some r → Value.okWide P W' .any 0 t r) :
    s.post enc' P f apart fresh handsOn again W args v W' := by
  have hold : ∀ p ∈ before, (fun b => decide (b < W.heap.size)) p.block = true := fun p hp => by simpa using hW.lt p hp
  refine ⟨ds, gs, before, [], pa, pv, hW, hres _ _ _, hargs _ hold, hvars _ hold, hb.frame _, fun _ => ?_⟩
  have hlt := hW.lt
  obtain ⟨_, _, _, _, _, hz, hn⟩ := hW
  refine ⟨hok, _, _, ([] ++ pa) ++ pv, ⟨[] ++ pa, pv, trodAll_append (hargs _ (fun _ _ => rfl)) (hres _ _ _), hvars _ (fun _ _ => rfl), rfl, ?_, ?_⟩, ?_⟩
  · intro b off hp
    have hp' : MemPlace.cell b off ∈ before := by rw [hps]; simpa using hp
    have hl := hlt _ hp'
    rw [hb.frozen (p := ⟨b, off, none⟩) hl]
    exact hz b off hp'
  · intro ha
    have := hn ha
    rw [hps] at this
    simpa using this
  · intro p hp _
    rw [hps]
    simpa using hp
end
end Go.Aw

/- The laid tables of the packages node and prim. No program is named. -/
namespace Go.Aw
open Go
def primNames : List (List UInt8 × Int) := primL.map fun p => (p.1.data.toList, p.2)
theorem primV_of : (primNames.map fun p => PV.agg [strPV p.1, .int .i64 p.2]) = primL.map encPrim := by
  unfold primNames
  rw [List.map_map]
  refine List.map_congr_left fun p _ => ?_
  simp [strPV, encPrim]
/-- A variable of one cell. -/
theorem rp_var {B : Nat} {S : Nat → Nat → Prop} {w : World} {n : Nat} {p : PV} {v : Value} (hn : n < B) (hc : w.cell? ⟨n, 0, none⟩ = some v) (h1 : v.oneCell' = true) (hp : RP B S w p v) : RP B S w (.ptr [p]) (.pointer (some ⟨n, 0, none⟩)) := by
  refine RP.ptr (vs := [v]) rfl (fun i u hu => ?_) (fun i x u hx hu => ?_)
  · match i with
    | 0 => simp at hu; subst hu; exact ⟨.inl hn, by simpa using hc, h1⟩
    | i + 1 => simp at hu
  · match i with
    | 0 => simp at hx hu; subst hx hu; exact hp
    | i + 1 => simp at hx
theorem cell_lt {w : World} {n i : Nat} {v : Value} (h : w.cell? ⟨n, i, none⟩ = some v) : n < w.heap.size := by
  unfold World.cell? at h
  by_cases hlt : n < w.heap.size
  · exact hlt
  · rw [Array.getElem?_eq_none (by show w.heap.size ≤ n; omega)] at h; simp at h
/-- A datum that is handed over. -/
theorem open_agg {v : Value} {k n : Int} {t : ByteArray} {u : Value} (h : v.cells.toList = [.int .i64 k, .int .i64 n, .string t, u]) : v = .agg #[.int .i64 k, .int .i64 n, .string t, u] := by
  cases v with
  | agg cs => simp only [Value.cells] at h; rw [← Array.toArray_toList (xs := cs), h]
  | _ => simp [Value.cells] at h
theorem rp_datum {B : Nat} {S : Nat → Nat → Prop} {w : World} {d : D} {u : Value} (h1 : u.oneCell' = true) (h : RP B S w (.slice (d.kids.map enc)) u) : RP B S w (enc d) (.agg #[.int .i64 d.kind, .int .i64 d.num, .string d.text, u]) := by
  rw [enc_eq]
  refine RP.agg (vs := [.int .i64 d.kind, .int .i64 d.num, .string d.text, u]) rfl (fun v hv => ?_) (fun i x v hx hv => ?_)
  · simp only [List.mem_cons, List.not_mem_nil, or_false] at hv
    rcases hv with rfl | rfl | rfl | rfl <;> first | rfl | exact h1
  · match i with
    | 0 => simp at hx hv; subst hx hv; exact .int
    | 1 => simp at hx hv; subst hx hv; exact .int
    | 2 => simp at hx hv; subst hx hv; exact .str
    | 3 => simp at hx hv; subst hx hv; exact h
    | i + 4 => simp at hx
end Go.Aw

/- The laid table of layer 25 and the laid errors of strconv, from the row's reading to abstract values. No program is named. -/
namespace Go.Aw
open Go Go.ChangeShapes Go.WideShapes Go.ChangeAt Go.WideMaps Go.WideElems Go.RowKit
theorem nodup_inj {α β : Type} {f : α → β} : ∀ {l : List α}, (l.map f).Nodup → ∀ {a b : α}, a ∈ l → b ∈ l → f a = f b → a = b
  | [], _, a, b, ha, _, _ => by simp at ha
  | c :: l, h, a, b, ha, hb, e => by
    rw [List.map_cons, List.nodup_cons] at h
    rcases List.mem_cons.1 ha with rfl | ha1
    · rcases List.mem_cons.1 hb with rfl | hb1
      · rfl
      · exact (h.1 (List.mem_map.2 ⟨b, hb1, e.symm⟩)).elim
    · rcases List.mem_cons.1 hb with rfl | hb1
      · exact (h.1 (List.mem_map.2 ⟨a, ha1, e⟩)).elim
      · exact nodup_inj h.2 ha1 hb1 e
theorem find_perm {β : Type} {l1 l2 : List (ByteArray × β)} (h : l1.Perm l2) (hn : (l2.map (·.1)).Nodup) (x : ByteArray) : (l1.find? fun p => decide (p.1 = x)) = l2.find? fun p => decide (p.1 = x) := by
  cases h2 : l2.find? fun p => decide (p.1 = x) with
  | none =>
    rw [List.find?_eq_none] at h2 ⊢
    exact fun p hp => h2 p (h.mem_iff.1 hp)
  | some y =>
    have hy := List.find?_some h2
    have hym := List.mem_of_find?_eq_some h2
    cases h1 : l1.find? fun p => decide (p.1 = x) with
    | none =>
      rw [List.find?_eq_none] at h1
      exact absurd hy (h1 y (h.mem_iff.2 hym))
    | some z =>
      have hz := List.find?_some h1
      have hzm := h.mem_iff.1 (List.mem_of_find?_eq_some h1)
      simp only [decide_eq_true_eq] at hy hz
      rw [nodup_inj hn hzm hym (hz.trans hy.symm)]
def shapesB : List (List UInt8 × (Nat × Nat)) := shapeL.map fun p => (p.1.data.toList, p.2)
def shB (p : List UInt8 × (Nat × Nat)) : ByteArray × (Nat × Nat) := (⟨p.1.toArray⟩, p.2)
theorem shapesB_back : shapesB.map shB = shapeL := by
  unfold shapesB
  rw [List.map_map]
  conv => rhs; rw [← List.map_id shapeL]
  refine List.map_congr_left fun p _ => ?_
  simp [shB]
theorem shapeL_nodup : (shapeL.map (·.1)).Nodup := by decide +kernel
def shO (l : List (List UInt8 × (Nat × Nat))) (h : l.Perm shapesB) : ShO where
  l := l.map shB
  find := fun x => by
    rw [find_perm (h.map shB) (by rw [shapesB_back]; exact shapeL_nodup), shapesB_back]
    rfl

def litSh {H : Type} : DataW H → Nat × Nat
  | .agg [.lit (.int _ a), .lit (.int _ b)] => (a.toNat, b.toNat)
  | _ => (0, 0)
def datSh {H : Type} (p : List UInt8 × (Nat × Nat)) : Lit × DataW H := (.string p.1, .agg [.lit (.int .i64 (p.2.1 : Nat)), .lit (.int .i64 (p.2.2 : Nat))])
section
variable {H : Type} {enc' : TypeId × Value → H} {P : Program} {w : World} {base : Nat} {sp : Nat → Bool} {held : Bool} {S : Nat → Nat → Prop} {t k e : TypeId} {fuel : Nat} {cs : List Value} {ps : List MemPlace}
theorem open_two {f0 f1 : Field} (he : P.underlying e = some (.struct #[f0, f1])) (hf0 : P.underlying f0.type = some (.int .i64)) (hf1 : P.underlying f1.type = some (.int .i64)) (o0 : f0.offset = 0) (o1 : f1.offset = 1)
    (c0 : P.cellsOf f0.type = 1) (c1 : P.cellsOf f1.type = 1) (ce : P.cellsOf e = 2) {x : DataW H × List MemPlace} (h : DataW.trod enc' P w base sp held fuel e cs = some x) : ∃ a b : Int, cs = [.int .i64 a, .int .i64 b] ∧ x.1 = .agg [.lit (.int .i64 a), .lit (.int .i64 b)] := by
  obtain ⟨xs, n, rfl, hxe, hl, hlen, hf⟩ := DataW.trod_struct he h
  have hxl : xs.length = 2 := by simpa using hlen
  have g0 := hf 0 f0 rfl
  have g1 := hf 1 f1 rfl
  rw [o0, c0] at g0
  rw [o1, c1] at g1
  have s0 : xs[0]? = some xs[0] := by simp
  have s1 : xs[1]? = some xs[1] := by simp
  rw [s0] at g0
  rw [s1] at g1
  obtain ⟨a, e0, x0, _⟩ := DataW.trod_int hf0 g0
  obtain ⟨b, e1, x1, _⟩ := DataW.trod_int hf1 g1
  have a0 := one_of e0
  have a1 := one_of e1
  refine ⟨a, b, ?_, ?_⟩
  · rw [ce] at hl
    match cs, hl, a0, a1 with
    | [u, v], _, a0, a1 =>
      simp only [List.getElem?_cons_zero, List.getElem?_cons_succ, Option.some.injEq] at a0 a1
      rw [a0, a1]
  · have hxs : xs = [xs[0], xs[1]] := by
      refine List.ext_getElem (by simp [hxl]) (fun j h1 h2 => ?_)
      match j with
      | 0 => rfl
      | 1 => rfl
      | j + 2 => simp only [List.length_cons, List.length_nil] at h2; omega
    rw [hxe, hxs]
    simp [x0, x1]
theorem open_shapes {f0 f1 : Field} (ht : P.underlying t = some (.map k e)) (hks : P.underlying k = some .string) (he : P.underlying e = some (.struct #[f0, f1])) (hf0 : P.underlying f0.type = some (.int .i64)) (hf1 : P.underlying f1.type = some (.int .i64)) (o0 : f0.offset = 0) (o1 : f1.offset = 1)
    (c0 : P.cellsOf f0.type = 1) (c1 : P.cellsOf f1.type = 1) (ce : P.cellsOf e = 2) {names : List (List UInt8 × (Nat × Nat))}
    (h : DataW.trod enc' P w base sp held fuel t cs = some (.map (names.map datSh), ps)) (hp : names.Perm shapesB) :
    ∃ (b : Nat) (s : ShO), cs = [.map (some b)] ∧ RP w.heap.size S w (.map (shK s) (shV s)) (.map (some b)) := by
  rcases WideElems.open_map ht h with ⟨_, hx⟩ | ⟨b, es, clock, n, rfl, rfl, hb, _, F, hx⟩
  · cases hx
  simp only [Prod.mk.injEq, DataW.map.injEq] at hx
  have hperm := foldr_insert_perm (es.toList.map (rg P k (elemAt enc' P w base sp held n e)))
  rw [← hx.1] at hperm
  have hl : ((es.toList.map (rg P k (elemAt enc' P w base sp held n e))).map fun y => (litStr y.1, litSh y.2)).Perm shapesB := by
    have h2 := (hperm.map fun y : Lit × DataW H => (litStr y.1, litSh y.2)).symm
    have e1 : ((names.map (datSh (H := H))).map fun y : Lit × DataW H => (litStr y.1, litSh y.2)) = names := by
      rw [List.map_map]
      conv => rhs; rw [← List.map_id names]
      refine List.map_congr_left fun p _ => ?_
      simp [datSh, litStr, litSh]
    rw [e1] at h2
    exact h2.trans hp
  refine ⟨b, shO _ hl, rfl, ?_⟩
  have hent : ∀ x, x ∈ es.toList → ∃ (s : ByteArray) (c d : Nat), x.key = .string s ∧ x.val = .agg #[.int .i64 c, .int .i64 d] ∧ shB (litStr (rg P k (elemAt enc' P w base sp held n e) x).1, litSh (rg P k (elemAt enc' P w base sp held n e) x).2) = (s, (c, d)) := by
    intro x hxm
    obtain ⟨y, hy⟩ := F.reads x hxm
    have hrg : rg P k (elemAt enc' P w base sp held n e) x = y := rg_of hy
    have hmem : y ∈ names.map (datSh (H := H)) := by
      have : y ∈ es.toList.map (rg P k (elemAt enc' P w base sp held n e)) := List.mem_map.2 ⟨x, hxm, hrg⟩
      exact hperm.mem_iff.2 this
    obtain ⟨s, _, hs⟩ := List.mem_map.1 hmem
    subst hs
    have hkey := rd_key hy
    obtain ⟨z, hz, hz2⟩ := rd_val hy
    rw [keyOf_string hks] at hkey
    have hk2 : ∃ s' : ByteArray, x.key = .string s' ∧ s'.data.toList = s.1 := by
      unfold mapKey at hkey
      rw [hks] at hkey
      split at hkey <;> simp_all [datSh]
    obtain ⟨s', h1, h2⟩ := hk2
    unfold elemAt at hz
    split at hz
    · rename_i hfm
      obtain ⟨c, d, hcs, hz3⟩ := open_two he hf0 hf1 o0 o1 c0 c1 ce hz
      rw [hz3] at hz2
      simp only [datSh, DataW.agg.injEq, List.cons.injEq, DataW.lit.injEq, Lit.int.injEq, true_and, and_true] at hz2
      refine ⟨s', s.2.1, s.2.2, h1, ?_, ?_⟩
      · rw [← hz2.1, ← hz2.2] at hcs
        cases hv : x.val with
        | agg cs => rw [hv] at hcs; simp only [Value.cells] at hcs; rw [← Array.toArray_toList (xs := cs), hcs]
        | _ => rw [hv] at hcs; simp [Value.cells] at hcs
      · rw [hrg]
        simp [datSh, litStr, litSh, shB, ← h2]
    · cases hz
  have hblt : b < w.heap.size := by
    by_cases hlt : b < w.heap.size
    · exact hlt
    · rw [Array.getElem?_eq_none (by omega)] at hb; cases hb
  refine RP.map (es := es.toList) (clock := clock) hblt (by rw [hb]) (by simp [shK, shO]) (by simp [shV, shO]) (fun i x en hx hen => ?_) (fun i x en hx hen => ?_)
  · obtain ⟨s, c, d, h1, _, h3⟩ := hent en (List.mem_of_getElem? hen)
    simp only [shK, shO, List.map_map, List.getElem?_map, hen, Option.map_some, Option.some.injEq] at hx
    subst hx
    simp only [Function.comp]
    rw [h3, h1]; exact .str
  · obtain ⟨s, c, d, _, h2, h3⟩ := hent en (List.mem_of_getElem? hen)
    simp only [shV, shO, List.map_map, List.getElem?_map, hen, Option.map_some, Option.some.injEq] at hx
    subst hx
    simp only [Function.comp]
    rw [h3, h2]
    refine RP.agg (vs := [.int .i64 c, .int .i64 d]) rfl (fun v hv => ?_) (fun i x v hx hv => ?_)
    · simp only [List.mem_cons, List.not_mem_nil, or_false] at hv
      rcases hv with rfl | rfl <;> rfl
    · match i with
      | 0 => simp at hx hv; subst hx hv; exact .int
      | 1 => simp at hx hv; subst hx hv; exact .int
      | i + 2 => simp at hx
end
/-- A variable that an error lies in. -/
theorem rp_error {B : Nat} {S : Nat → Nat → Prop} {w : World} {n : Nat} {tp : TypeId} {a : Addr} {s : ByteArray} (hn : n < B) (hc : w.cell? ⟨n, 0, none⟩ = some (.iface tp (.pointer (some a)))) (ha : w.cell? a = some (.string s)) : RP B S w (.ptr [.iface tp (.ptr [])]) (.pointer (some ⟨n, 0, none⟩)) := by
  have hspot : a.spot = none := by
    unfold World.cell? at ha
    cases hs : a.spot with
    | none => rfl
    | some s =>
      rw [hs] at ha
      split at ha <;> simp at ha
  obtain ⟨b, off, sp⟩ := a
  simp only at hspot
  subst hspot
  exact rp_var hn hc rfl (.iface (RP.ptr (vs := []) rfl (fun i v hv => by simp at hv) (fun i x v hx hv => by simp at hx)))
end Go.Aw
