/- Part of the proof that the statement holds for every input that its row lets in: an own logic of abstract values over the given model, and laws of data and programs; no program is named in it. -/
import Derived.Test.YtnibcmaaehkhlaaGreatDoorZA3
import Derived.Test.YtnibcmaaehkhlaaGreatDoorZA2
import Derived.Laws.MakeOwn
import Derived.ProofKit
import Derived.LaidMore
import Derived.OpenShut
import Derived.Stop.Joined
import Derived.StringKeys
import Derived.Shelf.SlIter.Sorted
import Derived.Shelf.SlIter.Keys
import Derived.Shelf.SortM.Plain
import Derived.Shelf.SortM.SortNone
import Derived.LaidLaws
set_option linter.unusedSimpArgs false
set_option linter.unusedVariables false
namespace Go.Aw
open Go
/-! ### names made of a letter and a number -/
/-- A name that may be bound. -/
def okName (s : ByteArray) : Prop := formed (dsym s) = true ∧ mName (dsym s) = true
def frM (d : D) : List ByteArray → ByteArray → Prop := mcata (fun d (rs : List (List ByteArray → ByteArray → Prop)) l x => (d.kind = 2 ∧ d.text = x ∧ x ∉ l) ∨ ∃ (i : Nat) (r : List ByteArray → ByteArray → Prop), rs[i]? = some r ∧ r (l ++ bnd d i) x) d
theorem frM_eq {d : D} {l : List ByteArray} {x : ByteArray} : frM d l x ↔ (d.kind = 2 ∧ d.text = x ∧ x ∉ l) ∨ ∃ (i : Nat) (y : D), (inner d)[i]? = some y ∧ frM y (l ++ bnd d i) x := by
  unfold frM
  rw [mcata_eq]
  constructor
  · rintro (h | ⟨i, r, h1, h2⟩)
    · exact .inl h
    · rw [List.getElem?_map] at h1
      obtain ⟨y, hy, rfl⟩ := Option.map_eq_some_iff.1 h1
      exact .inr ⟨i, y, hy, h2⟩
  · rintro (h | ⟨i, y, h1, h2⟩)
    · exact .inl h
    · exact .inr ⟨i, _, by rw [List.getElem?_map, h1]; rfl, h2⟩
inductive Al (B : ByteArray → Prop) : D → D → List ByteArray → List ByteArray → Prop where
  | sym {d : D} {old now : List ByteArray} {i : Nat} {x : ByteArray} (hk : d.kind = 2) (hl : lastI old d.text = some i) (hx : now[i]? = some x) : Al B d (dsym x) old now
  | free {d : D} {old now : List ByteArray} (hk : d.kind = 2) (hl : lastI old d.text = none) : Al B d d old now
  | leaf {d : D} {old now : List ByteArray} (hk : d.kind = 1 ∨ isW d sQuote = true) : Al B d d old now
  | list {d : D} {old now ns : List ByteArray} {l : List D} (hk : d.kind = 3) (hq : d.head.text ≠ sQuote) (hn : ns.length = shN d.head.text) (hB : ∀ x, x ∈ ns → B x) (hnd : ns.Nodup) (hfr : ∀ x, x ∈ ns → x ∉ now) (hl : l.length = (inner d).length)
      (h : ∀ (i : Nat) x z, (inner d)[i]? = some x → l[i]? = some z → Al B x z (old ++ bnd d i) (now ++ ns.take (bnd d i).length)) : Al B d (dlist (d.head :: ns.map dsym ++ l)) old now
theorem bnd_made {d : D} {ns : List ByteArray} {l : List D} (hk : d.kind = 3) (hn : ns.length = shN d.head.text) (i : Nat) : bnd (dlist (d.head :: ns.map dsym ++ l)) i = ns.take (bnd d i).length := by
  unfold bnd
  rw [isW_made hk, isW_made hk]
  by_cases hf : isW d sFn = true
  · obtain ⟨_, e⟩ := isW_iff.1 hf
    rw [e, show shN sFn = 2 from rfl] at hn
    match ns, hn with
    | [a, b], _ => simp [hf, dlist, D.kids, d1, d2, dsym, D.text]
  · rw [if_neg hf, if_neg hf]
    by_cases hl : (isW d sLet && (i : Int) == 1) = true
    · rw [if_pos hl, if_pos hl]
      simp only [Bool.and_eq_true] at hl
      obtain ⟨_, e⟩ := isW_iff.1 hl.1
      rw [e, show shN sLet = 1 from rfl] at hn
      match ns, hn with
      | [a], _ => simp [dlist, D.kids, d1, dsym, D.text]
    · rw [if_neg hl, if_neg hl]; rfl
theorem lastI_mem {l : List ByteArray} {x : ByteArray} {i : Nat} (h : lastI l x = some i) : x ∈ l := List.mem_of_getElem? ((lastI_spec l x).1 i h).1
theorem lastI_not {l : List ByteArray} {x : ByteArray} : lastI l x = none ↔ x ∉ l := by
  constructor
  · intro h hx
    obtain ⟨j, hj, e⟩ := List.getElem_of_mem hx
    exact (lastI_spec l x).2 h j (by rw [← e]; simp)
  · intro h
    cases hr : lastI l x with
    | none => rfl
    | some i => exact absurd (lastI_mem hr) h
/-- What the names are that stand for bound ones. -/
structure Env (B : ByteArray → Prop) (d : D) (old now : List ByteArray) : Prop where
  mem : ∀ x, x ∈ now → B x
  nd : now.Nodup
  len : now.length = old.length
  fr : ∀ x, frM d old x → ¬ B x
theorem Env.part {B : ByteArray → Prop} {d x : D} {old now ns : List ByteArray} {i : Nat} (h : Env B d old now) (hg : GoodM d) (hk : d.kind = 3) (hq : d.head.text ≠ sQuote) (hn : ns.length = shN d.head.text) (hB : ∀ x, x ∈ ns → B x) (hnd : ns.Nodup) (hfr : ∀ x, x ∈ ns → x ∉ now) (hx : (inner d)[i]? = some x) : Env B x (old ++ bnd d i) (now ++ ns.take (bnd d i).length) := by
  have hb : (bnd d i).length ≤ ns.length := by
    rcases hg.bnd_nms hk i with e | e
    · rw [e]; simp
    · rw [e, hg.nms hk hq, hn]; omega
  refine ⟨fun z hz => ?_, ?_, ?_, fun z hz => h.fr z (frM_eq.2 (.inr ⟨i, x, hx, hz⟩))⟩
  · rcases List.mem_append.1 hz with hz | hz
    · exact h.mem z hz
    · exact hB z (List.mem_of_mem_take hz)
  · refine List.nodup_append.2 ⟨h.nd, (List.take_sublist _ _).nodup hnd, fun a ha b hb e => ?_⟩
    subst e
    exact hfr a (List.mem_of_mem_take hb) ha
  · rw [List.length_append, List.length_append, h.len, List.length_take, Nat.min_eq_left hb]
theorem Al.fr {B : ByteArray → Prop} {d y : D} {old now : List ByteArray} (h : Al B d y old now) : GoodM d → Env B d old now → ∀ x, frM y now x ↔ frM d old x := by
  induction h with
  | sym hk hl hx =>
    rename_i d old now i x
    intro hg he z
    rw [frM_eq, frM_eq, inner_none (d := dsym x) (by decide : (2 : Int) ≠ 3), inner_none (d := d) (by rw [hk]; decide)]
    constructor
    · rintro (⟨_, e, hn⟩ | ⟨_, _, h, _⟩)
      · have e : x = z := e
        exact absurd (List.mem_of_getElem? hx) (e ▸ hn)
      · simp at h
    · rintro (⟨_, e, hn⟩ | ⟨_, _, h, _⟩)
      · exact absurd (lastI_mem hl) (e ▸ hn)
      · simp at h
  | free hk hl =>
    rename_i d old now
    intro hg he z
    have hf : frM d old d.text := frM_eq.2 (.inl ⟨hk, rfl, lastI_not.1 hl⟩)
    have hn : d.text ∉ now := fun hm => he.fr _ hf (he.mem _ hm)
    rw [frM_eq, frM_eq, inner_none (d := d) (by rw [hk]; decide)]
    constructor
    · rintro (⟨h1, e, _⟩ | ⟨_, _, h, _⟩)
      · exact .inl ⟨h1, e, e ▸ lastI_not.1 hl⟩
      · simp at h
    · rintro (⟨h1, e, _⟩ | ⟨_, _, h, _⟩)
      · exact .inl ⟨h1, e, e ▸ hn⟩
      · simp at h
  | leaf hk =>
    rename_i d old now
    intro hg he z
    have hi : inner d = [] ∧ d.kind ≠ 2 := by
      rcases hk with hk | hk
      · exact ⟨inner_none (by rw [hk]; decide), by rw [hk]; decide⟩
      · obtain ⟨h1, h2⟩ := isW_iff.1 hk
        exact ⟨inner_quote h2, by rw [h1]; decide⟩
    rw [frM_eq, frM_eq, hi.1]
    constructor
    · rintro (⟨h1, _⟩ | ⟨_, _, h, _⟩)
      · exact absurd h1 hi.2
      · simp at h
    · rintro (⟨h1, _⟩ | ⟨_, _, h, _⟩)
      · exact absurd h1 hi.2
      · simp at h
  | list hk hq hn hB hnd hfr hl h ih =>
    rename_i d old now ns l
    intro hg he z
    rw [frM_eq, frM_eq (d := d), inner_made hq hn]
    constructor
    · rintro (⟨h1, _⟩ | ⟨i, x, hx, h2⟩)
      · exact absurd h1 (show (3 : Int) ≠ 2 by decide)
      · obtain ⟨hi, _⟩ := List.getElem?_eq_some_iff.1 hx
        have hy : (inner d)[i]? = some ((inner d)[i]'(by omega)) := by simp
        rw [bnd_made hk hn] at h2
        exact .inr ⟨i, _, hy, (ih i _ x hy hx (hg.part (List.mem_of_getElem? hy)) (he.part hg hk hq hn hB hnd hfr hy) z).1 h2⟩
    · rintro (⟨h1, _⟩ | ⟨i, x, hx, h2⟩)
      · rw [hk] at h1; cases h1
      · obtain ⟨hi, _⟩ := List.getElem?_eq_some_iff.1 hx
        have hy : l[i]? = some (l[i]'(by omega)) := by simp
        refine .inr ⟨i, _, hy, ?_⟩
        rw [bnd_made hk hn]
        exact (ih i x _ hx hy (hg.part (List.mem_of_getElem? hx)) (he.part hg hk hq hn hB hnd hfr hx) z).2 h2
/-- A term with other names and other terms in it. -/
theorem GoodM.remade {d : D} (h : GoodM d) (hk : d.kind = 3) (hq : d.head.text ≠ sQuote) {ns : List ByteArray} {l : List D} (hn : ns.length = shN d.head.text) (hok : ∀ x, x ∈ ns → okName x) (hl : l.length = (inner d).length) (hg : ∀ x, x ∈ l → GoodM x) : GoodM (dlist (d.head :: ns.map dsym ++ l)) := by
  obtain ⟨hne, h2, hf0, _, _⟩ := h.list hk
  have hnl := h.nms hk hq
  have hlen := h.inner_length hk hq
  refine ⟨?_, ?_⟩
  · rw [formed_dlist]
    intro x hx
    rw [List.cons_append, List.mem_cons, List.mem_append] at hx
    rcases hx with rfl | hx | hx
    · exact hf0
    · obtain ⟨s, hs, rfl⟩ := List.mem_map.1 hx
      exact (hok s hs).1
    · exact (hg x hx).formed
  · have h0 := h.ok
    have k2 : (d.kind == 2) = false := by rw [hk]; rfl
    have km : mName d = false := by unfold mName; rw [k2]; rfl
    have k1 : (d.kind == 1) = false := by rw [hk]; rfl
    have kl : (d.kids.length : Int) = ((dlist (d.head :: ns.map dsym ++ l)).kids.length : Int) := by
      rw [made_kids, hlen]; simp [hn, hl]; omega
    have kt : ((dlist (d.head :: ns.map dsym ++ l)).kids.drop 1).take (shN d.head.text) = ns.map dsym := by
      rw [made_kids, List.drop_succ_cons, List.drop_zero, List.take_left' (by simp [hn])]
    have kn : (((dlist (d.head :: ns.map dsym ++ l)).kids.drop 1).take (shN d.head.text)).any (fun x => !mName x) = false := by
      rw [kt, List.any_eq_false]
      intro x hx
      obtain ⟨s, hs, rfl⟩ := List.mem_map.1 hx
      rw [(hok s hs).2]; simp
    have hml : mchkL l = 0 := mchkL_zero.2 fun x hx => (hg x hx).ok
    have hx : mName (dlist (d.head :: ns.map dsym ++ l)) = false := rfl
    rw [mchk_eq, k1, km, if_neg (by decide)] at h0
    rw [mchk_eq, show ((dlist (d.head :: ns.map dsym ++ l)).kind == 1) = false from rfl, hx, if_neg (by decide), made_head, inner_made hq hn, hml, ← kl]
    have hc : (d.kind != 3 || (d.kids.length : Int) == 0 || d.head.kind != 2) = ((dlist (d.head :: ns.map dsym ++ l)).kind != 3 || (d.kids.length : Int) == 0 || d.head.kind != 2) := by rw [hk]; rfl
    rw [← hc]
    split at h0
    · exact absurd h0 (by decide)
    · rename_i hcc
      rw [if_neg hcc]
      cases hs : shp d.head.text with
      | none =>
        rw [hs] at h0
        simp only at h0 ⊢
        split at h0
        · exact absurd h0 (by decide)
        · rename_i ha
          rw [if_neg ha]
          split at h0
          · exact absurd h0 (by decide)
          · rename_i hb
            rw [if_neg hb]
      | some p =>
        obtain ⟨a, b⟩ := p
        rw [hs] at h0
        rw [shN_of hs] at kn
        simp only at h0 ⊢
        rw [kn, Bool.or_false]
        split at h0
        · exact absurd h0 (by decide)
        · rename_i ha
          simp only [Bool.or_eq_true, not_or] at ha
          rw [if_neg ha.1]
theorem size_leaf {d : D} (h : GoodM d) (hk : d.kind = 2) : d.size = 1 ∧ d.deep = 1 := by
  obtain ⟨_, hks, _⟩ := formed_sym h.formed hk
  constructor
  · cases d
    simp only [D.kids] at hks
    subst hks
    rfl
  · rw [deep_kids, hks]; rfl
theorem Al.good {B : ByteArray → Prop} (hok : ∀ x, B x → okName x) {d y : D} {old now : List ByteArray} (h : Al B d y old now) : GoodM d → (∀ x, x ∈ now → B x) → GoodM y ∧ y.size ≤ d.size ∧ y.deep ≤ d.deep := by
  induction h with
  | sym hk hl hx =>
    rename_i d old now i x
    intro hg hB
    have h1 := hok x (hB x (List.mem_of_getElem? hx))
    obtain ⟨h2, h3⟩ := size_leaf hg hk
    refine ⟨⟨h1.1, ?_⟩, by rw [h2]; exact Nat.le_refl _, by rw [h3]; exact Nat.le_refl _⟩
    rw [mchk_eq, h1.2, if_pos (by simp)]
  | free hk hl => exact fun hg _ => ⟨hg, Nat.le_refl _, Nat.le_refl _⟩
  | leaf hk => exact fun hg _ => ⟨hg, Nat.le_refl _, Nat.le_refl _⟩
  | list hk hq hn hB hnd hfr hl h ih =>
    rename_i d old now ns l
    intro hg hBn
    have hnl := hg.nms hk hq
    have hsp := hg.split hk hq
    have hin : ∀ (i : Nat) z, l[i]? = some z → ∃ x, (inner d)[i]? = some x ∧ GoodM z ∧ z.size ≤ x.size ∧ z.deep ≤ x.deep := by
      intro i z hz
      obtain ⟨hi, _⟩ := List.getElem?_eq_some_iff.1 hz
      have hx : (inner d)[i]? = some ((inner d)[i]'(by omega)) := by simp
      refine ⟨_, hx, ih i _ z hx hz (hg.part (List.mem_of_getElem? hx)) fun w hw => ?_⟩
      rcases List.mem_append.1 hw with hw | hw
      · exact hBn w hw
      · exact hB w (List.mem_of_mem_take hw)
    have hmem : ∀ z, z ∈ l → ∃ x, x ∈ inner d ∧ GoodM z ∧ z.size ≤ x.size ∧ z.deep ≤ x.deep := by
      intro z hz
      obtain ⟨i, hi, rfl⟩ := List.getElem_of_mem hz
      obtain ⟨x, hx, h⟩ := hin i _ (List.getElem?_eq_getElem hi)
      exact ⟨x, List.mem_of_getElem? hx, h⟩
    have hsz : ∀ (a b : List D), a.length = b.length → (∀ (i : Nat) x z, b[i]? = some x → a[i]? = some z → z.size ≤ x.size) → D.sizes a ≤ D.sizes b := by
      intro a
      induction a with
      | nil => intro b _ _; simp [D.sizes]
      | cons z a iha =>
        intro b hab hh
        match b, hab with
        | x :: b, hab =>
          simp only [D.sizes]
          have h1 := hh 0 x z rfl rfl
          have h2 := iha b (by simpa using hab) fun i x z hx hz => hh (i + 1) x z (by simpa using hx) (by simpa using hz)
          omega
    refine ⟨hg.remade hk hq hn (fun x hx => hok x (hB x hx)) hl fun z hz => (hmem z hz).choose_spec.2.1, ?_, ?_⟩
    · have e := hg.self hk hq
      have e1 : d.size = 1 + (d.head.size + (nmsD d).length + D.sizes (inner d)) := by
        conv => lhs; rw [← e]
        rw [size_list, sizes_append]; simp only [D.sizes, sizes_syms]
      rw [size_list, sizes_append]
      simp only [D.sizes, sizes_syms]
      have := hsz l (inner d) hl fun i x z hx hz => by
        obtain ⟨x', hx', h⟩ := hin i z hz
        rw [hx] at hx'; cases hx'
        exact h.2.1
      omega
    · rw [deep_dlist, deep_kids d, hsp]
      have : D.deeps (d.head :: ns.map dsym ++ l) ≤ D.deeps (d.head :: (nmsD d).map dsym ++ inner d) := by
        rw [deeps_le]
        intro x hx
        rw [List.cons_append, List.mem_cons, List.mem_append] at hx
        rcases hx with rfl | hx | hx
        · exact deep_le_deeps (by simp)
        · obtain ⟨s, hs, rfl⟩ := List.mem_map.1 hx
          have h0 : 0 < (nmsD d).length := by rw [hnl, ← hn]; exact List.length_pos_of_mem hs
          obtain ⟨s0, r0, hr⟩ : ∃ s0 r0, nmsD d = s0 :: r0 := by
            cases hh : nmsD d with
            | nil => rw [hh] at h0; simp at h0
            | cons s0 r0 => exact ⟨s0, r0, rfl⟩
          have : (dsym s0).deep ≤ D.deeps (d.head :: (nmsD d).map dsym ++ inner d) := deep_le_deeps (by rw [hr]; simp)
          exact this
        · obtain ⟨y, hy, _, _, hdp⟩ := hmem x hx
          exact Nat.le_trans hdp (deep_le_deeps (by simp [hy]))
      omega
end Go.Aw

namespace Go.Aw
open Go
end Go.Aw

namespace Go.Aw
open Go
section
variable {d : D} (h : GoodM d) (hk : d.kind = 3) (hq : d.head.text ≠ sQuote)
include h hk hq
end
theorem toPV_enc (d : D) : toPV (.pv (enc d)) = some (enc d) := by
  show some (enc d).nrm = _
  rw [nrm_enc]
end Go.Aw

namespace Go.Aw
open Go
/-! ### a term with other terms in it -/
def xB (s : ByteArray) : ByteArray := ⟨#[120, 46]⟩ ++ s
def xD (d : D) : D := dsym (xB d.text)
def sPrn : ByteArray := ⟨#[112, 114, 105, 110, 116]⟩
def gX : D := dsym ⟨#[120, 46]⟩
def exFn (h f x a : D) : D := if decide (f.text = x.text) = true then dlist [h, dlist [xD x], a] else dlist [dsym sRec, dlist [dlist [xD f, dlist [xD x], a]], xD f]
def exApp (rs : List D) : D := if ((rs.headD dnone).kind != 2) = true then dlist [dlist [dsym sLet, gX, rs.headD dnone, gX], d1 rs] else dlist rs
def exStep (d : D) (rs : List D) : D :=
  if (d.kind == 2) = true then xD d else if (d.kind != 3) = true then d else if decide (d.head.text = sQuote) = true then d else
  if decide (d.head.text = sFn) = true then exFn d.head (d1 d.kids) (d2 d.kids) (rs.headD dnone) else
  if decide (d.head.text = sLet) = true then dlist [d.head, xD (d1 d.kids), rs.headD dnone, d1 rs] else
  if decide (d.head.text = sApp) = true then exApp rs else
  if decide (d.head.text = sSay) = true then dlist [dsym sPrn, rs.headD dnone] else dlist (d.head :: rs)
/-- A term of one level as an expression. -/
def mexpr (d : D) : D := mcata exStep d
theorem mexpr_eq (d : D) : mexpr d = exStep d ((inner d).map mexpr) := by unfold mexpr; rw [mcata_eq]
theorem mexpr_sym {d : D} (hk : d.kind = 2) : mexpr d = xD d := by rw [mexpr_eq]; unfold exStep; rw [if_pos (by rw [hk]; rfl)]
theorem mexpr_num {d : D} (hk : d.kind = 1) : mexpr d = d := by rw [mexpr_eq]; unfold exStep; rw [if_neg (by rw [hk]; decide), if_pos (by rw [hk]; decide)]
theorem mexpr_quote {d : D} (hw : isW d sQuote = true) : mexpr d = d := by
  obtain ⟨hk, hq⟩ := isW_iff.1 hw
  rw [mexpr_eq]; unfold exStep; rw [if_neg (by rw [hk]; decide), if_neg (by rw [hk]; decide), if_pos (decide_eq_true hq)]
theorem mexpr_list {d : D} (hk : d.kind = 3) (hq : d.head.text ≠ sQuote) : mexpr d =
    if decide (d.head.text = sFn) = true then exFn d.head (d1 d.kids) (d2 d.kids) (((inner d).map mexpr).headD dnone) else
    if decide (d.head.text = sLet) = true then dlist [d.head, xD (d1 d.kids), ((inner d).map mexpr).headD dnone, d1 ((inner d).map mexpr)] else
    if decide (d.head.text = sApp) = true then exApp ((inner d).map mexpr) else
    if decide (d.head.text = sSay) = true then dlist [dsym sPrn, ((inner d).map mexpr).headD dnone] else dlist (d.head :: (inner d).map mexpr) := by
  rw [mexpr_eq]; unfold exStep; rw [if_neg (by rw [hk]; decide), if_neg (by rw [hk]; decide), if_neg (by simpa using hq)]
theorem mexpr_kind {d : D} (h : GoodM d) : ((mexpr d).kind == 2) = (d.kind == 2) := by
  rcases h.kind with hk | ⟨hk, _⟩ | hk
  · rw [mexpr_num hk]
  · rw [mexpr_sym hk, hk]; rfl
  · by_cases hq : d.head.text = sQuote
    · rw [mexpr_quote (isW_iff.2 ⟨hk, hq⟩)]
    · rw [mexpr_list hk hq, hk]
      unfold exFn exApp
      split
      · split <;> rfl
      · split
        · rfl
        · split
          · split <;> rfl
          · split <;> rfl
theorem head_sym {d : D} (h : GoodM d) (hk : d.kind = 3) {w : ByteArray} (ht : d.head.text = w) : d.head = dsym w := by
  obtain ⟨_, h2, h3, _⟩ := h.list hk
  rw [← ht, sym_self h3 h2]
theorem mexpr_size {d : D} : GoodM d → (mexpr d).size ≤ 3 * d.size := by
  induction d using D.ind with
  | _ k n t l ih =>
    generalize hd : D.mk k n t l = d at *
    have hl : d.kids = l := by rw [← hd]; rfl
    subst hl
    clear hd
    intro hg
    have hp := D.size_pos d
    rcases hg.kind with hk | ⟨hk, _⟩ | hk
    · rw [mexpr_num hk]; omega
    · rw [mexpr_sym hk]; simp [xD, dsym, D.size, D.sizes]; omega
    · by_cases hq : d.head.text = sQuote
      · rw [mexpr_quote (isW_iff.2 ⟨hk, hq⟩)]; omega
      · have hih : ∀ x, x ∈ inner d → (mexpr x).size ≤ 3 * x.size := fun x hx => ih x (inner_mem hx) (hg.part hx)
        have hself := hg.self hk hq
        have hsz : d.size = 1 + (d.head.size + (nmsD d).length + D.sizes (inner d)) := by
          conv => lhs; rw [← hself]
          rw [size_list, sizes_append]; simp only [D.sizes, sizes_syms]
        have hhd := D.size_pos d.head
        have hnl := hg.nms hk hq
        rw [mexpr_list hk hq]
        rcases (hg.list hk).2.2.2.2 with ⟨e, _⟩ | ⟨e, f, y, b, hks, hi, hf, hy⟩ | ⟨e, y, a, b, hks, hi, hy⟩ | ⟨_, hks, _, hf, hl, hn⟩
        · exact absurd e hq
        · rw [if_pos (decide_eq_true e), hi]
          have h1 := hih b (by rw [hi]; simp)
          rw [hi] at hsz
          rw [hnl, e, show shN sFn = 2 from rfl] at hsz
          simp only [D.sizes] at hsz
          unfold exFn
          split
          · simp only [List.map_cons, List.map_nil, List.headD_cons, size_list, D.sizes, xD, dsym, D.size]; omega
          · simp only [List.map_cons, List.map_nil, List.headD_cons, size_list, D.sizes, xD, dsym, D.size]; omega
        · rw [if_neg (by rw [e]; decide), if_pos (decide_eq_true e), hi]
          have h1 := hih a (by rw [hi]; simp)
          have h2 := hih b (by rw [hi]; simp)
          rw [hi] at hsz
          rw [hnl, e, show shN sLet = 1 from rfl] at hsz
          simp only [D.sizes] at hsz
          simp only [List.map_cons, List.map_nil, List.headD_cons, size_list, D.sizes, xD, dsym, D.size, d1, List.getD_cons_succ, List.getD_cons_zero]; omega
        · rw [if_neg (by simpa using hf), if_neg (by simpa using hl)]
          have hsum : ∀ m : List D, (∀ x, x ∈ m → x ∈ inner d) → D.sizes (m.map mexpr) ≤ 3 * D.sizes m := by
            intro m
            induction m with
            | nil => intro _; simp [D.sizes]
            | cons x m ih2 =>
              intro hm
              have a1 := hih x (hm x (by simp))
              have a2 := ih2 fun y hy => hm y (by simp [hy])
              simp only [List.map_cons, D.sizes]; omega
          have hs1 := hsum (inner d) fun _ h => h
          split
          · rename_i ha
            have e : d.head.text = sApp := by simpa using ha
            rw [e, if_neg (by decide), if_pos (.inl rfl)] at hn
            have h2 : (inner d).length = 2 := by omega
            match hii : inner d, h2 with
            | [p, q], _ =>
              rw [hii] at hs1 hsz
              simp only [List.map_cons, List.map_nil, D.sizes] at hs1 hsz
              unfold exApp
              split
              · simp only [List.map_cons, List.map_nil, List.headD_cons, size_list, D.sizes, gX, dsym, D.size, d1, List.getD_cons_succ, List.getD_cons_zero]; omega
              · simp only [List.map_cons, List.map_nil, size_list, D.sizes]; omega
          · split
            · rename_i ha
              have e : d.head.text = sSay := by simpa using ha
              rw [e, if_neg (by decide), if_neg (by decide), if_pos (.inl rfl)] at hn
              have h2 : (inner d).length = 1 := by omega
              match hii : inner d, h2 with
              | [p], _ =>
                rw [hii] at hs1 hsz
                simp only [List.map_cons, List.map_nil, D.sizes] at hs1 hsz
                simp only [List.map_cons, List.map_nil, List.headD_cons, size_list, D.sizes, dsym, D.size]; omega
            · rw [size_list]; simp only [D.sizes]; omega
def mexprR (d : D) : D × Int := if (mcheck d != 0) = true then (dnone, mcheck d) else if decide (0 < (mfree d [] []).length) = true then (dnone, 12) else if (!mone d) = true then (dnone, 13) else if (dcheck (mexpr d) != 0) = true then (dnone, 3) else (mexpr d, 0)
/-- What a list that is a term has in it, by its first word. -/
theorem GoodM.app {d : D} (h : GoodM d) (hw : isW d sApp = true) : ∃ a b, inner d = [a, b] ∧ d.kids = [d.head, a, b] ∧ d.kind = 3 ∧ d.head.text = sApp := by
  obtain ⟨hk, ht⟩ := isW_iff.1 hw
  rcases (h.list hk).2.2.2.2 with ⟨e, _⟩ | ⟨e, _⟩ | ⟨e, _⟩ | ⟨_, hks, _, hf, hl, hn⟩
  · rw [e] at ht; exact absurd ht (by decide)
  · rw [e] at ht; exact absurd ht (by decide)
  · rw [e] at ht; exact absurd ht (by decide)
  · rw [ht, if_neg (by decide), if_pos (.inl rfl)] at hn
    match hi : inner d, (show (inner d).length = 2 by omega) with
    | [a, b], _ => exact ⟨a, b, rfl, by rw [hks, hi], hk, ht⟩
theorem GoodM.say {d : D} (h : GoodM d) (hw : isW d sSay = true) : ∃ a, inner d = [a] ∧ d.kind = 3 ∧ d.head.text = sSay := by
  obtain ⟨hk, ht⟩ := isW_iff.1 hw
  rcases (h.list hk).2.2.2.2 with ⟨e, _⟩ | ⟨e, _⟩ | ⟨e, _⟩ | ⟨_, hks, _, hf, hl, hn⟩
  · rw [e] at ht; exact absurd ht (by decide)
  · rw [e] at ht; exact absurd ht (by decide)
  · rw [e] at ht; exact absurd ht (by decide)
  · rw [ht, if_neg (by decide), if_neg (by decide), if_pos (.inl rfl)] at hn
    match hi : inner d, (show (inner d).length = 1 by omega) with
    | [a], _ => exact ⟨a, rfl, hk, ht⟩
@[go_sem high] theorem seq_enc4 (x y z u : D) : seqPV 4 0 [(0, AV.pv (enc x)), (1, AV.pv (enc y)), (2, AV.pv (enc z)), (3, AV.pv (enc u))] = some [enc x, enc y, enc z, enc u] := by simp [seqPV, toPV, atomToPV, nrm_enc, enc_cells]
theorem flat2_enc (u v : D) : flat [enc u, enc v] = [.int .i64 u.kind, .int .i64 u.num, .str u.text, .slice (u.kids.map enc), .int .i64 v.kind, .int .i64 v.num, .str v.text, .slice (v.kids.map enc)] := by
  have e : flat [enc u, enc v] = (enc u).cells ++ ((enc v).cells ++ []) := rfl
  rw [e, enc_cells, enc_cells]; rfl
theorem mexpr_fn {d f x b : D} (h : GoodM d) (hw : isW d sFn = true) (h1 : d1 d.kids = f) (h2 : d2 d.kids = x) (hi : inner d = [b]) : mexpr d = exFn (dsym sFn) f x (mexpr b) := by
  obtain ⟨hk, ht⟩ := isW_iff.1 hw
  rw [mexpr_list hk (by rw [ht]; decide), if_pos (decide_eq_true ht), head_sym h hk ht, h1, h2, hi]; rfl
theorem mexpr_let {d y a b : D} (h : GoodM d) (hw : isW d sLet = true) (h1 : d1 d.kids = y) (hi : inner d = [a, b]) : mexpr d = dlist [d.head, xD y, mexpr a, mexpr b] := by
  obtain ⟨hk, ht⟩ := isW_iff.1 hw
  rw [mexpr_list hk (by rw [ht]; decide), if_neg (by rw [ht]; decide), if_pos (decide_eq_true ht), h1, hi]; rfl
theorem mexpr_app {d a b : D} (hw : isW d sApp = true) (hi : inner d = [a, b]) : mexpr d = if ((mexpr a).kind != 2) = true then dlist [dlist [dsym sLet, gX, mexpr a, gX], mexpr b] else dlist [mexpr a, mexpr b] := by
  obtain ⟨hk, ht⟩ := isW_iff.1 hw
  rw [mexpr_list hk (by rw [ht]; decide), if_neg (by rw [ht]; decide), if_neg (by rw [ht]; decide), if_pos (decide_eq_true ht), hi]; rfl
theorem mexpr_say {d a : D} (hw : isW d sSay = true) (hi : inner d = [a]) : mexpr d = dlist [dsym sPrn, mexpr a] := by
  obtain ⟨hk, ht⟩ := isW_iff.1 hw
  rw [mexpr_list hk (by rw [ht]; decide), if_neg (by rw [ht]; decide), if_neg (by rw [ht]; decide), if_neg (by rw [ht]; decide), if_pos (decide_eq_true ht), hi]; rfl
theorem mexpr_op {d : D} (hk : d.kind = 3) (hq : isW d sQuote = false) (hf : isW d sFn = false) (hl : isW d sLet = false) (ha : isW d sApp = false) (hs : isW d sSay = false) : mexpr d = dlist (d.head :: (inner d).map mexpr) := by
  rw [mexpr_list hk (isW_ne hk hq), if_neg (by simpa using isW_ne hk hf), if_neg (by simpa using isW_ne hk hl), if_neg (by simpa using isW_ne hk ha), if_neg (by simpa using isW_ne hk hs)]
theorem ePrn : sPrn = ⟨#[112, 114, 105, 110, 116]⟩ := Eq.trans rfl rfl
theorem eRec' : sRec = ⟨#[114, 101, 99]⟩ := Eq.trans rfl rfl
end Go.Aw

namespace Go.Aw
open Go
section
variable {P : Program} {ty : TyT} {g0 g : Ghost} {σ0 : Store} {w0 w : World} {N : Nat} {s : St} {a : Act} {o : Oper} {x : AV} {next : St → Prop} {tk : List Tok} {ops : Array Oper} {os : List Oper} {K : St → Prop} {L : List (List AV)} {σ : Store}
theorem flat_set {sz : Nat} : ∀ {xs : List PV} {j : Nat} {q : PV}, (∀ x, x ∈ xs → x.cells.length = sz) → q.cells.length = sz → j < xs.length → flat (xs.set j q) = (flat xs).take (j * sz) ++ q.cells ++ (flat xs).drop (j * sz + sz)
  | [], j, q, _, _, h => by simp at h
  | x :: xs, 0, q, h, hq, _ => by
    have hx := h x (by simp)
    have e : ∀ l : List PV, flat (x :: l) = x.cells ++ flat l := fun l => rfl
    have e2 : ∀ l : List PV, flat (q :: l) = q.cells ++ flat l := fun l => rfl
    rw [List.set_cons_zero, e2, e, Nat.zero_mul, Nat.zero_add, List.take_zero, List.nil_append, List.drop_left' hx]
  | x :: xs, j + 1, q, h, hq, hj => by
    have hx := h x (by simp)
    have e : ∀ (y : PV) (l : List PV), flat (y :: l) = y.cells ++ flat l := fun y l => rfl
    rw [List.set_cons_succ, e, e, flat_set (fun y hy => h y (by simp [hy])) hq (by simpa using hj)]
    rw [show (j + 1) * sz = x.cells.length + j * sz by rw [hx, Nat.add_mul]; omega, List.take_length_add_append, Nat.add_assoc, List.drop_length_add_append]
    simp [List.append_assoc]

theorem RelG.newRow (r : RelG g0 σ0 w0 N g s a w) (hd : dstOk N o.dst = true) {e : TypeId} {sz cap : Nat} {ys : List PV} {us rest : List Value} (hsz : ∀ x, x ∈ ys → x.cells.length = sz) (hcap : ys.length ≤ cap) (hmax : cap ≤ maxLen) (hul : us.length = ys.length * sz)
    (hrl : rest.length = (cap - ys.length) * sz) (hu1 : ∀ v, v ∈ us → v.oneCell' = true) (hur : ∀ (i : Nat) x u, (flat ys)[i]? = some x → us[i]? = some u → RP g.B g.S w x u) (h0 : 0 < cap) :
    ∃ g', RelG g0 σ0 w0 N g' (({ s with σ := { s.σ with objs := s.σ.objs ++ [.row e sz cap ys] } } : St).put o.dst (.scr s.σ.objs.length ys.length cap)) (a.put o.dst (.slice (some ⟨w.heap.size, 0, none⟩) ys.length cap)) (w.drew.alloc (.cells (us ++ rest).toArray e)) := by
  have k := r.2.1.drewN (w' := w.drew) rfl
  have r1 : RelG g0 σ0 w0 N g s a w.drew := r.later (σ' := s.σ) (L' := s.L) k.2 (fun _ _ h => h) k.1 rfl rfl (fun _ _ => rfl) (Nat.le_refl _) rfl rfl rfl
  obtain ⟨r2, f⟩ := r1.alloc (.cells (us ++ rest).toArray e)
  have hal := k.1.alloc (.cells (us ++ rest).toArray e)
  have hle := k.2.trans hal.2
  have hb : (w.drew.alloc (.cells (us ++ rest).toArray e)).heap[w.heap.size]? = some (.cells (us ++ rest).toArray e (0, 0)) := heap_alloc_at w.drew _
  have r3 := r2.addObj f (ob := .row e sz cap ys) ⟨hsz, hcap, hmax, us, rest, hb, hul, hrl, hu1, fun i x u hx hu => (hur i x u hx hu).mono hle.keeps⟩
  have hio : (g.io ++ [w.drew.heap.size])[s.σ.objs.length]? = some w.heap.size := by
    rw [← r.2.1.lio]; simp
  exact ⟨_, r3.put (.scr hio hcap h0) hd⟩

theorem Inv.setRow (h : Inv g σ L w) {i b : Nat} {ob' : Obj} (hb : w.heap[b]? = some ob') (hi : g.io[i]? = some b) {e : TypeId} {sz cap : Nat} {ys : List PV} {us rest : List Value} (hsz : ∀ x, x ∈ ys → x.cells.length = sz) (hcap : ys.length ≤ cap) (hmax : cap ≤ maxLen) (hul : us.length = ys.length * sz)
    (hrl : rest.length = (cap - ys.length) * sz) (hu1 : ∀ v, v ∈ us → v.oneCell' = true) (hur : ∀ (i : Nat) x u, (flat ys)[i]? = some x → us[i]? = some u → RP g.B g.S w x u) :
    Inv g { σ with objs := σ.objs.set i (.row e sz cap ys) } L (setBlk w b (.cells (us ++ rest).toArray e (0, 0))) := by
  obtain ⟨le, hK⟩ := h.turn (ob := .cells (us ++ rest).toArray e (0, 0)) hb (.inl (List.mem_of_getElem? hi))
  have ap := h.apart
  have hbl : b ∈ g.io := List.mem_of_getElem? hi
  refine ⟨by simp [h.lio], h.llam, h.ltb, fun n p hp => (h.glob n p hp).mono le.keeps, h.nodup, fun c hc => by rw [setBlk_size]; exact h.low c hc, fun c hc => by rw [setBlk_size]; exact h.kept c hc, by rw [setBlk_size]; exact h.base, fun c o hS => by rw [setBlk_size]; exact h.cells c o hS, fun j ob c ho hio => ?_, fun j cs' c hL hl => ?_, fun k t tb ht htb => ?_⟩
  · simp only [List.getElem?_set] at ho
    split at ho
    · subst_vars
      rw [hi] at hio; cases hio
      split at ho
      · cases ho
        exact ⟨hsz, hcap, hmax, us, rest, setBlk_at hb, hul, hrl, hu1, fun i x u hx hu => (hur i x u hx hu).mono le.keeps⟩
      · cases ho
    · refine (h.objs j ob c ho hio).mono le (fun _ _ h => h) (setBlk_other ?_)
      rintro rfl; exact ‹¬ i = j› (nodup_get ap.1.1 hi hio)
  · refine (h.priv j cs' c hL hl).mono le (fun _ _ h => h) (setBlk_other ?_)
    rintro rfl; exact ap.2.1 _ hbl (List.mem_of_getElem? hl)
  · obtain ⟨cur, h1, h2⟩ := h.toks k t tb ht htb
    refine ⟨cur, (setBlk_other ?_).trans h1, h2⟩
    intro he; exact (ap.2.2 k tb htb).1 (he ▸ hbl)

theorem pvq_cells (q : PV) : (AV.pv q).cells = some (q.cells.map .pv) := by cases q <;> rfl

/-- An element is written over. -/
theorem aop_storeRow (hty : TyOk P ty) {e t : TypeId} {te : TyI} {p y : Operand} {i j cap : Nat} {xs : List PV} {q : PV} (ho : o.op = .store t p y) (hp : ev s p = .ptr i (j * te.size)) (hte : ty t = some te) (hcs : s.σ.objs[i]? = some (.row e te.size cap xs)) (hj : j < xs.length) (hds : toPV (ev s y) = some q)
    (hsz : q.cells.length = te.size) (hd : dstOk N o.dst = true) (hn : next (({ s with σ := { s.σ with objs := s.σ.objs.set i (.row e te.size cap (xs.set j q)) } } : St).put o.dst .junk)) : AOp P σ0 N o next s := by
  rintro g0 w0 a w nx Q ⟨g, r⟩ hnx
  have hy := (r.ev y).toPV hds
  obtain ⟨us, h1, h2, h2b, h2c⟩ := (RA.pv (tk := s.σ.toks) hy).cells (pvq_cells q)
  rw [List.length_map] at h2
  have hpr := r.ev p
  rw [hp] at hpr
  generalize hpv : a.eval p = pv at hpr
  cases hpr with
  | ptr hb =>
    rename_i b
    obtain ⟨h3, h4, h5, vs, rest, h6, h7, h8, h9, h10⟩ := r.2.1.objs i _ b hcs hb
    have hfl : (flat xs).length = vs.length := by rw [flat_length h3, h7]
    have hmul : j * te.size + te.size ≤ vs.length := by
      rw [h7, ← Nat.succ_mul]; exact Nat.mul_le_mul_right _ hj
    have hrun := run_storeVar (P := P) (w := w) (off := j * te.size) hty hte h1 h2b (by rw [h2]; exact hsz) h6 (by rw [h2, hsz, List.length_append]; omega)
    rw [h2, hsz] at hrun
    have hnew : (vs ++ rest).take (j * te.size) ++ us ++ (vs ++ rest).drop (j * te.size + te.size) = (vs.take (j * te.size) ++ us ++ vs.drop (j * te.size + te.size)) ++ rest := by
      rw [List.take_append_of_le_length (by omega), List.drop_append_of_le_length hmul]
      simp [List.append_assoc]
    rw [hnew] at hrun
    have hset := flat_set h3 hsz hj
    have hinv := r.2.1.setRow (e := e) (sz := te.size) (cap := cap) (ys := xs.set j q) (us := vs.take (j * te.size) ++ us ++ vs.drop (j * te.size + te.size)) (rest := rest) h6 hb (fun x hx => by
      rcases List.mem_or_eq_of_mem_set hx with hx | rfl
      · exact h3 x hx
      · exact hsz) (by simpa using h4) h5 (by
        rw [List.length_set, List.length_append, List.length_append, List.length_take, List.length_drop, h2, hsz, ← h7]; omega) (by rw [List.length_set]; exact h8) (fun v hv => by
        simp only [List.mem_append] at hv
        rcases hv with (hv | hv) | hv
        · exact h9 v (List.mem_of_mem_take hv)
        · exact h2b v hv
        · exact h9 v (List.mem_of_mem_drop hv)) (fun n x u hx hu => by
        rw [hset] at hx
        by_cases c1 : n < j * te.size
        · rw [List.append_assoc, List.getElem?_append_left (by rw [List.length_take]; omega), List.getElem?_take, if_pos c1] at hx hu
          exact h10 n x u hx hu
        · rw [List.append_assoc, List.getElem?_append_right (by rw [List.length_take]; omega), List.length_take, Nat.min_eq_left (by omega)] at hx hu
          by_cases c2 : n - j * te.size < te.size
          · rw [List.getElem?_append_left (by omega)] at hx hu
            exact (h2c (n - j * te.size) (.pv x) u (by rw [List.getElem?_map, hx]; rfl) hu).pv_inv
          · rw [List.getElem?_append_right (by omega), List.getElem?_drop] at hx hu
            rw [hsz] at hx
            rw [h2, hsz] at hu
            exact h10 _ x u hx hu)
    obtain ⟨le, hK⟩ := r.2.1.turn (ob := .cells ((vs.take (j * te.size) ++ us ++ vs.drop (j * te.size + te.size)) ++ rest).toArray e (0, 0)) h6 (.inl (List.mem_of_getElem? hb))
    have r' := r.later (σ' := { s.σ with objs := s.σ.objs.set i (.row e te.size cap (xs.set j q)) }) (L' := s.L) le (fun _ _ h => h) hinv rfl rfl hK (by rw [setBlk_size]; exact Nat.le_refl _) rfl rfl rfl
    unfold opW
    have : (execOp a.eval o).run P w = .ok .skip (setBlk w b (.cells ((vs.take (j * te.size) ++ us ++ vs.drop (j * te.size + te.size)) ++ rest).toArray e (0, 0))) := by
      simp only [execOp, ho, hpv, Sem.run_bind, hrun, Result.andThen_ok, Sem.run_pure]
    rw [this]
    exact hnx _ _ _ hn ⟨g, r'.put .junk hd⟩

theorem al_storeRow (hty : TyOk P ty) {e t : TypeId} {te : TyI} {p y : Operand} {i cap : Nat} (j sz : Nat) {xs : List PV} (q : PV) (hg : o.guard = none) (ho : o.op = .store t p y) (hp : ev s p = .ptr i (j * sz)) (hte : ty t = some te) (hszz : te.size = sz) (hcs : s.σ.objs[i]? = some (.row e sz cap xs)) (hj : j < xs.length) (hds : toPV (ev s y) = some q)
    (hsz : q.cells.length = sz) (hd : dstOk N o.dst = true) (k : AOpsL P σ0 N ops os K (({ s with σ := { s.σ with objs := s.σ.objs.set i (.row e sz cap (xs.set j q)) } } : St).put o.dst .junk)) : AOpsL P σ0 N ops (o :: os) K s := by
  subst hszz
  exact al_cons hg (aop_storeRow hty ho hp hte hcs hj hds hsz hd k)
end
section
variable {ρ : Option Nat} {P : Program} {σ0 : Store} {N : Nat} {s : St} {Q : Exit → St → Prop}
/-- From now on it is read, and appended to, alone. -/
theorem awp_freeze {c : Code} (d : Nat) {s2 : St} {ob cap sz : Nat} {e : TypeId} {xs : List PV} (hx : get s.T d = .scr ob xs.length cap) (hob : s.σ.objs[ob]? = some (.row e sz cap xs)) (hne : xs ≠ []) (hw : Weak σ0 ob s.σ.toks.length s.L.length s s2)
    (k : AWpR ρ P σ0 N c Q { s2 with T := (d, .acc xs s2.σ.toks.length) :: s2.T, σ := { s2.σ with toks := s2.σ.toks ++ [⟨xs.length, e, sz⟩] } }) : AWpR ρ P σ0 N c Q s := by
  rintro g0 w0 a w ⟨g, r⟩
  have r2 := hw.rel r
  have hpr := r.2.2.2.2 d
  rw [hx] at hpr
  generalize hpv : a.tmps.getD d undef = pv at hpr
  have hpos : 0 < xs.length := List.length_pos_iff.2 hne
  generalize hnl : xs.length = nn at hpr
  cases hpr with
  | scrnil => omega
  | scr hio hn hc =>
    rename_i b
    obtain ⟨h3, h4, h5, vs, rest, h6, h7, h8, h9, h10⟩ := r.2.1.objs ob _ b hob hio
    have hlow := r.2.1.low b (mem_io hio)
    have ap := r.2.1.apart
    have hfr : Fresh (g.cut ob s.σ.toks.length s.L.length) w b := by
      refine ⟨hlow.1, hlow.2.1, hlow.2.2, fun o hS => (r.2.1.cells b o hS).2.2.1 (List.mem_of_getElem? hio), ?_⟩
      intro hm
      simp only [Ghost.owned, Ghost.cut, List.mem_append] at hm
      rcases hm with (hm | hm) | hm
      · obtain ⟨q, hq, hqe⟩ := List.getElem_of_mem hm
        have hq2 : q < ob := by rw [List.length_take] at hq; omega
        have : g.io[q]? = some b := by
          rw [List.getElem_take] at hqe
          rw [← hqe]; simp
        have := nodup_get ap.1.1 this hio
        omega
      · exact ap.2.1 b (List.mem_of_getElem? hio) (List.mem_of_mem_take hm)
      · obtain ⟨tb, htb, hte⟩ := List.mem_filterMap.1 hm
        cases tb with
        | none => cases hte
        | some tb =>
          simp only [Option.map_some, Option.some.injEq] at hte
          obtain ⟨kk, hkk, hke⟩ := List.getElem_of_mem (List.mem_of_mem_take htb)
          have := (ap.2.2 kk tb (by rw [← hke]; simp)).1
          rw [hte] at this
          exact this (List.mem_of_getElem? hio)
    obtain ⟨i1, le1⟩ := r2.2.1.adopt ⟨0, e, sz⟩
    have hkt : (s2.σ.toks ++ [⟨0, e, sz⟩])[s2.σ.toks.length]? = some (⟨0, e, sz⟩ : Tok) := by simp
    have hfr2 : Fresh { g.cut ob s.σ.toks.length s.L.length with tb := (g.cut ob s.σ.toks.length s.L.length).tb ++ [none] } w b := by
      refine ⟨hfr.low, hfr.lt, hfr.K, hfr.S, ?_⟩
      have : ({ g.cut ob s.σ.toks.length s.L.length with tb := (g.cut ob s.σ.toks.length s.L.length).tb ++ [none] } : Ghost).owned = (g.cut ob s.σ.toks.length s.L.length).owned := by simp [Ghost.owned]
      rw [this]; exact hfr.own
    have hcs : (vs ++ rest).toArray.size = cap * sz := by
      rw [List.size_toArray, List.length_append, h7, h8, ← Nat.add_mul]
      congr 1; omega
    obtain ⟨i2, le2⟩ := i1.newRow (k := s2.σ.toks.length) (t := ⟨0, e, sz⟩) hkt (b := b) (cap := cap) (n := xs.length) hfr2 (cur := (vs ++ rest).toArray) h6 hcs h4 h5 hpos
    have htk : (({ s2.σ with toks := s2.σ.toks ++ [⟨0, e, sz⟩] } : Store).tok s2.σ.toks.length xs.length) = { s2.σ with toks := s2.σ.toks ++ [⟨xs.length, e, sz⟩] } := by
      simp only [Store.tok]
      congr 1
      apply List.ext_getElem?
      intro j
      rw [getElem?_modify']
      split
      · subst_vars; simp
      · rename_i hj
        rcases Nat.lt_trichotomy j s2.σ.toks.length with h | h | h
        · rw [List.getElem?_append_left h, List.getElem?_append_left h]
        · exact absurd h.symm hj
        · rw [List.getElem?_eq_none (by simp; omega), List.getElem?_eq_none (by simp; omega)]
    rw [htk] at i2 le2
    have le := le1.trans le2
    have r3 := r2.later (σ' := { s2.σ with toks := s2.σ.toks ++ [⟨xs.length, e, sz⟩] }) (L' := s2.L) le (fun _ _ h => h) i2 rfl rfl (fun _ _ => rfl) (Nat.le_refl _) rfl rfl rfl
    refine k g0 w0 a w ⟨_, r3.1, r3.2.1, r3.2.2.1, r3.2.2.2.1, fun t => ?_⟩
    simp only [get]
    split
    · subst_vars
      rw [hpv]
      refine .acc (t := ⟨xs.length, e, sz⟩) ?_ (by simp) (Nat.le_refl _) h3 (fun _ => .inl ⟨⟨b, cap⟩, ?_, rfl⟩)
      · exact RP.row (us := vs) (rest := rest) (e := e) h3 (fun i x u hx hu => (h10 i x u hx hu).mono le.keeps) (by rw [h7, flat_length h3]) h9 h6 (fun o ho => .inr ⟨rfl, by rw [h7] at ho; exact ho⟩) h4
      · have hlt : s2.σ.toks.length = (g.cut ob s.σ.toks.length s.L.length).tb.length := r2.2.1.ltb.symm
        rw [hlt]; simp
    · exact r3.2.2.2.2 t
/-- The same: these slots are kept. -/
theorem awp_freezeK {c : Code} (d : Nat) (keep : List Nat) (σ' : Store) {ob cap sz : Nat} {e : TypeId} {xs : List PV} (hx : get s.T d = .scr ob xs.length cap) (hob : s.σ.objs[ob]? = some (.row e sz cap xs)) (hne : xs ≠ []) (hσ : σ' = s.σ.cut ob s.σ.toks.length) (h0 : σ0.objs.length ≤ ob) (ht : σ0.toks.length ≤ s.σ.toks.length)
    (hT : ∀ p, p ∈ (keep.map fun t => (t, get s.T t)) → WV ob s.σ.toks.length s.L.length (get s.T p.1) p.2) (co : ∀ ob', ob' ∈ σ'.objs → ob' ∈ σ0.objs ∨ ob'.clo ob s.σ.toks.length s.L.length = true) (cL : ∀ cs, cs ∈ s.L → AV.clos ob s.σ.toks.length s.L.length cs = true)
    (k : AWpR ρ P σ0 N c Q ⟨(d, .acc xs σ'.toks.length) :: keep.map fun t => (t, get s.T t), s.L, { σ' with toks := σ'.toks ++ [⟨xs.length, e, sz⟩] }⟩) : AWpR ρ P σ0 N c Q s :=
  awp_freeze d (s2 := ⟨keep.map fun t => (t, get s.T t), s.L, σ'⟩) hx hob hne ⟨hσ, by simp, h0, ht, hT, co, cL⟩ k
end
end Go.Aw

namespace Go.Aw
open Go
section
variable {P : Program} {ty : TyT} {g0 g : Ghost} {σ0 : Store} {w0 w : World} {N : Nat} {s : St} {a : Act} {o : Oper} {x : AV} {next : St → Prop} {tk : List Tok} {ops : Array Oper} {os : List Oper} {K : St → Prop} {L : List (List AV)} {σ : Store}
/-- Appended to nil: a row of its own. -/
theorem aop_appendNil (hty : TyOk P ty) {p q : Operand} {t e : TypeId} {ti te : TyI} {ys : List PV} (ho : o.op = .call { callee := .builtin .append, args := #[p, q], argTypes := #[t, t] }) (hti : ty t = some ti) (hk : ti.kind = .slice e) (hte : ty e = some te)
    (hp : ev s p = .pv .nils) (hq : (ev s q).elems = some ys) (hy0 : ys ≠ []) (hys : allSz te.size ys = true) (hb0 : 0 < te.bytes) (hbytes : ys.length * te.bytes ≤ 140737488355328) (hd : dstOk N o.dst = true)
    (hnx : ∀ cap, ys.length ≤ cap → next (({ s with σ := { s.σ with objs := s.σ.objs ++ [.row e te.size cap ys] } } : St).put o.dst (.scr s.σ.objs.length ys.length cap))) : AOp P σ0 N o next s := by
  rintro g0 w0 a w nx Q ⟨g, r⟩ hnext
  obtain ⟨i, z, h7, h8, h9, h10, h11, h12, h13⟩ := (hty _ _ hte).info
  have hut := (hty _ _ hti).slice hk
  have hysz : ∀ x, x ∈ ys → x.cells.length = te.size := by simpa [allSz] using hys
  have hu := (r.ev q).elems hq
  obtain ⟨ad2, c2, us, hqv, hc2, hul, hu1, hur, huc, hua⟩ := hu.row_cells hysz
  obtain ⟨b2, off2, rfl⟩ := hua hy0
  have hm0 : 0 < ys.length := List.length_pos_iff.2 hy0
  have hyl : ys.length ≤ 140737488355328 := Nat.le_trans (Nat.le_mul_of_pos_right _ hb0) hbytes
  have hnews : ∀ (j : Nat) (u : Value), us[j]? = some u → w.cell? ((⟨b2, off2, none⟩ : Addr).add j) = some u := by
    intro j u hj
    obtain ⟨b, off, hbo, h1, h2⟩ := huc j u hj
    cases hbo
    rw [add_zero_addr]; exact h2
  have hpr := r.ev p
  rw [hp] at hpr
  have hpv := hpr.pv_inv.nils_inv
  have hge := grownCap_ge w ys.length 0 e
  have hcm : grownCap w ys.length 0 e ≤ maxLen := grownCap_le_maxLen w _ 0 e (by simp only [maxLen]; omega)
  have hrun : (execOp a.eval o).run P w = .ok (.value (.slice (some ⟨w.heap.size, 0, none⟩) ys.length (grownCap w ys.length 0 e))) (w.drew.alloc (.cells (us ++ (Builtin.zeroCells z.cells (grownCap w ys.length 0 e - ys.length)).toList).toArray e)) := by
    refine exec_append ho ?_
    rw [hpv, hqv]
    have harr : (us ++ (Builtin.zeroCells z.cells (grownCap w ys.length 0 e - ys.length)).toList).toArray = us.toArray ++ Builtin.zeroCells z.cells (grownCap w ys.length 0 e - ys.length) := by
      apply Array.ext'; simp
    rw [harr]
    exact run_append_nil (P := P) w t o.type e i z hut h7 h10 ⟨b2, off2, none⟩ ys.length c2 us (by rw [h8]; exact hul) hnews hm0 (by omega) (by rw [h9]; omega)
  unfold opW
  rw [hrun]
  generalize grownCap w ys.length 0 e = cap at hge hcm
  obtain ⟨g', r'⟩ := r.newRow (o := o) hd (e := e) (sz := te.size) (cap := cap) (ys := ys) (us := us) (rest := (Builtin.zeroCells z.cells (cap - ys.length)).toList) hysz hge hcm hul (by rw [Array.length_toList, size_zeroCells, h12]) hu1 hur (by omega)
  exact hnext _ _ _ (hnx cap hge) ⟨g', r'⟩

theorem setRow_blk {b : Nat} {c : Array Value} {e : TypeId} {f : Nat × Nat} (h : w.heap[b]? = some (.cells c e f)) (new : Array Value) : w.setRow b new = setBlk w b (.cells new e f) := by
  unfold World.setRow setBlk
  congr 1
  apply Array.ext_getElem?
  intro j
  have hlt : b < w.heap.size := (Array.getElem?_eq_some_iff.1 h).1
  by_cases hj : b = j
  · subst hj
    rw [Array.getElem?_modify, if_pos rfl, h, Array.getElem?_setIfInBounds, if_pos rfl, if_pos hlt]
    rfl
  · simp [Array.getElem?_modify, Array.getElem?_setIfInBounds, hj]

/-- One element more: in its place, or in a new one. -/
theorem aop_growRow (hty : TyOk P ty) {p q : Operand} {t e : TypeId} {ti te : TyI} {ob cap : Nat} {xs : List PV} {y : PV} (ho : o.op = .call { callee := .builtin .append, args := #[p, q], argTypes := #[t, t] }) (hti : ty t = some ti) (hk : ti.kind = .slice e) (hte : ty e = some te)
    (hp : ev s p = .scr ob xs.length cap) (hob : s.σ.objs[ob]? = some (.row e te.size cap xs)) (hne : xs ≠ []) (hq : (ev s q).elems = some [y]) (hy : y.cells.length = te.size) (hb0 : 0 < te.bytes) (hbytes : (xs.length + 1) * te.bytes ≤ 140737488355328) (hd : dstOk N o.dst = true)
    (hroom : xs.length + 1 ≤ cap → next (({ s with σ := { s.σ with objs := s.σ.objs.set ob (.row e te.size cap (xs ++ [y])) } } : St).put o.dst (.scr ob (xs.length + 1) cap)))
    (hgrow : ∀ cap', xs.length + 1 ≤ cap' → next (({ s with σ := { s.σ with objs := s.σ.objs ++ [.row e te.size cap' (xs ++ [y])] } } : St).put o.dst (.scr s.σ.objs.length (xs.length + 1) cap'))) : AOp P σ0 N o next s := by
  rintro g0 w0 a w nx Q ⟨g, r⟩ hnext
  obtain ⟨i, z, h7, h8, h9, h10, h11, h12, h13⟩ := (hty _ _ hte).info
  have hut := (hty _ _ hti).slice hk
  have hu := (r.ev q).elems hq
  obtain ⟨ad2, c2, us, hqv, hc2, hul, hu1, hur, huc, hua⟩ := hu.row_cells (sz := te.size) (by intro x hx; simp at hx; subst hx; exact hy)
  obtain ⟨b2, off2, rfl⟩ := hua (by simp)
  have hul1 : us.length = te.size := by simpa using hul
  have hnl : xs.length + 1 ≤ 140737488355328 := Nat.le_trans (Nat.le_mul_of_pos_right _ hb0) hbytes
  have hpos : 0 < xs.length := List.length_pos_iff.2 hne
  have hnews : ∀ (j : Nat) (u : Value), us[j]? = some u → w.cell? ((⟨b2, off2, none⟩ : Addr).add j) = some u := by
    intro j u hj
    obtain ⟨b, off, hbo, h1, h2⟩ := huc j u hj
    cases hbo
    rw [add_zero_addr]; exact h2
  have hpr := r.ev p
  rw [hp] at hpr
  generalize hpv : a.eval p = pv at hpr
  generalize hnl2 : xs.length = nn at hpr
  cases hpr with
  | scrnil => omega
  | scr hio hn hc =>
    rename_i b
    obtain ⟨h3, h4, h5, vs, rest, h6, hvl, hrl, hv1, hvr⟩ := r.2.1.objs ob _ b hob hio
    have hfl : (flat xs).length = vs.length := by rw [flat_length h3, hvl]
    have hall : ∀ (j : Nat) x u, (flat (xs ++ [y]))[j]? = some x → (vs ++ us)[j]? = some u → RP g.B g.S w x u := by
      intro j x u hx hj
      rw [flat_append] at hx
      by_cases hlt : j < vs.length
      · rw [List.getElem?_append_left hlt] at hj
        rw [List.getElem?_append_left (by omega)] at hx
        exact hvr j x u hx hj
      · rw [List.getElem?_append_right (by omega)] at hj hx
        rw [hfl] at hx
        exact hur _ x u hx hj
    have hall1 : ∀ u, u ∈ vs ++ us → u.oneCell' = true := fun u hu => (List.mem_append.1 hu).elim (hv1 u) (hu1 u)
    have hallsz : ∀ x, x ∈ xs ++ [y] → x.cells.length = te.size := fun x hx => (List.mem_append.1 hx).elim (h3 x) (fun h => by simp at h; subst h; exact hy)
    have hlen : (vs ++ us).length = (xs ++ [y]).length * te.size := by rw [List.length_append, hvl, hul1, List.length_append, List.length_singleton, Nat.add_mul, Nat.one_mul]
    unfold opW
    by_cases hr : xs.length + 1 ≤ cap
    · have hcs : (vs ++ rest).toArray.size = cap * te.size := by
        rw [List.size_toArray, List.length_append, hvl, hrl, ← Nat.add_mul]
        congr 1; omega
      have hfit : xs.length * i.size + us.length ≤ (vs ++ rest).toArray.size := by
        rw [h8, hul1, hcs, ← Nat.succ_mul]; exact Nat.mul_le_mul_right _ hr
      have hrun := run_append_room (P := P) w t o.type e i hut h7 b xs.length cap (vs ++ rest).toArray h6 ⟨b2, off2, none⟩ 1 c2 us (by rw [h8, hul1, Nat.one_mul]) hnews hu1 hr hfit
      rw [setRow_blk h6, h8] at hrun
      have hnew : ((vs ++ rest).toArray.toList.take (xs.length * te.size) ++ us ++ (vs ++ rest).toArray.toList.drop (xs.length * te.size + us.length)) = (vs ++ us) ++ rest.drop te.size := by
        simp only []
        rw [List.take_left' hvl, ← hvl, List.drop_append, List.drop_of_length_le (l := vs) (by omega), List.nil_append, hul1]
        congr 2; omega
      rw [hnew] at hrun
      have hrun' : (execOp a.eval o).run P w = .ok (.value (.slice (some ⟨b, 0, none⟩) (xs.length + 1) cap)) (setBlk w b (.cells ((vs ++ us) ++ rest.drop te.size).toArray e (0, 0))) := by
        refine exec_append ho ?_
        rw [hpv, hqv, ← hnl2]
        exact hrun
      rw [hrun']
      obtain ⟨le, hK⟩ := r.2.1.turn (ob := .cells ((vs ++ us) ++ rest.drop te.size).toArray e (0, 0)) h6 (.inl (List.mem_of_getElem? hio))
      have hinv := r.2.1.setRow (e := e) (sz := te.size) (cap := cap) (ys := xs ++ [y]) (us := vs ++ us) (rest := rest.drop te.size) h6 hio hallsz (by simpa using hr) h5 hlen (by
        rw [List.length_drop, hrl, List.length_append, List.length_singleton]
        have : (cap - xs.length) * te.size - te.size = (cap - xs.length - 1) * te.size := by rw [Nat.sub_mul (cap - xs.length) 1, Nat.one_mul]
        rw [this]; congr 1) hall1 hall
      have r' := r.later (σ' := { s.σ with objs := s.σ.objs.set ob (.row e te.size cap (xs ++ [y])) }) (L' := s.L) le (fun _ _ h => h) hinv rfl rfl hK (by rw [setBlk_size]; exact Nat.le_refl _) rfl rfl rfl
      exact hnext _ _ _ (hroom hr) ⟨g, r'.put (.scr hio hr hc) hd⟩
    · have hfit := growslice_fits (need := xs.length + 1) (old := cap) (bytes := i.bytes) (by omega) (by rw [h9]; exact hbytes)
      have hrun := run_append_grow (P := P) w t o.type e i z hut h7 h10 ⟨b, 0, none⟩ xs.length cap vs (by rw [h8, hvl]) (fun j v hj => by
        rw [add_zero_addr, cell_of_heap h6, List.getElem?_toArray, Nat.zero_add, List.getElem?_append_left (List.getElem?_eq_some_iff.1 hj).1]
        exact hj) ⟨b2, off2, none⟩ 1 c2 us (by rw [h8, hul1, Nat.one_mul]) hnews (by omega) (by omega) hfit
      have hge := grownCap_ge w (xs.length + 1) cap e
      have hcm : grownCap w (xs.length + 1) cap e ≤ maxLen := grownCap_le_maxLen w _ cap e (by simp only [maxLen]; omega)
      generalize grownCap w (xs.length + 1) cap e = cap' at hrun hge hcm
      have hrun' : (execOp a.eval o).run P w = .ok (.value (.slice (some ⟨w.heap.size, 0, none⟩) (xs.length + 1) cap')) (w.drew.alloc (.cells ((vs ++ us) ++ (Builtin.zeroCells z.cells (cap' - (xs.length + 1))).toList).toArray e)) := by
        refine exec_append ho ?_
        rw [hpv, hqv, ← hnl2]
        rw [show ([y] : List PV).length = 1 from rfl, hrun]
        congr 3
        apply Array.ext'; simp
      rw [hrun']
      obtain ⟨g', r'⟩ := r.newRow (o := o) hd (e := e) (sz := te.size) (cap := cap') (ys := xs ++ [y]) (us := vs ++ us) (rest := (Builtin.zeroCells z.cells (cap' - (xs.length + 1))).toList) hallsz (by simpa using hge) hcm hlen (by rw [Array.length_toList, size_zeroCells, h12]; simp) hall1 hall (by omega)
      rw [show (xs ++ [y]).length = xs.length + 1 by simp] at r'
      exact hnext _ _ _ (hgrow cap' hge) ⟨g', r'⟩

theorem al_appendNil (hty : TyOk P ty) {p q : Operand} {t e : TypeId} {ti te : TyI} (sz : Nat) {ys : List PV} (hg : o.guard = none) (ho : o.op = .call { callee := .builtin .append, args := #[p, q], argTypes := #[t, t] }) (hti : ty t = some ti) (hk : ti.kind = .slice e) (hte : ty e = some te) (hsz : te.size = sz)
    (hp : ev s p = .pv .nils) (hq : (ev s q).elems = some ys) (hy0 : ys ≠ []) (hys : allSz sz ys = true) (hb0 : 0 < te.bytes) (hbytes : ys.length * te.bytes ≤ 140737488355328) (hd : dstOk N o.dst = true)
    (k : ∀ cap, ys.length ≤ cap → AOpsL P σ0 N ops os K (({ s with σ := { s.σ with objs := s.σ.objs ++ [.row e sz cap ys] } } : St).put o.dst (.scr s.σ.objs.length ys.length cap))) : AOpsL P σ0 N ops (o :: os) K s := by
  subst hsz
  exact al_cons hg (aop_appendNil hty ho hti hk hte hp hq hy0 hys hb0 hbytes hd k)
theorem al_growRow (hty : TyOk P ty) {p q : Operand} {t e : TypeId} {ti te : TyI} (sz : Nat) {ob cap n : Nat} {xs : List PV} {y : PV} (hg : o.guard = none) (ho : o.op = .call { callee := .builtin .append, args := #[p, q], argTypes := #[t, t] }) (hti : ty t = some ti) (hk : ti.kind = .slice e) (hte : ty e = some te) (hsz : te.size = sz)
    (hn : xs.length = n) (hp : ev s p = .scr ob n cap) (hob : s.σ.objs[ob]? = some (.row e sz cap xs)) (hne : xs ≠ []) (hq : (ev s q).elems = some [y]) (hy : y.cells.length = sz) (hb0 : 0 < te.bytes) (hbytes : (n + 1) * te.bytes ≤ 140737488355328) (hd : dstOk N o.dst = true)
    (hroom : n + 1 ≤ cap → AOpsL P σ0 N ops os K (({ s with σ := { s.σ with objs := s.σ.objs.set ob (.row e sz cap (xs ++ [y])) } } : St).put o.dst (.scr ob (n + 1) cap)))
    (hgrow : ∀ cap', n + 1 ≤ cap' → AOpsL P σ0 N ops os K (({ s with σ := { s.σ with objs := s.σ.objs ++ [.row e sz cap' (xs ++ [y])] } } : St).put o.dst (.scr s.σ.objs.length (n + 1) cap'))) : AOpsL P σ0 N ops (o :: os) K s := by
  subst hsz hn
  exact al_cons hg (aop_growRow hty ho hti hk hte hp hob hne hq hy hb0 hbytes hd hroom hgrow)
end
end Go.Aw

namespace Go.Aw
open Go
theorem synKind_dlist (l : List D) (hl : l ≠ []) : synKind (dlist l) =
    if (headN (dlist l) == 0) = true then (if decide ((l.length : Int) ≤ 9) = true then 10 else 0) else if fmOk (headN (dlist l)) l = true then headN (dlist l) else 0 := by
  have h0 : ((l.length : Int) == 0) = false := by
    have := List.length_pos_iff.2 hl
    simp only [beq_eq_false_iff_ne]; omega
  show (if ((3 : Int) == 1) = true then _ else _) = _
  rw [if_neg (by decide), if_neg (show ¬ ((dlist l).kind == 2) = true from by show ¬ ((3 : Int) == 2) = true; decide)]
  show (if ((l.length : Int) == 0) = true then _ else _) = _
  rw [h0, if_neg (by decide)]
  rfl
theorem headN_sym (s : ByteArray) (r : List D) : headN (dlist (dsym s :: r)) = wordN s := rfl
theorem headN_list (l r : List D) : headN (dlist (dlist l :: r)) = 0 := rfl
theorem synKind_sym {s : ByteArray} (h : wordN s = 0) : synKind (dsym s) = 2 := by
  show (if ((2 : Int) == 1) = true then _ else if ((2 : Int) == 2) = true then (if decide (0 < wordN s) = true then 0 else 2) else _) = _
  rw [if_neg (by decide), if_pos (by decide), h]; rfl
theorem synKind_app {l : List D} (hl : l ≠ []) (hh : headN (dlist l) = 0) (h9 : l.length ≤ 9) : synKind (dlist l) = 10 := by
  rw [synKind_dlist l hl, hh, if_pos (by decide), if_pos (by simp only [decide_eq_true_eq]; omega)]
theorem synKind_form {l : List D} {n : Int} (hl : l ≠ []) (hh : headN (dlist l) = n) (hn : n ≠ 0) (hf : fmOk n l = true) : synKind (dlist l) = n := by
  rw [synKind_dlist l hl, hh, if_neg (by simpa using hn), if_pos hf]
theorem wQuote : wordN sQuote = 3 := by decide
theorem wIf : wordN sIf = 4 := by decide
theorem wFn : wordN sFn = 5 := by decide
theorem wLet : wordN sLet = 6 := by decide
theorem wRec : wordN sRec = 7 := by decide
theorem wordN_dot (a : UInt8) (s : ByteArray) : wordN (⟨#[a, 46]⟩ ++ s) = 0 := by
  have h2 : ((⟨#[a, 46]⟩ : ByteArray) ++ s).data.toList[1]? = some 46 := by
    simp [ByteArray.data_append]
  rcases wordN_cases (⟨#[a, 46]⟩ ++ s) with ⟨e, _⟩ | ⟨e, _⟩ | ⟨e, _⟩ | ⟨e, _⟩ | ⟨e, _⟩ | ⟨e, _⟩ | ⟨e, _⟩ | ⟨_, h⟩
  all_goals first | exact h | (rw [e] at h2; exact absurd h2 (by decide))
/-! ### what is free -/
/-- The names that are free, as often as they are there. -/
def sfv (d : D) : List ByteArray := scata (fun d rs => if (synKind d == 2) = true then [d.text] else rs.flatMap fun q => q.2.filter fun s => !memB (q.1.ns.map (·.1)) s) d
theorem sfv_eq (d : D) : sfv d = if (synKind d == 2) = true then [d.text] else (subs d).flatMap fun q => (sfv q.2).filter fun s => !memB (q.1.ns.map (·.1)) s := by
  show scata _ d = _
  rw [scata_eq, List.flatMap_map]; rfl
theorem memB_app {l r : List ByteArray} {s : ByteArray} : memB (l ++ r) s = (memB l s || memB r s) := by unfold memB; rw [List.any_append]
theorem sfree_mem (d : D) : ∀ (l S : List ByteArray) (s : ByteArray), s ∈ sfree d l S ↔ s ∈ S ∨ (s ∈ sfv d ∧ memB l s = false) := by
  induction d using D.indS with
  | h d ih =>
    intro l S s
    rw [sfree_eq, sfv_eq]
    split
    · split
      · rename_i h
        simp only [List.mem_singleton]
        refine ⟨.inl, fun hh => hh.elim id fun ⟨e, h2⟩ => by subst e; rw [h] at h2; cases h2⟩
      · rename_i h
        rw [← memB_iff, memB_add, Bool.or_eq_true, memB_iff, decide_eq_true_eq, List.mem_singleton]
        refine or_congr Iff.rfl ⟨fun e => ⟨e, by subst e; simpa using h⟩, fun e => e.1⟩
    · have key : ∀ (L : List (Sub × D)), (∀ q, q ∈ L → q ∈ subs d) → ∀ S, s ∈ L.foldl (fun S q => sfree q.2 (q.1.ns.map (·.1) ++ l) S) S ↔ s ∈ S ∨ (s ∈ L.flatMap (fun q => (sfv q.2).filter fun s => !memB (q.1.ns.map (·.1)) s) ∧ memB l s = false) := by
        intro L
        induction L with
        | nil => intro _ S; simp
        | cons q L ihL =>
          intro hL S
          rw [List.foldl_cons, ihL (fun x hx => hL x (by simp [hx])), ih q (hL q (by simp)), List.flatMap_cons, List.mem_append, List.mem_filter, memB_app]
          cases memB l s <;> cases memB (q.1.ns.map (·.1)) s <;> simp [or_assoc]
      exact key (subs d) (fun _ h => h) S
theorem numb_fst (l : List ByteArray) (n : Int) : (numb l n).map (·.1) = l := by
  unfold numb
  apply List.ext_getElem?
  intro i
  rw [List.getElem?_map, mapI_get]
  cases l[i]? <;> rfl
theorem mapI_snd {f : Nat → D → Sub × D} (hf : ∀ i x, (f i x).2 = x) (l : List D) : (mapI f l).map (·.2) = l := by
  apply List.ext_getElem?
  intro i
  rw [List.getElem?_map, mapI_get]
  cases h : l[i]? <;> simp [hf]
theorem filter_all {l : List ByteArray} : (l.filter fun s => !memB ([] : List ByteArray) s) = l := by
  rw [List.filter_eq_self]; intro s _; rfl
theorem flatMap_plain {f : Nat → D → Sub × D} (hf : ∀ i x, (f i x).2 = x) (hn : ∀ i x, (f i x).1.ns = []) (l : List D) : ((mapI f l).flatMap fun q => (sfv q.2).filter fun s => !memB (q.1.ns.map (·.1)) s) = l.flatMap sfv := by
  have h1 : ((mapI f l).flatMap fun q => (sfv q.2).filter fun s => !memB (q.1.ns.map (·.1)) s) = (mapI f l).flatMap fun q => sfv q.2 := by
    rw [List.flatMap_def, List.flatMap_def]
    congr 1
    refine List.map_congr_left fun q hq => ?_
    obtain ⟨i, x, _, rfl⟩ := mapI_mem hq
    rw [hn]; exact filter_all
  rw [h1]
  conv => rhs; rw [← mapI_snd hf l]
  rw [List.flatMap_map]
def sub0 (i : Nat) (x : D) : Sub × D := (⟨[(i : Int)], []⟩, x)
def sub1 (i : Nat) (x : D) : Sub × D := (⟨[(i : Int) + 1], []⟩, x)
def subR (d : D) (i : Nat) (x : D) : Sub × D := (⟨[1, (i : Int), 2], (numb (parS x) (fromS (d1 d.kids).kids i)).reverse ++ (numb (ownS d) 0).reverse⟩, d2 x.kids)
def subL (d : D) (n : Int) (x : D) : Sub × D := (⟨[n], (numb (ownS d) 0).reverse⟩, x)
theorem subs_of_rest {d : D} (h : synKind d = 4 ∨ synKind d = 8) : subs d = mapI sub1 (d.kids.drop 1) := by
  unfold subs; rcases h with h | h <;> rw [h] <;> rfl
theorem subs_of_app {d : D} (h : synKind d = 10) : subs d = mapI sub0 d.kids := by unfold subs; rw [h]; rfl
theorem subs_of_fn {d : D} (h : synKind d = 5 ∨ synKind d = 9) : subs d = [subL d 2 (d2 d.kids)] := by
  unfold subs; rcases h with h | h <;> rw [h] <;> rfl
theorem subs_of_let {d : D} (h : synKind d = 6) : subs d = [(⟨[2], []⟩, d2 d.kids), subL d 3 (d.kids.getD 3 dnone)] := by unfold subs; rw [h]; rfl
theorem subs_of_rec {d : D} (h : synKind d = 7) : subs d = mapI (subR d) (d1 d.kids).kids ++ [subL d 2 (d2 d.kids)] := by unfold subs; rw [h]; rfl
theorem subs_of_none {d : D} (h : synKind d = 0 ∨ synKind d = 1 ∨ synKind d = 2 ∨ synKind d = 3) : subs d = [] := by
  unfold subs; rcases h with h | h | h | h <;> rw [h] <;> rfl
/-- By forms. -/
theorem sfv_none {d : D} (h : synKind d = 0 ∨ synKind d = 1 ∨ synKind d = 3) : sfv d = [] := by
  rw [sfv_eq]
  unfold subs
  rcases h with h | h | h <;> rw [h] <;> rfl
theorem sfv_name {d : D} (h : synKind d = 2) : sfv d = [d.text] := by rw [sfv_eq, h]; rfl
theorem sfv_app {d : D} (h : synKind d = 10) : sfv d = d.kids.flatMap sfv := by
  rw [sfv_eq, subs_of_app h, h, if_neg (by decide)]
  exact flatMap_plain (f := sub0) (fun _ _ => rfl) (fun _ _ => rfl) d.kids
theorem sfv_rest {d : D} (h : synKind d = 4 ∨ synKind d = 8) : sfv d = (d.kids.drop 1).flatMap sfv := by
  rw [sfv_eq, subs_of_rest h]
  rcases h with h | h <;> rw [h, if_neg (by decide)] <;> exact flatMap_plain (f := sub1) (fun _ _ => rfl) (fun _ _ => rfl) (d.kids.drop 1)
theorem rev_mem (l : List ByteArray) (n : Int) (s : ByteArray) : memB ((numb l n).reverse.map (·.1)) s = memB l s := by
  rw [List.map_reverse, numb_fst]
  unfold memB
  rw [List.any_reverse]
theorem sfv_fn {d : D} (h : synKind d = 5 ∨ synKind d = 9) : sfv d = (sfv (d2 d.kids)).filter fun s => !memB ((d1 d.kids).kids.map D.text) s := by
  rw [sfv_eq]
  have ho : ownS d = (d1 d.kids).kids.map D.text := by unfold ownS; rcases h with h | h <;> rw [h] <;> rfl
  rw [subs_of_fn h, List.flatMap_singleton]
  unfold subL
  simp only [ho, rev_mem]
  rcases h with h | h <;> rw [h, if_neg (by decide)]
theorem sfv_let {d : D} (h : synKind d = 6) : sfv d = sfv (d2 d.kids) ++ (sfv (d.kids.getD 3 dnone)).filter fun s => !memB [(d1 d.kids).text] s := by
  rw [sfv_eq, subs_of_let h, h, if_neg (by decide)]
  have ho : ownS d = [(d1 d.kids).text] := by unfold ownS; rw [h]; rfl
  rw [List.flatMap_cons, List.flatMap_singleton]
  unfold subL
  simp only [ho, rev_mem]
  congr 1
  exact filter_all
theorem sfv_rec {d : D} (h : synKind d = 7) : sfv d = ((d1 d.kids).kids.flatMap fun x => (sfv (d2 x.kids)).filter fun s => !(memB (parS x) s || memB ((d1 d.kids).kids.map fun x => x.head.text) s)) ++ (sfv (d2 d.kids)).filter fun s => !memB ((d1 d.kids).kids.map fun x => x.head.text) s := by
  rw [sfv_eq, h, if_neg (by decide)]
  have ho : ownS d = (d1 d.kids).kids.map fun x => x.head.text := by unfold ownS; rw [h]; rfl
  rw [subs_of_rec h, List.flatMap_append, List.flatMap_singleton]
  unfold subL subR
  simp only [rev_mem, ho]
  congr 1
  generalize (d1 d.kids).kids = l
  generalize (l.map fun x => x.head.text) = o
  have e1 : ∀ (i : Nat) (x : D), ((sfv (d2 x.kids)).filter fun s => !memB (((numb (parS x) (fromS l i)).reverse ++ (numb o 0).reverse).map (·.1)) s) = (sfv (d2 x.kids)).filter fun s => !(memB (parS x) s || memB o s) := by
    intro i x
    congr 1
    funext s
    rw [List.map_append, memB_app, rev_mem, rev_mem]
  rw [List.flatMap_def, List.flatMap_def]
  congr 1
  apply List.ext_getElem?
  intro i
  rw [List.getElem?_map, List.getElem?_map, mapI_get]
  cases l[i]? with
  | none => rfl
  | some x => simp only [Option.map_some]; rw [e1]
theorem synOk_list {d : D} {n : Int} (h : synKind d = n) (hn : n ≠ 0) (hs : ∀ q, q ∈ subs d → synOk q.2 = true) : synOk d = true := by
  rw [synOk_eq, h, Bool.and_eq_true]
  exact ⟨by simpa using hn, List.all_eq_true.2 hs⟩
theorem subs_app {d : D} (h : synKind d = 10) {q : Sub × D} (hq : q ∈ subs d) : q.2 ∈ d.kids := by
  rw [subs_of_app h] at hq
  obtain ⟨i, x, hx, rfl⟩ := mapI_mem hq
  exact List.mem_of_getElem? hx
theorem subs_rest {d : D} (h : synKind d = 4 ∨ synKind d = 8) {q : Sub × D} (hq : q ∈ subs d) : q.2 ∈ d.kids.drop 1 := by
  rw [subs_of_rest h] at hq
  obtain ⟨i, x, hx, rfl⟩ := mapI_mem hq
  exact List.mem_of_getElem? hx
theorem subs_fn {d : D} (h : synKind d = 5 ∨ synKind d = 9) {q : Sub × D} (hq : q ∈ subs d) : q.2 = d2 d.kids := by
  rw [subs_of_fn h] at hq
  rw [List.mem_singleton.1 hq]; rfl
theorem subs_let {d : D} (h : synKind d = 6) {q : Sub × D} (hq : q ∈ subs d) : q.2 = d2 d.kids ∨ q.2 = d.kids.getD 3 dnone := by
  rw [subs_of_let h] at hq
  simp only [List.mem_cons, List.not_mem_nil, or_false] at hq
  rcases hq with rfl | rfl
  · exact .inl rfl
  · exact .inr rfl
theorem subs_rec {d : D} (h : synKind d = 7) {q : Sub × D} (hq : q ∈ subs d) : (∃ x, x ∈ (d1 d.kids).kids ∧ q.2 = d2 x.kids) ∨ q.2 = d2 d.kids := by
  rw [subs_of_rec h, List.mem_append, List.mem_singleton] at hq
  rcases hq with hq | rfl
  · obtain ⟨i, x, hx, rfl⟩ := mapI_mem hq
    exact .inl ⟨x, List.mem_of_getElem? hx, rfl⟩
  · exact .inr rfl
theorem synOk_leaf {d : D} (h : synKind d = 1 ∨ synKind d = 2 ∨ synKind d = 3) : synOk d = true := by
  rw [synOk_eq]
  unfold subs
  rcases h with h | h | h <;> rw [h] <;> rfl
/-- Names that differ. -/
theorem differ_of {l : List D} {m : Int} (hm : (l.length : Int) ≤ m) (hn : ∀ x, x ∈ l → nmS x = true) (hd : (l.map D.text).Nodup) : differB l m = true := by
  unfold differB
  rw [if_neg (by simp only [decide_eq_true_eq]; omega)]
  rw [Bool.not_eq_true', List.any_eq_false]
  intro j hj
  unfold badAt
  cases hx : l[j]? with
  | none => simp
  | some x =>
    simp only [Bool.or_eq_true, Bool.not_eq_true', not_or, Bool.not_eq_false, Bool.not_eq_true]
    refine ⟨hn x (List.mem_of_getElem? hx), ?_⟩
    cases hb : memB ((l.take j).map D.text) x.text with
    | false => rfl
    | true =>
      obtain ⟨y, hy, he⟩ := List.mem_map.1 (memB_iff.1 hb)
      obtain ⟨i, hi, hie⟩ := List.getElem_of_mem hy
      have hlt : i < j := by rw [List.length_take] at hi; omega
      have h1 : (l.map D.text)[i]? = some x.text := by
        rw [List.getElem?_map]
        have : l[i]? = some y := by
          rw [List.getElem_take] at hie
          rw [← hie]; simp
        rw [this, Option.map_some, he]
      have h2 : (l.map D.text)[j]? = some x.text := by rw [List.getElem?_map, hx]; rfl
      have := (List.nodup_iff_pairwise_ne.1 hd)
      have h3 := List.pairwise_iff_getElem.1 this i j (List.getElem?_eq_some_iff.1 h1).1 (List.getElem?_eq_some_iff.1 h2).1 hlt
      rw [(List.getElem?_eq_some_iff.1 h1).2, (List.getElem?_eq_some_iff.1 h2).2] at h3
      exact absurd rfl h3
theorem nmS_sym {s : ByteArray} (h : wordN s = 0) : nmS (dsym s) = true := by
  unfold nmS
  show ((2 : Int) == 2 && wordN s == 0) = true
  rw [h]; rfl
end Go.Aw

namespace Go.Aw
open Go
theorem badAt_eq {l : List D} {k : Nat} {x : D} (h : l[k]? = some x) : badAt l k = (!nmS x || memB (((l.map D.text).take k).foldl addS []) x.text) := by
  unfold badAt
  rw [h, memB_fold, ← List.map_take]
  rfl
theorem tK_nil : tK [] = [] := rfl
theorem tV_nil : tV [] = [] := rfl
theorem head_get {d y : D} (h : d.kids[0]? = some y) : d.head = y := by unfold D.head; rw [List.headD_eq_head?_getD, List.head?_eq_getElem?, h]; rfl
theorem syn_len (d : D) : ((synKind d = 5 ∨ synKind d = 9 ∨ synKind d = 7) → d.kids.length = 3) ∧ (synKind d = 6 → d.kids.length = 4) ∧ (synKind d = 7 → ∀ x, x ∈ (d1 d.kids).kids → x.kids.length = 3) := by
  refine ⟨fun h => ?_, fun h => ?_, fun h x hx => ?_⟩
  · cases shape d <;> first | assumption | (rename_i e _; rw [e] at h; simp at h; done) | (rename_i e; rw [e] at h; simp at h; done) | (rename_i e _ _; rw [e] at h; simp at h; done) | (rename_i e _ _ _; rw [e] at h; simp at h; done)
  · cases shape d <;> first | assumption | (rename_i e _; rw [e] at h; simp at h; done) | (rename_i e; rw [e] at h; simp at h; done) | (rename_i e _ _; rw [e] at h; simp at h; done) | (rename_i e _ _ _; rw [e] at h; simp at h; done)
  · cases shape d <;> first | (exact grp_len (by assumption) hx) | (rename_i e _; rw [e] at h; simp at h; done) | (rename_i e; rw [e] at h; simp at h; done) | (rename_i e _ _; rw [e] at h; simp at h; done) | (rename_i e _ _ _; rw [e] at h; simp at h; done)
theorem take_two {l : List D} {x : D} (h : l[1]? = some x) : (List.take 2 (l.map enc)).tail = [enc x] := by
  match l, h with
  | a :: b :: r, h =>
    simp only [List.getElem?_cons_succ, List.getElem?_cons_zero, Option.some.injEq] at h
    subst h; rfl
theorem sum_take_next {ls : List (List Int)} {k : Nat} {x : List Int} (h : ls[k]? = some x) : ((ls.map List.length).take (k + 1)).sum = ((ls.map List.length).take k).sum + x.length := by
  rw [take_next (l := ls.map List.length) (k := k) (x := x.length) (by rw [List.getElem?_map, h]; rfl), List.sum_append]; simp
theorem flat_take_next {ls : List (List Int)} {k : Nat} {x : List Int} (h : ls[k]? = some x) : (ls.take (k + 1)).flatten = (ls.take k).flatten ++ x := by
  rw [take_next h, List.flatten_append]; simp
theorem sum_take_le (ls : List (List Int)) (k : Nat) : ((ls.map List.length).take k).sum ≤ (ls.map List.length).sum := by
  conv => rhs; rw [← List.take_append_drop k (ls.map List.length), List.sum_append]
  omega
theorem flatten_len (ls : List (List Int)) (k : Nat) : (ls.take k).flatten.length = ((ls.map List.length).take k).sum := by rw [List.length_flatten, List.map_take]
theorem tail_len (d : D) : (synKind d = 4 ∨ synKind d = 8) → 1 ≤ d.kids.length := by
  intro h
  cases shape d <;> first | omega | (rename_i e _; rw [e] at h; simp at h; done) | (rename_i e; rw [e] at h; simp at h; done) | (rename_i e _ _; rw [e] at h; simp at h; done) | (rename_i e _ _ _; rw [e] at h; simp at h; done)
/-- Where the last parts lie. -/
def TailOk (d : D) (fr bs : Nat) : Prop := bs + (d.kids.drop fr).length = (subs d).length ∧ ∀ (k : Nat) (x : D), (d.kids.drop fr)[k]? = some x → ∃ q, (subs d)[bs + k]? = some q ∧ q.1.p = [(fr : Int) + (k : Int)] ∧ q.2 = x
theorem tail_rest {d : D} (h : synKind d = 4 ∨ synKind d = 8) : TailOk d 1 0 := by
  rw [TailOk, subs_of_rest h]
  refine ⟨by rw [mapI_length]; omega, fun k x hx => ⟨sub1 k x, by rw [Nat.zero_add, mapI_get, hx]; rfl, ?_, rfl⟩⟩
  show [(k : Int) + 1] = [((1 : Nat) : Int) + (k : Int)]
  rw [Int.add_comm]; rfl
theorem tail_app {d : D} (h : synKind d = 10) : TailOk d 0 0 := by
  rw [TailOk, subs_of_app h]
  refine ⟨by rw [mapI_length]; simp, fun k x hx => ⟨sub0 k x, by rw [Nat.zero_add, mapI_get]; rw [List.drop_zero] at hx; rw [hx]; rfl, ?_, rfl⟩⟩
  show [(k : Int)] = [((0 : Nat) : Int) + (k : Int)]
  rw [Int.natCast_zero, Int.zero_add]
theorem drop_two {l : List D} (h : l.length = 3) : l.drop 2 = [d2 l] := by
  match l, h with
  | [a, b, c], _ => rfl
theorem drop_two4 {l : List D} (h : l.length = 4) : l.drop 2 = [d2 l, l.getD 3 dnone] := by
  match l, h with
  | [a, b, c, e], _ => rfl
theorem tail_fn {d : D} (h : synKind d = 5 ∨ synKind d = 9) : TailOk d 2 0 := by
  have hl := (syn_len d).1 (h.elim .inl fun e => .inr (.inl e))
  rw [TailOk, subs_of_fn h, drop_two hl]
  refine ⟨rfl, fun k x hx => ?_⟩
  match k, hx with
  | 0, hx => simp at hx; subst hx; exact ⟨_, rfl, rfl, rfl⟩
theorem tail_let {d : D} (h : synKind d = 6) : TailOk d 2 0 := by
  have hl := (syn_len d).2.1 h
  rw [TailOk, subs_of_let h, drop_two4 hl]
  refine ⟨rfl, fun k x hx => ?_⟩
  match k, hx with
  | 0, hx => simp at hx; subst hx; exact ⟨_, rfl, rfl, rfl⟩
  | 1, hx => simp at hx; subst hx; exact ⟨_, rfl, rfl, rfl⟩
theorem tail_rec {d : D} (h : synKind d = 7) : TailOk d 2 (d1 d.kids).kids.length := by
  have hl := (syn_len d).1 (.inr (.inr h))
  rw [TailOk, subs_of_rec h, drop_two hl]
  refine ⟨by rw [List.length_append, mapI_length]; rfl, fun k x hx => ?_⟩
  match k, hx with
  | 0, hx =>
    simp at hx; subst hx
    exact ⟨_, by rw [List.getElem?_append_right (by rw [mapI_length]; omega), mapI_length]; simp; rfl, rfl, rfl⟩
theorem rec_part {d : D} (h : synKind d = 7) {i : Nat} {x : D} (hx : (d1 d.kids).kids[i]? = some x) : ∃ q, (subs d)[i]? = some q ∧ q.1.p = [1, (i : Int), 2] ∧ q.2 = d2 x.kids := by
  rw [subs_of_rec h]
  refine ⟨subR d i x, ?_, rfl, rfl⟩
  rw [List.getElem?_append_left (by rw [mapI_length]; exact (List.getElem?_eq_some_iff.1 hx).1), mapI_get, hx]; rfl
end Go.Aw

namespace Go.Aw
open Go
section
variable {P : Program} {g : Ghost} {σ : Store} {L : List (List AV)} {w : World}
theorem Inv.newTok (h : Inv g σ L w) {t : Tok} (h0 : t.n = 0) {b cap : Nat} (f : Fresh g w b) {cur : Array Value} (hb : w.heap[b]? = some (.cells cur t.e (0, 0))) (hsz : cur.size = cap * t.sz) (hm : cap ≤ maxLen) :
    Inv { g with tb := g.tb ++ [some ⟨b, cap⟩] } { σ with toks := σ.toks ++ [t] } L w ∧ Le g σ.toks w { g with tb := g.tb ++ [some ⟨b, cap⟩] } (σ.toks ++ [t]) w := by
  have le : Le g σ.toks w { g with tb := g.tb ++ [some ⟨b, cap⟩] } (σ.toks ++ [t]) w := by
    refine ⟨rfl, Keeps.refl _ _ _, fun _ _ h => h, fun k t' ht => ⟨t', snoc_left ht, rfl, rfl, Nat.le_refl _, fun _ => ?_⟩⟩
    have hlt : k < g.tb.length := by rw [h.ltb]; exact (List.getElem?_eq_some_iff.1 ht).1
    exact List.getElem?_append_left hlt
  have hown : ({ g with tb := g.tb ++ [some ⟨b, cap⟩] } : Ghost).owned = g.owned ++ [b] := by simp [Ghost.owned]
  refine ⟨⟨h.lio, h.llam, by simp [h.ltb], h.glob, ?_, ?_, h.kept, h.base, h.cells, fun o ob c ho hio => (h.objs o ob c ho hio).mono le (fun _ _ h => h) rfl, fun i cs c hL hl => (h.priv i cs c hL hl).mono le (fun _ _ h => h) rfl, fun k t' tb ht htb => ?_⟩, le⟩
  · rw [hown]
    refine List.nodup_append.2 ⟨h.nodup, by simp, fun x hx y hy e => ?_⟩
    rw [List.mem_singleton] at hy
    subst hy e
    exact f.own hx
  · rw [hown]
    intro c hc
    rcases List.mem_append.1 hc with hc | hc
    · exact h.low c hc
    · rw [List.mem_singleton] at hc
      subst hc
      exact ⟨f.low, f.lt, f.K⟩
  · rcases getElem?_snoc htb with hb2 | ⟨hk, hb2⟩
    · have hlt : k < σ.toks.length := by rw [← h.ltb]; exact (List.getElem?_eq_some_iff.1 hb2).1
      simp only [List.getElem?_append_left hlt] at ht
      exact h.toks k t' tb ht hb2
    · simp only [Option.some.injEq] at hb2
      subst hb2
      have hkk : k = σ.toks.length := by rw [← h.ltb]; exact hk
      subst hkk
      simp only [List.getElem?_append_right (Nat.le_refl _), Nat.sub_self, List.getElem?_cons_zero, Option.some.injEq] at ht
      subst ht
      exact ⟨cur, hb, hsz, by rw [h0]; exact Nat.zero_le _, hm, fun o hS => absurd hS (f.S o)⟩
theorem acalls_grow {f : FuncId} {e : TypeId} (hroom : ∀ w, Calls P f #[.slice none 0 0, .int .i64 (0 : Nat)] w fun r w' => r = .returned (.slice none 0 0) ∧ w' = w)
    (hgrow : ∀ (n : Nat) w, 0 < n → n ≤ 1000000000 → Calls P f #[.slice none 0 0, .int .i64 n] w fun r w' => ∃ (cap : Nat) (cur : Array Value), r = .returned (.slice (some ⟨w.heap.size, 0, none⟩) 0 cap) ∧ w' = w.drew.alloc (.cells cur e) ∧ cur.size = cap ∧ cap ≤ maxLen)
    (n : Nat) (hn : n ≤ 1000000000) (σ : Store) : ACalls P f [.pv .nils, .pv (.int .i64 n)] σ fun r σ' => r = .acc [] σ.toks.length ∧ σ' = { σ with toks := σ.toks ++ [⟨0, e, 1⟩] } := by
  intro g w cargs hinv hlen hargs
  have hc : cargs.toArray = #[.slice none 0 0, .int .i64 n] := by
    match cargs, hlen with
    | [u, v], hl2 =>
      have h1 := (hargs 0 _ u rfl rfl).pv_inv.nils_inv
      have h2 := (hargs 1 _ v rfl rfl).pv_inv.int_inv
      rw [h1, h2]
  rw [hc]
  by_cases hn0 : n = 0
  · subst hn0
    refine (hroom w).mono ?_
    rintro r w' ⟨rfl, rfl⟩
    obtain ⟨i1, le1⟩ := hinv.adopt ⟨0, e, 1⟩
    refine ⟨_, _, _, _, rfl, ⟨rfl, rfl⟩, i1, ⟨le1, rfl, fun _ h => h, fun _ _ => rfl, Nat.le_refl _, rfl, rfl, rfl, hinv.lio, hinv.clo⟩, ?_⟩
    exact .acc (t := ⟨0, e, 1⟩) .empty (by simp) (Nat.le_refl _) (fun x hx => by simp at hx) (fun _ => .inr ⟨none, rfl⟩)
  · refine (hgrow n w (by omega) hn).mono ?_
    rintro r w' ⟨cap, cur, rfl, rfl, hcs, hcm⟩
    have hst := (hinv.drewN (w' := w.drew) rfl)
    have hal := hst.1.alloc (.cells cur e)
    have hfr := hst.1.fresh (.cells cur e)
    obtain ⟨i1, le1⟩ := hal.1.newTok (t := ⟨0, e, 1⟩) rfl (b := w.heap.size) (cap := cap) (cur := cur) hfr (heap_alloc_at w.drew _) (by simp [hcs]) hcm
    have le := hst.2.trans (hal.2.trans le1)
    refine ⟨_, _, _, _, rfl, ⟨rfl, rfl⟩, i1, ⟨le, rfl, fun _ h => h, fun b hK => Go.RowKit.Below.heap_alloc w.drew _ b (hinv.kept b hK).1, by simp, rfl, rfl, rfl, hinv.lio, hinv.clo⟩, ?_⟩
    refine .acc (t := ⟨0, e, 1⟩) .empty (by simp) (Nat.le_refl _) (fun x hx => by simp at hx) (fun _ => .inl ⟨⟨w.heap.size, cap⟩, ?_, rfl⟩)
    have hlt : σ.toks.length = g.tb.length := hinv.ltb.symm
    rw [hlt]; simp
end
end Go.Aw

namespace Go.Aw
open Go
mutual
/-- No private box is pointed to that lies beyond this number. -/
def AV.lclo (nl : Nat) : AV → Bool
  | .lptr i _ => decide (i < nl)
  | .func _ cs => AV.lclos nl cs
  | .agg cs => AV.lclos nl cs
  | .tuple cs => AV.lclos nl cs
  | _ => true
def AV.lclos (nl : Nat) : List AV → Bool
  | [] => true
  | x :: r => AV.lclo nl x && AV.lclos nl r
end
theorem AV.lclos_iff {nl : Nat} : ∀ {l : List AV}, AV.lclos nl l = true ↔ ∀ x, x ∈ l → x.lclo nl = true
  | [] => by simp [AV.lclos]
  | x :: r => by simp [AV.lclos, AV.lclos_iff (l := r)]
mutual
theorem noL_lclo (nl : Nat) : ∀ x : AV, x.noL = true → x.lclo nl = true
  | .lptr .., h => by simp [AV.noL] at h
  | .func _ cs, h => by simp only [AV.noL] at h; simp only [AV.lclo]; exact noLs_lclos nl cs h
  | .agg cs, h => by simp only [AV.noL] at h; simp only [AV.lclo]; exact noLs_lclos nl cs h
  | .tuple cs, h => by simp only [AV.noL] at h; simp only [AV.lclo]; exact noLs_lclos nl cs h
  | .pv _, _ => rfl
  | .full _, _ => rfl
  | .acc .., _ => rfl
  | .ptr .., _ => rfl
  | .map _, _ => rfl
  | .scr .., _ => rfl
  | .junk, _ => rfl
theorem noLs_lclos (nl : Nat) : ∀ l : List AV, AV.noLs l = true → AV.lclos nl l = true
  | [], _ => rfl
  | x :: l, h => by
    simp only [AV.noLs, Bool.and_eq_true] at h
    simp only [AV.lclos, Bool.and_eq_true]
    exact ⟨noL_lclo nl x h.1, noLs_lclos nl l h.2⟩
end
section
variable {ρ : Option Nat} {P : Program} {g0 g : Ghost} {σ0 σ : Store} {w0 w : World} {N : Nat} {s : St} {a : Act} {tk : List Tok}
theorem ra_clo {nl : Nat} {x : AV} {v : Value} (h : RA g tk w x v) : x.lclo nl = true → x.clo g.io.length tk.length nl = true := by
  have key : ∀ (cs : List AV) (vs : List Value), vs.length = cs.length → (∀ (i : Nat) x v, cs[i]? = some x → vs[i]? = some v → x.lclo nl = true → x.clo g.io.length tk.length nl = true) → AV.lclos nl cs = true → AV.clos g.io.length tk.length nl cs = true := by
    intro cs vs hl ih hc
    refine AV.clos_iff.2 fun x hx => ?_
    obtain ⟨i, hi⟩ := List.getElem?_of_mem hx
    have hlt : i < vs.length := by rw [hl]; exact (List.getElem?_eq_some_iff.1 hi).1
    exact ih i x vs[i] hi (by simp) (AV.lclos_iff.1 hc x hx)
  induction h with
  | pv => exact fun _ => rfl
  | full => exact fun _ => rfl
  | acc _ ht _ _ _ => intro _; simp only [AV.clo, decide_eq_true_eq]; exact (List.getElem?_eq_some_iff.1 ht).1
  | ptr h => intro _; simp only [AV.clo, decide_eq_true_eq]; exact (List.getElem?_eq_some_iff.1 h).1
  | lptr h => intro hc; simpa [AV.clo, AV.lclo] using hc
  | map h => intro _; simp only [AV.clo, decide_eq_true_eq]; exact (List.getElem?_eq_some_iff.1 h).1
  | func hl _ ih => intro hc; simp only [AV.clo]; exact key _ _ hl (fun i x v hx hv => ih i x v hx hv) (by simpa [AV.lclo] using hc)
  | agg hl _ _ ih => intro hc; simp only [AV.clo]; exact key _ _ hl (fun i x v hx hv => ih i x v hx hv) (by simpa [AV.lclo] using hc)
  | tuple hl _ ih => intro hc; simp only [AV.clo]; exact key _ _ hl (fun i x v hx hv => ih i x v hx hv) (by simpa [AV.lclo] using hc)
  | scr h _ _ => intro _; simp only [AV.clo, Bool.or_eq_true, decide_eq_true_eq]; exact .inl (List.getElem?_eq_some_iff.1 h).1
  | scrnil => intro _; simp [AV.clo]
  | junk => exact fun _ => rfl
structure WeakJL (nl : Nat) (s s2 : St) : Prop where
  σ : s2.σ = s.σ
  L : s2.L = s.L.take nl
  T : ∀ p, p ∈ s2.T → WA (get s.T p.1) p.2 ∧ p.2.lclo nl = true
  cL : ∀ cs, cs ∈ s2.L → AV.lclos nl cs = true
theorem WeakJL.rel {nl : Nat} {s2 : St} (h : WeakJL nl s s2) (r : RelG g0 σ0 w0 N g s a w) : Rel g0 σ0 w0 N s2 a w := by
  obtain ⟨T2, L2, σ2⟩ := s2
  obtain ⟨h1, h2, h3, h4⟩ := h
  simp only at h1 h2 h3 h4
  subst h1 h2
  have hio := r.2.1.lio
  have hobj : ∀ ob, ob ∈ s.σ.objs.take s.σ.objs.length → ob.clo s.σ.objs.length s.σ.toks.length nl = true := by
    intro ob hob
    rw [List.take_length] at hob
    obtain ⟨o, ho⟩ := List.getElem?_of_mem hob
    have hlt : o < g.io.length := by rw [hio]; exact (List.getElem?_eq_some_iff.1 ho).1
    have hR := r.2.1.objs o ob g.io[o] ho (by simp)
    rw [← hio]
    cases ob with
    | map ks vs => rfl
    | row e sz cap xs => rfl
    | box cs =>
      obtain ⟨hn, vs, e, k1, k2, k3, k4⟩ := hR
      refine AV.clos_iff.2 fun x hx => ?_
      obtain ⟨i, hi⟩ := List.getElem?_of_mem hx
      have hl : i < vs.length := by rw [k2]; exact (List.getElem?_eq_some_iff.1 hi).1
      exact ra_clo (k4 i x vs[i] hi (by simp)) (noL_lclo nl x (hn x hx))
    | loop l st pe T N ps assign body =>
      obtain ⟨⟨_, hn, hnd⟩, fn, tmps, D, k1, k2, k3⟩ := hR
      refine AV.clos_iff.2 fun x hx => ?_
      obtain ⟨p, hp, rfl⟩ := List.mem_map.1 hx
      have := k3 p.1
      rw [get_nodup hnd hp] at this
      exact ra_clo this (noL_lclo nl _ (hn _ hx))
  have hL : ∀ cs, cs ∈ s.L.take nl → AV.clos s.σ.objs.length s.σ.toks.length nl cs = true := by
    intro cs hcs
    obtain ⟨i, hi⟩ := List.getElem?_of_mem hcs
    have hin : i < nl := by have := (List.getElem?_eq_some_iff.1 hi).1; rw [List.length_take] at this; omega
    rw [take_get hin] at hi
    have hlt : i < g.lam.length := by rw [r.2.1.llam]; exact (List.getElem?_eq_some_iff.1 hi).1
    obtain ⟨vs, e, k1, k2, k3, k4⟩ := r.2.1.priv i cs g.lam[i] hi (by simp)
    rw [← hio]
    refine AV.clos_iff.2 fun x hx => ?_
    obtain ⟨j, hj⟩ := List.getElem?_of_mem hx
    have hl : j < vs.length := by rw [k2]; exact (List.getElem?_eq_some_iff.1 hj).1
    exact ra_clo (k4 j x vs[j] hj (by simp)) (AV.lclos_iff.1 (h4 cs hcs) x hx)
  have hlo : σ0.objs.length ≤ s.σ.objs.length := by
    rw [← hio, ← r.1.io0]
    by_cases hz : g0.io.length = 0
    · omega
    · have := r.1.le.io (g0.io.length - 1) g0.io[g0.io.length - 1] (by simp)
      have := (List.getElem?_eq_some_iff.1 this).1
      omega
  have hlt : σ0.toks.length ≤ s.σ.toks.length := by
    by_cases hz : σ0.toks.length = 0
    · omega
    · obtain ⟨t', ht', _⟩ := r.1.le.tok (σ0.toks.length - 1) σ0.toks[σ0.toks.length - 1] (by simp)
      have := (List.getElem?_eq_some_iff.1 ht').1
      omega
  have hcut : s.σ.cut s.σ.objs.length s.σ.toks.length = s.σ := by simp [Store.cut]
  have i1 := r.2.1.cut (no := s.σ.objs.length) (nt := s.σ.toks.length) (nl := nl) hobj hL
  have e1 := r.1.cut (nl := nl) hlo hlt
  rw [hcut] at i1 e1
  refine ⟨_, e1, i1, r.2.2.1, r.2.2.2.1, fun t => ?_⟩
  have hra := get_wa r.2.2.2.2 (fun p hp => (h3 p hp).1) t
  have hcl : (get T2 t).lclo nl = true := by
    rcases get_mem (T := T2) (t := t) with e | ⟨p, hp, e⟩
    · rw [e]; rfl
    · rw [e]; exact (h3 p hp).2
  have := hra.cut (no := s.σ.objs.length) (nt := s.σ.toks.length) (nl := nl) (by rw [← hio]; exact ra_clo hra hcl)
  rw [List.take_length] at this
  exact this
def NextJL {ι : Type} (nl : Nat) (S : ι → St) (I : ι → Prop) (μ : ι → Nat) (i : ι) (s' : St) : Prop := ∃ j, I j ∧ μ j < μ i ∧ WeakJL nl s' (S j)
theorem awp_loop_famJL {c : Code} {Q : Exit → St → Prop} {ι : Type} (nl : Nat) (S : ι → St) (I : ι → Prop) (μ : ι → Nat) (i0 : ι) (hi0 : I i0) (h0 : WeakJL nl s (S i0))
    (round : ∀ i, I i → AWpR ρ P σ0 N c (Then (NextJL nl S I μ i) Q) (S i)) : AWpR ρ P σ0 N (.loop c) Q s := by
  rintro g0 w0 a w ⟨g, r⟩ b k cs hro hb hr
  have key : ∀ n i, μ i = n → I i → ∀ a w, Rel g0 σ0 w0 N (S i) a w →
      ∃ e a' w', lift g0 σ0 w0 N Q e a' w' ∧ ArrivesIn (Machine.fenced P (wF ρ)) P (lone (b.atR a (.code c :: .inLoop c :: k)) cs w) b k cs e a' w' := by
    intro n
    induction n using Nat.strongRecOn with
    | _ n ih =>
      intro i hn hI a w r
      obtain ⟨e, a₁, w₁, ⟨s₁, hq, r₁⟩, harr⟩ := round i hI g0 w0 a w r b (.inLoop c :: k) cs hro hb hr
      cases e with
      | normal =>
        obtain ⟨j, hj, hlt, hw⟩ := hq
        obtain ⟨g₁, r₁⟩ := r₁
        obtain ⟨e₂, a₂, w₂, hq₂, harr₂⟩ := ih (μ j) (hn ▸ hlt) j rfl hj a₁ w₁ (hw.rel r₁)
        exact ⟨e₂, a₂, w₂, hq₂, .of_steps (StepsIn.trans harr (.one (fenced_calm hb hr rfl) stepR_inLoop)) harr₂⟩
      | exit id => exact ⟨_, a₁, w₁, ⟨s₁, hq, r₁⟩, .pass (x := .inLoop c) rfl (fun _ _ => .inl (by simp)) harr⟩
      | goto l => exact ⟨_, a₁, w₁, ⟨s₁, hq, r₁⟩, .pass (x := .inLoop c) rfl (fun _ _ => .inl (by simp)) harr⟩
      | ret => exact ⟨_, a₁, w₁, ⟨s₁, hq, r₁⟩, .pass (x := .inLoop c) rfl (fun _ _ => .inl (by simp)) harr⟩
      | panic ch => exact ⟨_, a₁, w₁, ⟨s₁, hq, r₁⟩, .pass (x := .inLoop c) rfl (fun _ _ => .inl (by simp)) harr⟩
      | outgrown => exact ⟨_, a₁, w₁, ⟨s₁, hq, r₁⟩, .pass (x := .inLoop c) rfl (fun _ _ => .inl (by simp)) harr⟩
  obtain ⟨e, a', w', hq, harr⟩ := key _ i0 rfl hi0 a w (h0.rel r)
  exact ⟨e, a', w', hq, .of_steps (.one (fenced_calm hb hr rfl) stepR_loop) harr⟩
theorem awp_loop_headJL {c : Code} {Q : Exit → St → Prop} {ι : Type} (nl : Nat) (keep : List Nat) (m : ι → List (Nat × AV)) (σf : ι → Store) (I : ι → Prop) (μ : ι → Nat) (i0 : ι) (hi0 : I i0) (h0 : WeakJL nl s (headK s keep (m i0) s.L (σf i0)))
    (round : ∀ i, I i → AWpR ρ P σ0 N c (Then (NextJL nl (fun i => headK s keep (m i) s.L (σf i)) I μ i) Q) (headK s keep (m i) s.L (σf i))) : AWpR ρ P σ0 N (.loop c) Q s :=
  awp_loop_famJL nl (fun i => headK s keep (m i) s.L (σf i)) I μ i0 hi0 h0 round
attribute [go_sem] AV.lclo AV.lclos
end
end Go.Aw

namespace Go.Aw
open Go
/-- The path of the first expression without a form. -/
def swr (d : D) : Option (List Int) := scata (fun d rs => if (synKind d == 0) = true then some [] else rs.findSome? fun q => q.2.map (q.1.p ++ ·)) d
theorem swr_eq (d : D) : swr d = if (synKind d == 0) = true then some [] else (subs d).findSome? fun q => (swr q.2).map (q.1.p ++ ·) := by
  show scata (β := Option (List Int)) _ d = _
  rw [scata_eq]
  simp only [List.findSome?_map]; rfl
theorem synOk_swr (d : D) : synOk d = (swr d).isNone := by
  induction d using D.indS with
  | h d ih =>
    rw [synOk_eq, swr_eq]
    by_cases h0 : synKind d = 0
    · rw [h0]; rfl
    · rw [if_neg (by simpa using h0)]
      have hne : (synKind d != 0) = true := by simpa using h0
      rw [hne, Bool.true_and, Bool.eq_iff_iff]
      rw [List.all_eq_true, Option.isNone_iff_eq_none, List.findSome?_eq_none_iff]
      refine forall_congr' fun q => forall_congr' fun hq => ?_
      rw [ih q hq]
      cases swr q.2 <;> simp
def NoWr (d : D) (i : Nat) : Prop := ∀ (j : Nat) (q : Sub × D), j < i → (subs d)[j]? = some q → swr q.2 = none
theorem NoWr.zero {d : D} : NoWr d 0 := fun _ _ h => by omega
theorem NoWr.succ {d : D} {i : Nat} {q : Sub × D} (h : NoWr d i) (hq : (subs d)[i]? = some q) (hn : swr q.2 = none) : NoWr d (i + 1) := by
  intro j q2 hj hq2
  by_cases e : j = i
  · subst e; rw [hq, Option.some.injEq] at hq2; subst hq2; exact hn
  · exact h j q2 (by omega) hq2
theorem NoWr.all {d : D} (h : NoWr d (subs d).length) (hk : synKind d ≠ 0) : swr d = none := by
  rw [swr_eq, if_neg (by simpa using hk), List.findSome?_eq_none_iff]
  intro q hq
  obtain ⟨i, hi, rfl⟩ := List.getElem_of_mem hq
  rw [h i _ hi (by rw [List.getElem?_eq_getElem hi])]; rfl
theorem NoWr.found {d : D} {i : Nat} {q : Sub × D} {p : List Int} (h : NoWr d i) (hk : synKind d ≠ 0) (hq : (subs d)[i]? = some q) (hp : swr q.2 = some p) : swr d = some (q.1.p ++ p) := by
  rw [swr_eq, if_neg (by simpa using hk), List.findSome?_eq_some_iff]
  obtain ⟨hi, he⟩ := List.getElem?_eq_some_iff.1 hq
  refine ⟨(subs d).take i, q, (subs d).drop (i + 1), ?_, by rw [hp]; rfl, ?_⟩
  · rw [← he, List.getElem_cons_drop, List.take_append_drop]
  · intro q2 h2
    obtain ⟨j, hj, rfl⟩ := List.getElem_of_mem h2
    rw [List.length_take] at hj
    rw [List.getElem_take, h j _ (by omega) (List.getElem?_eq_getElem (by omega))]; rfl
theorem subs_plen {d : D} {q : Sub × D} (h : q ∈ subs d) : 1 ≤ q.1.p.length ∧ q.1.p.length ≤ 3 := by
  have hm : ∀ (f : Nat → D → Sub × D) (l : List D), (∀ i x, 1 ≤ (f i x).1.p.length ∧ (f i x).1.p.length ≤ 3) → q ∈ mapI f l → 1 ≤ q.1.p.length ∧ q.1.p.length ≤ 3 := by
    intro f l hf hq
    obtain ⟨i, x, hx, rfl⟩ := mapI_mem hq
    exact hf i x
  by_cases h4 : synKind d = 4 ∨ synKind d = 8
  · rw [subs_of_rest h4] at h; exact hm _ _ (fun _ _ => ⟨by simp [sub0, sub1, subR], by simp [sub0, sub1, subR]⟩) h
  by_cases h5 : synKind d = 5 ∨ synKind d = 9
  · rw [subs_of_fn h5] at h; rw [List.mem_singleton.1 h]; exact ⟨by simp [subL], by simp [subL]⟩
  by_cases h6 : synKind d = 6
  · rw [subs_of_let h6] at h
    simp only [List.mem_cons, List.not_mem_nil, or_false] at h
    rcases h with rfl | rfl <;> exact ⟨by simp [subL], by simp [subL]⟩
  by_cases h7 : synKind d = 7
  · rw [subs_of_rec h7, List.mem_append, List.mem_singleton] at h
    rcases h with h | rfl
    · exact hm _ _ (fun _ _ => ⟨by simp [sub0, sub1, subR], by simp [sub0, sub1, subR]⟩) h
    · exact ⟨by simp [subL], by simp [subL]⟩
  by_cases h10 : synKind d = 10
  · rw [subs_of_app h10] at h; exact hm _ _ (fun _ _ => ⟨by simp [sub0, sub1, subR], by simp [sub0, sub1, subR]⟩) h
  · exfalso
    have hs : subs d = [] := subs_of_none (by cases shape d <;> omega)
    rw [hs] at h; simp at h
theorem swr_len : ∀ (d : D) (p : List Int), swr d = some p → p.length ≤ 3 * d.size := by
  intro d
  induction d using D.indS with
  | h d ih =>
    intro p hp
    rw [swr_eq] at hp
    split at hp
    · injection hp with hp; subst hp; simp
    · obtain ⟨q, hq, he⟩ := List.exists_of_findSome?_eq_some hp
      cases hs : swr q.2 with
      | none => rw [hs] at he; cases he
      | some p2 =>
        rw [hs] at he
        simp only [Option.map_some, Option.some.injEq] at he
        subst he
        have h1 := ih q hq p2 hs
        have h2 := (subs_plen hq).2
        have h3 := subs_lt hq
        rw [List.length_append]; omega
/-- A path as a value; the empty path may be nil. -/
def wPV (p : List Int) : PV := if p = [] then .nils else .slice (p.map (.int .i64))
def wpath (d : D) : PV := match swr d with
  | some p => wPV p
  | none => .nils
theorem wr_some {d : D} {p : List Int} (h : swr d = some p) : wpath d = wPV p ∧ synOk d = false := by
  refine ⟨by unfold wpath; rw [h], by rw [synOk_swr, h]; rfl⟩
theorem wr_none {d : D} (h : swr d = none) : wpath d = .nils ∧ synOk d = true := by
  refine ⟨by unfold wpath; rw [h], by rw [synOk_swr, h]; rfl⟩
theorem swr_is {d : D} (h : synOk d = false) : ∃ p, swr d = some p := by
  rw [synOk_swr] at h
  cases hs : swr d with
  | some p => exact ⟨p, rfl⟩
  | none => rw [hs] at h; cases h
theorem swr_no {d : D} (h : synOk d = true) : swr d = none := by rw [synOk_swr] at h; exact Option.isNone_iff_eq_none.1 h
theorem wPV_cells (p : List Int) : (wPV p).cells = [wPV p] := by unfold wPV; split <;> rfl
theorem wPV_nrm (p : List Int) : PV.nrm (wPV p) = wPV p := by unfold wPV; split <;> rfl
theorem wpath_cells (d : D) : (wpath d).cells = [wpath d] := by unfold wpath; split; exact wPV_cells _; rfl
end Go.Aw

namespace Go.Aw
open Go
variable {P : Program} {ty : TyT} {σ0 : Store} {N : Nat} {s : St} {o : Oper} {os : List Oper} {ops : Array Oper} {K : St → Prop}
end Go.Aw

namespace Go.Aw
open Go
section
variable {ρ : Option Nat} {P : Program} {ty : TyT} {σ0 : Store} {N : Nat} {s : St} {o : Oper} {os : List Oper} {ops : Array Oper} {next : St → Prop} {K : St → Prop}
theorem flat_replicate {p : PV} (hp : p.cells = [p]) (n : Nat) : flat (List.replicate n p) = List.replicate n p := by
  induction n with
  | zero => rfl
  | succ n ih =>
    rw [List.replicate_succ, show p :: List.replicate n p = [p] ++ List.replicate n p from rfl, flat_append, ih]
    simp [flat, hp]
theorem rp_int {B : Nat} {S : Nat → Nat → Prop} {w : World} {k : IntKind} {x : Int} {v : Value} (h : RP B S w (.int k x) v) : v = .int k x := by cases h; rfl
theorem rp_nilp {B : Nat} {S : Nat → Nat → Prop} {w : World} {v : Value} (h : RP B S w .nilp v) : v = .pointer none := by cases h; rfl
theorem rp_ptr {B : Nat} {S : Nat → Nat → Prop} {w : World} {v : Value} {ps : List PV} (h : RP B S w (.ptr ps) v) : ∃ ad, v = .pointer (some ad) := by cases h; exact ⟨_, rfl⟩
theorem eqGuard_ptr (op : BinOp) (t : TypeId) (p q : Operand) (a b : Option Addr) {P : Program} {w : World} : (eqGuard op t p q (.pointer a) (.pointer b)).run P w = .ok () w := by
  cases op <;> rfl
theorem aop_makeSlice (hty : TyOk P ty) {t e : TypeId} {ti te : TyI} {l c : Operand} {n : Nat} {p : PV} (ho : o.op = .makeSlice t l c) (hti : ty t = some ti) (hk : ti.kind = .slice e) (hte : ty e = some te) (hz : te.zero = [p]) (hp : p.cells = [p])
    (hl : ev s l = .pv (.int .i64 (n : Int))) (hc : ev s c = .pv (.int .i64 (n : Int))) (hb : te.bytes ≤ 1000) (hbig : n ≤ 1000000000) (hd : dstOk N o.dst = true) (hn : next (s.put o.dst (.full (List.replicate n p)))) : AOp P σ0 N o next s := by
  rintro g0 w0 a w nx Q ⟨g, r⟩ hnx
  obtain ⟨i, z, h7, h8, h9, h10, h11, h12, h13⟩ := (hty _ _ hte).info
  have hl' : a.eval l = .int .i64 (n : Int) := by have := r.ev l; rw [hl] at this; exact rp_int this.pv_inv
  have hc' : a.eval c = .int .i64 (n : Int) := by have := r.ev c; rw [hc] at this; exact rp_int this.pv_inv
  have hsz : te.size = 1 := by
    have := (rcells_const (g := g) (tk := s.σ.toks) (w := w) h11).len
    rw [hz] at this
    rw [← h12, ← Array.length_toList, this]; rfl
  have hbytes : (i.bytes : Int) * (n : Int) ≤ 281474976710656 := by
    rw [h9]
    have h1 : te.bytes * n ≤ 1000 * 1000000000 := Nat.mul_le_mul hb hbig
    have h2 : ((te.bytes * n : Nat) : Int) ≤ 1000 * 1000000000 := by omega
    rw [Int.natCast_mul] at h2
    omega
  have hrun := run_make (P := P) w t e i z ((hty _ _ hti).slice hk) h7 h10 .i64 .i64 n n (by omega) (Int.le_refl _) hbytes (by omega)
  simp only [Int.toNat_natCast, h8, hsz, Nat.mul_one] at hrun
  have hzc : RCells g s.σ.toks w (te.zero.map .pv) z.cells.toList := rcells_const h11
  obtain ⟨v0, hv0⟩ : ∃ v, z.cells = #[v] := by
    have : z.cells.size = 1 := by rw [h12, hsz]
    exact Array.size_eq_one_iff.1 this
  have hmk : madeCells z.cells n = (List.replicate n v0).toArray := by
    apply Array.ext'
    unfold madeCells
    rw [hv0]
    apply List.ext_getElem?
    intro j
    by_cases hj : j < n
    · simp [hj, Nat.mod_one]
    · simp [hj]
  rw [hmk] at hrun
  rw [hz, hv0] at hzc
  have hra0 : RA g s.σ.toks w (.pv p) v0 := hzc.all 0 _ _ rfl rfl
  have hone0 : v0.oneCell' = true := hzc.one _ (by simp)
  obtain ⟨r1, f⟩ := r.alloc (.cells (List.replicate n v0).toArray e)
  have r2 := r1.addS f fun _ => True
  unfold opW
  have : (execOp a.eval o).run P w = .ok (.value (.slice (some ⟨w.heap.size, 0, none⟩) n n)) (w.alloc (.cells (List.replicate n v0).toArray e)) := by
    simp only [execOp, ho, Sem.run_bind, hl', hc', hrun, Result.andThen_ok, Sem.run_pure]
  rw [this]
  refine hnx _ _ _ hn ⟨_, r2.put (.full ?_) hd⟩
  have hfl := flat_replicate hp n
  have hln : (List.replicate n p).length = n := by simp
  have hv : Value.slice (some ⟨w.heap.size, 0, none⟩) n n = Value.slice (some ⟨w.heap.size, 0, none⟩) (List.replicate n p).length n := by rw [hln]
  rw [hv]
  refine RP.row (us := List.replicate n v0) (rest := []) (sz := 1) (e := e) (fun q hq => by rw [List.eq_of_mem_replicate hq, hp]; rfl) (fun j x v hx hv => ?_) (by rw [hfl]; simp) (fun u hu => by rw [List.eq_of_mem_replicate hu]; exact hone0) (by rw [heap_alloc_at]; simp) (fun o _ => .inr ⟨rfl, trivial⟩) (Nat.le_of_eq hln)
  rw [hfl] at hx
  simp only [List.getElem?_replicate] at hx hv
  split at hx
  · rename_i hj
    rw [if_pos hj] at hv
    cases hx; cases hv
    have hra := hra0.alloc r.2.1 (.cells (List.replicate n v0).toArray e)
    have := (r1.2.1.addS f fun _ => True).2
    exact (hra.mono this (fun _ _ h => h)).pv_inv
  · cases hx
theorem equal_ptr_nil {t e : TypeId} {w : World} (hu : P.underlying t = some (.pointer e)) (a : Option Addr) : (Op.equal t (.pointer a) (.pointer none)).run P w = .ok a.isNone w := by
  have hd : Op.maxDepth = 9999 + 1 := rfl
  rw [Op.equal, hd, Op.equalIn, Sem.run_bind, run_underlying hu, Result.andThen_ok]
  cases a <;> rfl
/-- A pointer against nil. -/
theorem aop_ptrNe (hty : TyOk P ty) {t e : TypeId} {ti : TyI} {x y : Operand} {yt : TypeId} (b : Bool) (ho : o.op = .binOp .neq t x y yt) (hti : ty t = some ti) (hk : ti.kind = .ptr e)
    (hx : (ev s x = .pv .nilp ∧ b = false) ∨ ∃ ps, ev s x = .pv (.ptr ps) ∧ b = true) (hy : ev s y = .pv .nilp) (hd : dstOk N o.dst = true) (hn : next (s.put o.dst (.pv (.bool b)))) : AOp P σ0 N o next s := by
  rintro g0 w0 a w nx Q ⟨g, r⟩ hnx
  have hu : P.underlying t = some (.pointer e) := by
    obtain ⟨d, h1, h2⟩ := (hty _ _ hti).und
    rw [hk] at h2
    cases d <;> simp at h2
    subst h2; exact h1
  have hx' : ∃ ad, a.eval x = .pointer ad ∧ (!ad.isNone) = b := by
    have h := r.ev x
    rcases hx with ⟨hx, rfl⟩ | ⟨ps, hx, rfl⟩ <;> rw [hx] at h
    · exact ⟨none, rp_nilp h.pv_inv, rfl⟩
    · obtain ⟨ad, h1⟩ := rp_ptr h.pv_inv; exact ⟨some ad, h1, rfl⟩
  obtain ⟨ad, hx1, hx2⟩ := hx'
  have hy' : a.eval y = .pointer none := by have h := r.ev y; rw [hy] at h; exact rp_nilp h.pv_inv
  have hrun : (execOp a.eval o).run P w = .ok (.value (.bool b)) w := by
    simp only [execOp, ho, hx1, hy', Sem.run_bind, eqGuard_ptr, Result.andThen_ok, binOp, equal_ptr_nil hu, Sem.run_pure, hx2]
  unfold opW
  rw [hrun]
  exact hnx _ _ _ hn ⟨g, r.put (.pv .bool) hd⟩
theorem al_makeSlice (hty : TyOk P ty) {t e : TypeId} {ti te : TyI} {l c : Operand} {n : Nat} {p : PV} (hg : o.guard = none) (ho : o.op = .makeSlice t l c) (hti : ty t = some ti) (hk : ti.kind = .slice e) (hte : ty e = some te) (hz : te.zero = [p]) (hp : p.cells = [p])
    (hl : ev s l = .pv (.int .i64 (n : Int))) (hc : ev s c = .pv (.int .i64 (n : Int))) (hb : te.bytes ≤ 1000) (hbig : n ≤ 1000000000) (hd : dstOk N o.dst = true) (k : AOpsL P σ0 N ops os K (s.put o.dst (.full (List.replicate n p)))) : AOpsL P σ0 N ops (o :: os) K s :=
  al_cons hg (aop_makeSlice hty ho hti hk hte hz hp hl hc hb hbig hd k)
theorem al_ptrNe (hty : TyOk P ty) {t e : TypeId} {ti : TyI} {x y : Operand} {yt : TypeId} (b : Bool) (hg : o.guard = none) (ho : o.op = .binOp .neq t x y yt) (hti : ty t = some ti) (hk : ti.kind = .ptr e)
    (hx : (ev s x = .pv .nilp ∧ b = false) ∨ ∃ ps, ev s x = .pv (.ptr ps) ∧ b = true) (hy : ev s y = .pv .nilp) (hd : dstOk N o.dst = true) (k : AOpsL P σ0 N ops os K (s.put o.dst (.pv (.bool b)))) : AOpsL P σ0 N ops (o :: os) K s :=
  al_cons hg (aop_ptrNe hty b ho hti hk hx hy hd k)
end
end Go.Aw

namespace Go.Aw
open Go
section
variable {ρ : Option Nat} {P : Program} {σ0 : Store} {N : Nat} {s : St} {Q : Exit → St → Prop}
/-- The box at ob, and what was laid behind it, are no longer told; the pointer to it reads as its cells. -/
theorem awp_freezeP {c : Code} (d : Nat) {s2 : St} {ob : Nat} {ps : List PV} (hx : get s.T d = .ptr ob 0) (hob : s.σ.objs[ob]? = some (.box (ps.map .pv))) (hw : Weak σ0 ob s.σ.toks.length s.L.length s s2)
    (k : AWpR ρ P σ0 N c Q { s2 with T := (d, .pv (.ptr ps)) :: s2.T }) : AWpR ρ P σ0 N c Q s := by
  rintro g0 w0 a w ⟨g, r⟩
  have r2 := hw.rel r
  have hpr := r.2.2.2.2 d
  rw [hx] at hpr
  generalize hpv : a.tmps.getD d undef = pv at hpr
  cases hpr with
  | ptr hio =>
    rename_i b
    obtain ⟨hnl, vs, e, h6, h7, h8, h9⟩ := r.2.1.objs ob _ b hob hio
    have hlow := r.2.1.low b (mem_io hio)
    have ap := r.2.1.apart
    have hfr : Fresh (g.cut ob s.σ.toks.length s.L.length) w b := by
      refine ⟨hlow.1, hlow.2.1, hlow.2.2, fun o hS => (r.2.1.cells b o hS).2.2.1 (List.mem_of_getElem? hio), ?_⟩
      intro hm
      simp only [Ghost.owned, Ghost.cut, List.mem_append] at hm
      rcases hm with (hm | hm) | hm
      · obtain ⟨q, hq, hqe⟩ := List.getElem_of_mem hm
        have hq2 : q < ob := by rw [List.length_take] at hq; omega
        have : g.io[q]? = some b := by
          rw [List.getElem_take] at hqe
          rw [← hqe]; simp
        have := nodup_get ap.1.1 this hio
        omega
      · exact ap.2.1 b (List.mem_of_getElem? hio) (List.mem_of_mem_take hm)
      · obtain ⟨tb, htb, hte⟩ := List.mem_filterMap.1 hm
        cases tb with
        | none => cases hte
        | some tb =>
          simp only [Option.map_some, Option.some.injEq] at hte
          obtain ⟨kk, hkk, hke⟩ := List.getElem_of_mem (List.mem_of_mem_take htb)
          have := (ap.2.2 kk tb (by rw [← hke]; simp)).1
          rw [hte] at this
          exact this (List.mem_of_getElem? hio)
    have r3 := r2.addS hfr (fun o => o < ps.length)
    refine k g0 w0 a w ⟨_, r3.1, r3.2.1, r3.2.2.1, r3.2.2.2.1, fun t => ?_⟩
    simp only [get]
    split
    · subst_vars
      rw [hpv]
      have hle : Keeps g.B g.S (fun c o => g.S c o ∨ (c = b ∧ o < ps.length)) w w := ⟨fun _ _ h => .inl h, fun _ _ _ => rfl, fun _ _ => rfl⟩
      have hpl : vs.length = ps.length := by simpa using h7
      refine .pv (RP.ptr (vs := vs) hpl (fun i v hv => ?_) (fun i x v hx hv => ?_))
      · refine ⟨.inr (.inr ⟨rfl, by have := (List.getElem?_eq_some_iff.1 hv).1; omega⟩), ?_, h8 v (List.mem_of_getElem? hv)⟩
        rw [cell_of_heap h6, List.getElem?_toArray, Nat.zero_add]
        exact hv
      · exact (h9 i (.pv x) v (by rw [List.getElem?_map, hx]; rfl) hv).pv_inv.mono hle
    · exact r3.2.2.2.2 t
/-- The same: these slots are kept. -/
theorem awp_freezePK {c : Code} (d : Nat) (keep : List Nat) (σ' : Store) {ob : Nat} {ps : List PV} (hx : get s.T d = .ptr ob 0) (hob : s.σ.objs[ob]? = some (.box (ps.map .pv))) (hσ : σ' = s.σ.cut ob s.σ.toks.length) (h0 : σ0.objs.length ≤ ob) (ht : σ0.toks.length ≤ s.σ.toks.length)
    (hT : ∀ p, p ∈ (keep.map fun t => (t, get s.T t)) → WV ob s.σ.toks.length s.L.length (get s.T p.1) p.2) (co : ∀ ob', ob' ∈ σ'.objs → ob' ∈ σ0.objs ∨ ob'.clo ob s.σ.toks.length s.L.length = true) (cL : ∀ cs, cs ∈ s.L → AV.clos ob s.σ.toks.length s.L.length cs = true)
    (k : AWpR ρ P σ0 N c Q ⟨(d, .pv (.ptr ps)) :: keep.map fun t => (t, get s.T t), s.L, σ'⟩) : AWpR ρ P σ0 N c Q s :=
  awp_freezeP d (s2 := ⟨keep.map fun t => (t, get s.T t), s.L, σ'⟩) hx hob ⟨hσ, by simp, h0, ht, hT, co, cL⟩ k
end
end Go.Aw

namespace Go.Aw
open Go
/-- A scope: the names, the nearest first. -/
def encSc : List ByteArray → PV
  | [] => .nilp
  | n :: r => .ptr [.str n, .bool false, encSc r]
theorem encSc_at {l : List ByteArray} {k : Nat} {x : ByteArray} (h : l[k]? = some x) : encSc (l.drop k) = .ptr [.str x, .bool false, encSc (l.drop (k + 1))] := by
  obtain ⟨hk, rfl⟩ := List.getElem?_eq_some_iff.1 h
  rw [List.drop_eq_getElem_cons hk]; rfl
theorem encSc_ne (l : List ByteArray) (k : Nat) : (AV.pv (encSc (l.drop k)) = .pv .nilp ∧ decide (k < l.length) = false) ∨ ∃ ps, AV.pv (encSc (l.drop k)) = .pv (.ptr ps) ∧ decide (k < l.length) = true := by
  by_cases h : k < l.length
  · refine .inr ⟨_, congrArg AV.pv (encSc_at (x := l[k]) (by simp [h])), by simpa using h⟩
  · refine .inl ⟨?_, by simpa using h⟩
    rw [List.drop_of_length_le (by omega)]; rfl
@[go_sem] theorem encSc_cells (l : List ByteArray) : (AV.pv (encSc l)).cells = some [.pv (encSc l)] := by cases l <;> rfl
@[go_sem] theorem encSc_nrm (l : List ByteArray) : PV.nrm (encSc l) = encSc l := by cases l <;> rfl
theorem memB_any (l : List ByteArray) (x : ByteArray) : memB l x = l.any fun y => decide (y = x) := by
  unfold memB
  congr 1
  funext y
  rw [decide_eq_decide]; exact eq_comm
theorem encSc_with {ns l : List ByteArray} {k : Nat} {x : ByteArray} (h : ns[k]? = some x) : PV.ptr [.str x, .bool false, encSc ((ns.take k).reverse ++ l)] = encSc ((ns.take (k + 1)).reverse ++ l) := by
  rw [take_next h, List.reverse_append]; rfl
theorem rep_get {n k : Nat} {p : PV} (h : k < n) : (List.replicate n p)[k]? = some p := by simp [h]
/-- The names free in the first parts, added to others. -/
def frd (d : D) (l S : List ByteArray) (k : Nat) : List ByteArray := ((subs d).take k).foldl (fun S q => sfree q.2 (q.1.ns.map (·.1) ++ l) S) S
theorem frd_next {d : D} {l S : List ByteArray} {k : Nat} {q : Sub × D} (h : (subs d)[k]? = some q) : frd d l S (k + 1) = sfree q.2 (q.1.ns.map (·.1) ++ l) (frd d l S k) := by
  unfold frd
  rw [take_next h, List.foldl_append]; rfl
theorem frd_all {d : D} {l S : List ByteArray} (h : synKind d ≠ 2) : frd d l S (subs d).length = sfree d l S := by
  unfold frd
  rw [List.take_length, sfree_eq, if_neg (by simpa using h)]
theorem sfree_name {d : D} {l S : List ByteArray} (h : synKind d = 2) : sfree d l S = if memB l d.text = true then S else addS S d.text := by
  rw [sfree_eq, if_pos (by simpa using h)]
theorem ownS_len (d : D) : (ownS d).length ≤ d.size := by
  have h1 := D.kids_length_lt (d1 d.kids)
  by_cases h : 1 < d.kids.length
  · have h2 : (d1 d.kids).size < d.size := D.size_kid_lt (getD_mem (n := 1) h)
    unfold ownS
    split
    · simp; omega
    · split
      · simp; omega
      · split
        · simp; omega
        · split
          · simp; omega
          · simp
  · have h2 : d1 d.kids = dnone := by
      show d.kids.getD 1 dnone = dnone
      rw [List.getD_eq_getElem?_getD, List.getElem?_eq_none (by omega)]; rfl
    have := D.size_pos d
    unfold ownS
    rw [h2]
    split
    · simp [dnone, D.kids]
    · split
      · simp [dnone, D.kids]
      · split
        · simp; omega
        · split
          · simp [dnone, D.kids]
          · simp
theorem subs_ns {d : D} (h : synKind d = 4 ∨ synKind d = 8 ∨ synKind d = 10) {q : Sub × D} (hq : q ∈ subs d) : q.1.ns = [] := by
  rcases h with h | h | h
  · rw [subs_of_rest (.inl h)] at hq; obtain ⟨i, x, hx, rfl⟩ := mapI_mem hq; rfl
  · rw [subs_of_rest (.inr h)] at hq; obtain ⟨i, x, hx, rfl⟩ := mapI_mem hq; rfl
  · rw [subs_of_app h] at hq; obtain ⟨i, x, hx, rfl⟩ := mapI_mem hq; rfl
theorem subs_ns2 {d : D} (h : synKind d ≠ 5 ∧ synKind d ≠ 9 ∧ synKind d ≠ 6 ∧ synKind d ≠ 7) {q : Sub × D} (hq : q ∈ subs d) : q.1.ns = [] := by
  by_cases h4 : synKind d = 4 ∨ synKind d = 8 ∨ synKind d = 10
  · exact subs_ns h4 hq
  · have hs : subs d = [] := subs_of_none (by cases shape d <;> omega)
    rw [hs] at hq; simp at hq
theorem subs_rec_at {d : D} (h : synKind d = 7) {i : Nat} {x : D} (hx : (d1 d.kids).kids[i]? = some x) : (subs d)[i]? = some (subR d i x) := by
  rw [subs_of_rec h, List.getElem?_append_left (by rw [mapI_length]; exact (List.getElem?_eq_some_iff.1 hx).1), mapI_get, hx]; rfl
theorem subs_rec_last {d : D} (h : synKind d = 7) : (subs d)[(d1 d.kids).kids.length]? = some (subL d 2 (d2 d.kids)) ∧ (subs d).length = (d1 d.kids).kids.length + 1 := by
  rw [subs_of_rec h]
  refine ⟨?_, by rw [List.length_append, mapI_length]; rfl⟩
  rw [List.getElem?_append_right (by rw [mapI_length]; omega), mapI_length]; simp
@[go_sem] theorem wPV_cell (p : List Int) : (AV.pv (wPV p)).cells = some [.pv (wPV p)] := by unfold wPV; split <;> rfl
@[go_sem] theorem wa_lptr {i a j b : Nat} : WA (.lptr i a) (.lptr j b) ↔ i = j ∧ a = b := ⟨fun h => by cases h with | same => exact ⟨rfl, rfl⟩, fun ⟨h1, h2⟩ => by subst h1 h2; exact .same⟩
theorem setS_cut2 {σ : Store} {B : List AObj} {om : Nat} {S : List ByteArray} (h : om < σ.objs.length) : (setS ⟨σ.gl, σ.objs ++ B, σ.toks⟩ om S).cut σ.objs.length σ.toks.length = setS σ om S := by
  unfold setS Store.cut
  simp [List.set_append_left _ _ h]
theorem setAt_of {P : Program} {f : FuncId} {args : List AV} {σ : Store} {om : Nat} {S : List ByteArray} (h : ACalls P f args σ fun r σ' => r = .tuple [] ∧ σ'.cut σ.objs.length σ.toks.length = setS σ om S) : ACalls P f args σ fun r σ' => r = .tuple [] ∧ σ' = setS σ om S := by
  refine h.less fun r σ' ⟨h1, h2⟩ => ⟨_, _, .tuple [], by subst h1; simp [go_sem], Nat.le_refl _, Nat.le_refl _, fun ob hob => ?_, rfl, h2⟩
  have : σ'.objs.take σ.objs.length = (setS σ om S).objs := congrArg Store.objs h2
  rw [this] at hob
  exact setS_mem hob
theorem mapAt_of {P : Program} {f : FuncId} {args : List AV} {σ : Store} {ks vs : List PV} (h : ACalls P f args σ fun r σ' => r = .map σ.objs.length ∧ σ'.cut (σ.objs.length + 1) σ.toks.length = { σ with objs := σ.objs ++ [.map ks vs] }) : ACalls P f args σ fun r σ' => r = .map σ.objs.length ∧ σ' = { σ with objs := σ.objs ++ [.map ks vs] } := by
  refine h.less fun r σ' ⟨h1, h2⟩ => ⟨σ.objs.length + 1, σ.toks.length, .map σ.objs.length, by subst h1; simp [go_sem], by omega, Nat.le_refl _, fun ob hob => ?_, rfl, h2⟩
  have : σ'.objs.take (σ.objs.length + 1) = σ.objs ++ [.map ks vs] := congrArg Store.objs h2
  rw [this, List.mem_append, List.mem_singleton] at hob
  rcases hob with hob | rfl
  · exact .inl hob
  · exact .inr rfl
theorem setS_ne {σ : Store} {om i : Nat} {S : List ByteArray} (h : om ≠ i) : (setS σ om S).objs[i]? = σ.objs[i]? := by
  unfold setS; exact List.getElem?_set_ne h
theorem get_app5 {l : List AObj} {a b c d e : AObj} : (l ++ [a, b, c, d, e])[l.length + 4]? = some e := by simp
/-- A round's end: the record is as it was. -/
theorem setS_rec {X : Store} {om r : Nat} {S : List ByteArray} {a b : AObj} (h : om ≠ r) (ha : X.objs[r]? = some a) : { setS { X with objs := X.objs.set r b } om S with objs := ((setS { X with objs := X.objs.set r b } om S).objs).set r a } = setS X om S := by
  unfold setS
  have e : ((X.objs.set r b).set om (.map (tK S) (tV S))).set r a = X.objs.set om (.map (tK S) (tV S)) := by
   rw [List.set_comm _ _ (Ne.symm h), List.set_set, List.set_comm _ _ h]
   congr 1
   exact set_self ha
  show (⟨X.gl, ((X.objs.set r b).set om (.map (tK S) (tV S))).set r a, X.toks⟩ : Store) = ⟨X.gl, X.objs.set om (.map (tK S) (tV S)), X.toks⟩
  rw [e]
end Go.Aw

namespace Go.Aw
open Go Go.ChangeShapes Go.WideShapes Go.ChangeAt Go.WideMaps Go.WideElems Go.RowKit
theorem exists_list {α : Type} {Q : Nat → α → Prop} : ∀ n : Nat, (∀ i, i < n → ∃ d, Q i d) → ∃ l : List α, l.length = n ∧ ∀ i x, l[i]? = some x → Q i x
  | 0, _ => ⟨[], rfl, fun i x h => by simp at h⟩
  | n + 1, h => by
    obtain ⟨l, h1, h2⟩ := exists_list n (fun i hi => h i (by omega))
    obtain ⟨d, hd⟩ := h n (by omega)
    refine ⟨l ++ [d], by simp [h1], fun i x hx => ?_⟩
    rcases getElem?_snoc hx with hx | ⟨rfl, rfl⟩
    · exact h2 i x hx
    · rw [h1]; exact hd

theorem rp_slice_of {B : Nat} {S : Nat → Nat → Prop} {w : World} {a : Addr} {len cap sz : Nat} {xs : List PV} (hlen : xs.length = len) (hcap : len ≤ cap) (hb : a.block < B) (h0 : 0 < sz) (hsz : ∀ x, x ∈ xs → x.cells.length = sz)
    (h : ∀ (q : Nat) x, xs[q]? = some x → ∃ cs : List Value, cs.length = sz ∧ (∀ r, r < sz → w.cell? ((a.add (q * sz)).add r) = cs[r]?) ∧ (∀ v, v ∈ cs → v.oneCell' = true) ∧ ∀ (r : Nat) y v, x.cells[r]? = some y → cs[r]? = some v → RP B S w y v) :
    RP B S w (.slice xs) (.slice (some a) len cap) := by
  by_cases hl : xs = []
  · subst hl; simp at hlen; subst hlen; exact .empty
  have hspot : a.spot = none := by
    obtain ⟨x, r, hx⟩ := kids_cons hl
    obtain ⟨cs, h1, h2, _⟩ := h 0 x (by rw [hx]; rfl)
    have h3 := h2 0 h0
    rw [Nat.zero_mul, Addr.add, if_pos rfl, Addr.add, if_pos rfl] at h3
    have h4 : cs[0]? = some cs[0] := by simp
    rw [h4] at h3
    unfold World.cell? at h3
    cases hs : a.spot with
    | none => rfl
    | some s =>
      rw [hs] at h3
      split at h3 <;> simp at h3
  have hadd : ∀ n, a.add n = ⟨a.block, a.off + n, none⟩ := by
    intro n
    unfold Addr.add
    split
    · subst_vars; cases a; simp only at hspot; subst hspot; rfl
    · rfl
  have hadd2 : ∀ n m, (a.add n).add m = ⟨a.block, a.off + (n + m), none⟩ := by
    intro n m
    rw [hadd]
    unfold Addr.add
    split
    · subst_vars; rfl
    · show (⟨a.block, a.off + n + m, none⟩ : Addr) = _
      rw [Nat.add_assoc]
  have ha : a = ⟨a.block, a.off, none⟩ := by cases a; simp only at hspot; subst hspot; rfl
  have hall : ∀ i, i < len * sz → ∃ (q r : Nat) (x : PV) (cs : List Value), i = q * sz + r ∧ r < sz ∧ xs[q]? = some x ∧ cs.length = sz ∧ w.cell? ⟨a.block, a.off + i, none⟩ = cs[r]? ∧ (∀ v, v ∈ cs → v.oneCell' = true) ∧ ∀ (r : Nat) y v, x.cells[r]? = some y → cs[r]? = some v → RP B S w y v := by
    intro i hi
    have hq : i / sz < len := Nat.div_lt_of_lt_mul (by rw [Nat.mul_comm]; exact hi)
    have hr : i % sz < sz := Nat.mod_lt _ h0
    have hx : xs[i / sz]? = some xs[i / sz] := by simp [hlen, hq]
    obtain ⟨cs, h1, h2, h3, h4⟩ := h _ _ hx
    have h5 := h2 (i % sz) hr
    have he : i / sz * sz + i % sz = i := by rw [Nat.mul_comm]; exact Nat.div_add_mod i sz
    rw [hadd2, he] at h5
    exact ⟨i / sz, i % sz, _, cs, he.symm, hr, hx, h1, h5, h3, h4⟩
  rw [ha, ← hlen]
  refine RP.slice (sz := sz) (vs := (List.range (len * sz)).map fun j => (w.cell? ⟨a.block, a.off + j, none⟩).getD (.int .i64 0)) hsz (by simp [hlen]) (by omega) (fun i v hv => ?_) (fun i y v hy hv => ?_)
  · have hi : i < len * sz := by have := (List.getElem?_eq_some_iff.1 hv).1; simpa using this
    obtain ⟨q, r, x, cs, h1, h2, h3, h4, h5, h6, h7⟩ := hall i hi
    have h8 : cs[r]? = some cs[r] := by simp [h4, h2]
    rw [h8] at h5
    simp only [List.getElem?_map, List.getElem?_range hi, Option.map_some, Option.some.injEq, h5, Option.getD_some] at hv
    subst hv
    exact ⟨.inl hb, h5, h6 _ (List.getElem_mem _)⟩
  · have hi : i < len * sz := by have := (List.getElem?_eq_some_iff.1 hv).1; simpa using this
    obtain ⟨q, r, x, cs, h1, h2, h3, h4, h5, h6, h7⟩ := hall i hi
    have h8 : cs[r]? = some cs[r] := by simp [h4, h2]
    rw [h8] at h5
    simp only [List.getElem?_map, List.getElem?_range hi, Option.map_some, Option.some.injEq, h5, Option.getD_some] at hv
    subst hv
    rw [h1, flat_get hsz h3 h2] at hy
    exact h7 r y _ hy h8

/-! ### data -/
structure DatumTy (P : Program) (tD tK ti tn ts : TypeId) : Prop where
  und : ∃ f0 f1 f2 f3 : Field, P.underlying tD = some (.struct #[f0, f1, f2, f3]) ∧ f0.type = ti ∧ f0.offset = 0 ∧ f1.type = tn ∧ f1.offset = 1 ∧ f2.type = ts ∧ f2.offset = 2 ∧ f3.type = tK ∧ f3.offset = 3
  i : P.underlying ti = some (.int .i64)
  n : P.underlying tn = some (.int .i64)
  s : P.underlying ts = some .string
  k : P.underlying tK = some (.slice tD)
  cD : P.cellsOf tD = 4
  ci : P.cellsOf ti = 1
  cn : P.cellsOf tn = 1
  cs : P.cellsOf ts = 1
  ck : P.cellsOf tK = 1

theorem one_of {α : Type} {l : List α} {i : Nat} {a : α} (h : (l.drop i).take 1 = [a]) : l[i]? = some a := by
  have h1 : ((l.drop i).take 1)[0]? = some a := by rw [h]; rfl
  rw [List.getElem?_take, List.getElem?_drop] at h1
  simpa using h1

section
variable {H : Type} {enc' : TypeId × Value → H} {P : Program} {w : World} {base : Nat} {spare : Nat → Bool} {held : Bool} {tD tK ti tn ts : TypeId} {S : Nat → Nat → Prop}
theorem open_datum (T : DatumTy P tD tK ti tn ts) : ∀ (fuel : Nat) (cs : List Value) (x : DataW H × List MemPlace), DataW.trod enc' P w base spare held fuel tD cs = some x →
    ∃ (d : D) (v : Value), cs = [.int .i64 d.kind, .int .i64 d.num, .string d.text, v] ∧ v.oneCell' = true ∧ RP w.heap.size S w (.slice (d.kids.map enc)) v := by
  intro fuel
  induction fuel using Nat.strongRecOn with
  | _ fuel ih =>
    intro cs x h
    obtain ⟨f0, f1, f2, f3, hu, t0, o0, t1, o1, t2, o2, t3, o3⟩ := T.und
    obtain ⟨xs, n, rfl, rfl, hl, hlen, hf⟩ := DataW.trod_struct hu h
    have hxl : xs.length = 4 := by simpa using hlen
    have g0 := hf 0 f0 rfl
    have g1 := hf 1 f1 rfl
    have g2 := hf 2 f2 rfl
    have g3 := hf 3 f3 rfl
    rw [t0, o0, T.ci] at g0
    rw [t1, o1, T.cn] at g1
    rw [t2, o2, T.cs] at g2
    rw [t3, o3, T.ck] at g3
    have s0 : xs[0]? = some xs[0] := by simp
    have s1 : xs[1]? = some xs[1] := by simp
    have s2 : xs[2]? = some xs[2] := by simp
    have s3 : xs[3]? = some xs[3] := by simp
    rw [s0] at g0
    rw [s1] at g1
    rw [s2] at g2
    rw [s3] at g3
    obtain ⟨k, e0, _, _⟩ := DataW.trod_int T.i g0
    obtain ⟨m, e1, _, _⟩ := DataW.trod_int T.n g1
    obtain ⟨t, e2, _, _⟩ := DataW.trod_string T.s g2
    have a0 := one_of e0
    have a1 := one_of e1
    have a2 := one_of e2
    rw [T.cD] at hl
    have hcs : ∃ v, cs = [.int .i64 k, .int .i64 m, .string t, v] := by
      match cs, hl, a0, a1, a2 with
      | [c0, c1, c2, c3], _, a0, a1, a2 =>
        simp only [List.getElem?_cons_zero, List.getElem?_cons_succ, Option.some.injEq] at a0 a1 a2
        exact ⟨c3, by rw [a0, a1, a2]⟩
    obtain ⟨v, hcs⟩ := hcs
    rw [hcs] at g3
    have g3' : DataW.trod enc' P w base spare held n tK [v] = some xs[3] := g3
    rcases DataW.trod_slice T.k g3' with ⟨hv, _⟩ | ⟨a, len, cap, elems, rest, m', rfl, hv, _, hb, hlc, hcm, hel, hes, _⟩
    · cases hv
      exact ⟨.mk k m t [], _, hcs, rfl, by simp only [D.kids, List.map_nil]; exact .empty⟩
    · cases hv
      rw [T.cD] at hes
      have hex : ∀ i, i < len → ∃ d : D, ∃ v' : Value, (∀ r, r < 4 → w.cell? ((a.add (i * 4)).add r) = ([.int .i64 d.kind, .int .i64 d.num, .string d.text, v'] : List Value)[r]?) ∧ v'.oneCell' = true ∧ RP w.heap.size S w (.slice (d.kids.map enc)) v' := by
        intro i hi
        have h1 := hes i hi
        have h2 : elems[i]? = some elems[i] := by simp [hel, hi]
        rw [h2] at h1
        obtain ⟨cs', hc, ht⟩ := Option.bind_eq_some_iff.1 h1
        obtain ⟨_, _, hc2⟩ := World.cells?_some hc
        obtain ⟨d, v', he, hone, hrp⟩ := ih m' (by omega) cs' _ ht
        subst he
        exact ⟨d, v', hc2, hone, hrp⟩
      obtain ⟨l, hll, hlq⟩ := exists_list len hex
      refine ⟨.mk k m t l, _, hcs, rfl, ?_⟩
      show RP w.heap.size S w (.slice (l.map enc)) (.slice (some a) len cap)
      by_cases hlen0 : len = 0
      · subst hlen0
        have : l = [] := List.eq_nil_of_length_eq_zero hll
        subst this
        exact .empty
      have hblk : a.block < w.heap.size := by
        obtain ⟨d, v', h1, _⟩ := hex 0 (by omega)
        have h2 := h1 0 (by omega)
        rw [Nat.zero_mul, Addr.add, if_pos rfl, Addr.add, if_pos rfl] at h2
        unfold World.cell? at h2
        by_cases hlt : a.block < w.heap.size
        · exact hlt
        · rw [Array.getElem?_eq_none (by omega)] at h2; simp at h2
      refine rp_slice_of (sz := 4) (by simp [hll]) hlc hblk (by omega) (fun x hx => ?_) (fun q x hx => ?_)
      · obtain ⟨d, _, rfl⟩ := List.mem_map.1 hx
        rw [enc_cells]; rfl
      · rw [List.getElem?_map] at hx
        obtain ⟨d, hd, rfl⟩ := Option.map_eq_some_iff.1 hx
        obtain ⟨v', h1, h2, h3⟩ := hlq q d hd
        refine ⟨[.int .i64 d.kind, .int .i64 d.num, .string d.text, v'], rfl, h1, fun u hu => ?_, fun r y u hy hu => ?_⟩
        · simp only [List.mem_cons, List.not_mem_nil, or_false] at hu
          rcases hu with rfl | rfl | rfl | rfl <;> first | rfl | exact h2
        · rw [enc_cells] at hy
          match r with
          | 0 => simp at hy hu; subst hy hu; exact .int
          | 1 => simp at hy hu; subst hy hu; exact .int
          | 2 => simp at hy hu; subst hy hu; exact .str
          | 3 => simp at hy hu; subst hy hu; exact h3
          | r + 4 => simp at hy
end
end Go.Aw

namespace Go.Aw
open Go Go.ChangeShapes Go.WideShapes Go.ChangeAt Go.WideMaps Go.WideElems Go.RowKit
theorem insert_perm {H : Type} (x : Lit × DataW H) : ∀ l : List (Lit × DataW H), (DataW.insert x l).Perm (x :: l)
  | [] => .refl _
  | y :: r => by
    unfold DataW.insert
    split
    · exact .refl _
    · exact ((insert_perm x r).cons y).trans (.swap _ _ _)
theorem foldr_insert_perm {H : Type} : ∀ l : List (Lit × DataW H), (l.foldr DataW.insert []).Perm l
  | [] => .refl _
  | x :: l => (insert_perm x _).trans ((foldr_insert_perm l).cons x)

def strPV (s : List UInt8) : PV := .str ⟨s.toArray⟩
def litStr : Lit → List UInt8
  | .string s => s
  | _ => []

section
variable {H : Type} {enc' : TypeId × Value → H} {P : Program} {w : World} {base : Nat} {sp : Nat → Bool} {held : Bool} {S : Nat → Nat → Prop} {t k e : TypeId} {fuel : Nat} {cs : List Value} {ps : List MemPlace}
/-- A table of names and numbers. -/
theorem open_table {f0 f1 : Field} (ht : P.underlying t = some (.slice e)) (he : P.underlying e = some (.struct #[f0, f1])) (hf0 : P.underlying f0.type = some .string) (hf1 : P.underlying f1.type = some (.int .i64)) (o0 : f0.offset = 0) (o1 : f1.offset = 1)
    (c0 : P.cellsOf f0.type = 1) (c1 : P.cellsOf f1.type = 1) (ce : P.cellsOf e = 2) {L : List (List UInt8 × Int)} {r : List (DataW H)}
    (h : DataW.trod enc' P w base sp held fuel t cs = some (.slice (L.map fun p => .agg [.lit (.string p.1), .lit (.int .i64 p.2)]) r, ps)) :
    ∃ v, cs = [v] ∧ v.oneCell' = true ∧ RP w.heap.size S w (.slice (L.map fun p => .agg [strPV p.1, .int .i64 p.2])) v := by
  rcases DataW.trod_slice ht h with ⟨_, hx⟩ | ⟨a, len, cap, elems, rest, m, rfl, rfl, hx, hb, hlc, hcm, hel, hes, _⟩
  · cases hx
  simp only [Prod.mk.injEq, DataW.slice.injEq] at hx
  have hLl : L.length = len := by
    have := congrArg List.length hx.1.1
    simpa [hel] using this
  refine ⟨_, rfl, rfl, ?_⟩
  by_cases hL : L = []
  · subst hL; simp at hLl; subst hLl; exact .empty
  rw [ce] at hes
  have key : ∀ (i : Nat) (p : List UInt8 × Int), L[i]? = some p → ∃ s : ByteArray, s.data.toList = p.1 ∧ ∀ j, j < 2 → w.cell? ((a.add (i * 2)).add j) = ([.string s, .int .i64 p.2] : List Value)[j]? := by
    intro i p hp
    have hi : i < len := by rw [← hLl]; exact (List.getElem?_eq_some_iff.1 hp).1
    have h1 := hes i hi
    have h2 : elems[i]? = some elems[i] := by simp [hel, hi]
    rw [h2] at h1
    obtain ⟨cs', hc, hstr⟩ := Option.bind_eq_some_iff.1 h1
    obtain ⟨_, hcl, hc2⟩ := World.cells?_some hc
    obtain ⟨xs, n, rfl, hxe, hl, hlen, hf⟩ := DataW.trod_struct he hstr
    have hxl : xs.length = 2 := by simpa using hlen
    have g0 := hf 0 f0 rfl
    have g1 := hf 1 f1 rfl
    rw [o0, c0] at g0
    rw [o1, c1] at g1
    have s0 : xs[0]? = some xs[0] := by simp
    have s1 : xs[1]? = some xs[1] := by simp
    rw [s0] at g0
    rw [s1] at g1
    obtain ⟨st, e0, x0, _⟩ := DataW.trod_string hf0 g0
    obtain ⟨q, e1, x1, _⟩ := DataW.trod_int hf1 g1
    have a0 := one_of e0
    have a1 := one_of e1
    have hval : elems[i].1 = .agg [.lit (.string p.1), .lit (.int .i64 p.2)] := by
      have h3 : (elems.map (·.1))[i]? = some elems[i].1 := by rw [List.getElem?_map, h2]; rfl
      rw [← hx.1.1, List.getElem?_map, hp] at h3
      simpa using h3.symm
    have hxs : xs = [xs[0], xs[1]] := by
      refine List.ext_getElem (by simp [hxl]) (fun j h1 h2 => ?_)
      match j with
      | 0 => rfl
      | 1 => rfl
      | j + 2 => simp only [List.length_cons, List.length_nil] at h2; omega
    rw [hxe, hxs] at hval
    simp only [List.map_cons, List.map_nil, DataW.agg.injEq, List.cons.injEq, x0, x1, DataW.lit.injEq, Lit.string.injEq, Lit.int.injEq, and_true, true_and] at hval
    have hcs : cs' = [.string st, .int .i64 q] := by
      match cs', hcl, a0, a1 with
      | [u, v], _, a0, a1 =>
        simp only [List.getElem?_cons_zero, List.getElem?_cons_succ, Option.some.injEq] at a0 a1
        rw [a0, a1]
    rw [hcs, hval.2] at hc2
    exact ⟨st, hval.1, hc2⟩
  have hblk : a.block < w.heap.size := by
    obtain ⟨p, r, hp⟩ := kids_cons hL
    obtain ⟨s, _, h1⟩ := key 0 p (by rw [hp]; rfl)
    have h2 := h1 0 (by omega)
    rw [Nat.zero_mul, Addr.add, if_pos rfl, Addr.add, if_pos rfl] at h2
    unfold World.cell? at h2
    by_cases hlt : a.block < w.heap.size
    · exact hlt
    · rw [Array.getElem?_eq_none (by omega)] at h2; simp at h2
  refine rp_slice_of (sz := 2) (by simp [hLl]) hlc hblk (by omega) (fun x hx => ?_) (fun q x hx => ?_)
  · obtain ⟨p, _, rfl⟩ := List.mem_map.1 hx
    rfl
  · rw [List.getElem?_map] at hx
    obtain ⟨p, hp, rfl⟩ := Option.map_eq_some_iff.1 hx
    obtain ⟨s, h1, h2⟩ := key q p hp
    refine ⟨_, rfl, h2, fun u hu => ?_, fun r y u hy hu => ?_⟩
    · simp only [List.mem_cons, List.not_mem_nil, or_false] at hu
      rcases hu with rfl | rfl <;> rfl
    · match r with
      | 0 =>
        simp [PV.cells] at hy hu; subst hy hu
        unfold strPV
        have : (⟨p.1.toArray⟩ : ByteArray) = s := by rw [← h1]
        rw [this]; exact .str
      | 1 => simp [PV.cells] at hy hu; subst hy hu; exact .int
      | r + 2 => simp [PV.cells] at hy
end
/-! ### the beginning and the end of a call -/
def g0 (W : World) : Ghost := { B := W.heap.size, K := fun _ => False, S := fun _ _ => False, io := [], lam := [], tb := [] }
theorem inv0 {W : World} {gl : List (Nat × PV)} (h : ∀ n p, (n, p) ∈ gl → RP W.heap.size (fun _ _ => False) W p (.pointer (some ⟨n, 0, none⟩))) : Inv (g0 W) ⟨gl, [], []⟩ [] W := by
  refine ⟨rfl, rfl, rfl, h, List.nodup_nil, fun b hb => (by simp [g0, Ghost.owned] at hb), fun b hb => (by cases hb), Nat.le_refl _, fun b o hS => (by cases hS), fun o ob b ho => (by simp at ho), fun i cs b hL => (by simp at hL), fun k t tb ht => (by simp at ht)⟩
theorem below_of {W W' : World} {σ σ' : Store} {g' : Ghost} (h : Ext (g0 W) σ W g' σ' W') : Below W.heap.size W W' :=
  ⟨h.os, h.tape, h.output, h.size, fun k hk => h.le.keeps.blk k hk⟩

section
variable {H : Type} {enc' : TypeId × Value → H} {P : Program}
theorem post_of_below {f : Func} {s : ChangeSpec} {apart fresh handsOn again : Bool} {W W' : World} {args : Array Value} {v : Value} {ds gs : List (DataW H)} {before pa pv : List MemPlace}
    (hW : DataW.Whole enc' P f.params.toList s.vars apart W args.toList ds gs before)
    (hres : ∀ (b : Nat) (sp : Nat → Bool) (hd : Bool), DataW.TrodAll enc' P W' b sp hd f.resultTypes.toList (v.resultList f.resultTypes.size) (s.fn H (ds ++ gs)).results [])
    (hargs : ∀ sp : Nat → Bool, (∀ p ∈ before, sp p.block = true) → DataW.TrodAll enc' P W' 0 sp true f.params.toList args.toList (s.fn H (ds ++ gs)).args pa)
    (hvars : ∀ sp : Nat → Bool, (∀ p ∈ before, sp p.block = true) → DataW.TrodVars enc' P W' sp s.vars (s.fn H (ds ++ gs)).vars pv)
    (hps : before = pa ++ pv) (hb : Below W.heap.size W W')
    (hok : ∀ (j : Nat) (t : TypeId) (r : Value), f.resultTypes[j]? = some t → (v.resultList f.resultTypes.size)[j]? = some r → Value.okWide P W' .any 0 t r) :
    s.post enc' P f apart fresh handsOn again W args v W' := by
  have hold : ∀ p ∈ before, (fun b => decide (b < W.heap.size)) p.block = true := fun p hp => by simpa using hW.lt p hp
  refine ⟨ds, gs, before, [], pa, pv, hW, hres _ _ _, hargs _ hold, hvars _ hold, hb.frame _, fun _ => ?_⟩
  have hlt := hW.lt
  obtain ⟨_, _, _, _, _, hz, hn⟩ := hW
  refine ⟨hok, _, _, ([] ++ pa) ++ pv, ⟨[] ++ pa, pv, trodAll_append (hargs _ (fun _ _ => rfl)) (hres _ _ _), hvars _ (fun _ _ => rfl), rfl, ?_, ?_⟩, ?_⟩
  · intro b off hp
    have hp' : MemPlace.cell b off ∈ before := by rw [hps]; simpa using hp
    have hl := hlt _ hp'
    rw [hb.frozen (p := ⟨b, off, none⟩) hl]
    exact hz b off hp'
  · intro ha
    have := hn ha
    rw [hps] at this
    simpa using this
  · intro p hp _
    rw [hps]
    simpa using hp
end
end Go.Aw

namespace Go.Aw
open Go Go.RowKit Go.Sort Go.Proofs Go.Maps Go.WideElems
def bstr (l : List UInt8) : ByteArray := ⟨l.toArray⟩
/-- A call that gives a new row of strings and leaves the world but for new blocks. -/
theorem acalls_strs {P : Program} {f : FuncId} {args : List AV} {σ : Store} {Q : List (List UInt8) → Prop}
    (h : ∀ g w (cargs : List Value), Inv g σ [] w → cargs.length = args.length → (∀ (i : Nat) x v, args[i]? = some x → cargs[i]? = some v → RA g σ.toks w x v) →
      Calls P f cargs.toArray w fun e w' => ∃ (v : Value) (ss : List (List UInt8)) (t : TypeId), e = .returned v ∧ Q ss ∧ w'.ownsRow w.heap.size t 1 v ss.length (ss.map encStr) ∧ Below w.heap.size w w') :
    ACalls P f args σ fun r σ' => ∃ ss : List (List UInt8), r = .pv (.slice (ss.map fun l => .str (bstr l))) ∧ Q ss ∧ σ' = σ := by
  intro g w cargs hinv hlen hargs
  refine (h g w cargs hinv hlen hargs).mono ?_
  rintro e w' ⟨v, ss, t, rfl, hQ, ⟨hxl, hrow⟩, hb⟩
  obtain ⟨h1, h2⟩ := hinv.step hb.size (fun b hlt => hb.block b hlt)
  have hext : Ext g σ w g σ w' := ⟨h2, rfl, fun _ h => h, fun b hK => hb.block b (hinv.kept b hK).1, hb.size, hb.os, hb.tape, hb.output, hinv.lio, hinv.clo⟩
  rcases hrow with ⟨rfl, hn⟩ | ⟨b, cap, cur, rfl, hbase, hbk, hnc, hcm, hsz, htk⟩
  · have hss : ss = [] := List.eq_nil_of_length_eq_zero hn
    subst hss
    exact ⟨_, _, σ, g, rfl, ⟨[], rfl, hQ, rfl⟩, h1, hext, .pv .empty⟩
  · have hblt : b < w'.heap.size := by
      by_cases hlt : b < w'.heap.size
      · exact hlt
      · rw [Array.getElem?_eq_none (by omega)] at hbk; cases hbk
    have hfr : Fresh g w' b := by
      refine ⟨by have := hinv.base; omega, hblt, fun hK => by have := (hinv.kept b hK).1; omega, fun o hS => by have := (hinv.cells b o hS).2.1; omega, fun hm => by have := (hinv.low b hm).2.1; omega⟩
    obtain ⟨h3, h4⟩ := h1.addS hfr (fun o => o < ss.length)
    have hle := h2.trans h4
    refine ⟨_, _, σ, _, rfl, ⟨ss, rfl, hQ, rfl⟩, h3, ⟨hle, rfl, fun _ h => h, fun b hK => hb.block b (hinv.kept b hK).1, hb.size, hb.os, hb.tape, hb.output, hinv.lio, hinv.clo⟩, .pv ?_⟩
    have hrp : RP g.B (fun c o => g.S c o ∨ (c = b ∧ o < ss.length)) w' (.slice (ss.map fun l => .str (bstr l))) (.slice (some ⟨b, 0, none⟩) (ss.map fun l => PV.str (bstr l)).length cap) := by
      refine .slice (sz := 1) (vs := ss.map encStr) (fun x hx => by obtain ⟨l, _, rfl⟩ := List.mem_map.1 hx; rfl) (by simp) (by simpa using hnc) (fun i u hu => ?_) (fun i x u hx hu => ?_)
      · have hi : i < ss.length := by have := (List.getElem?_eq_some_iff.1 hu).1; simpa using this
        refine ⟨.inr (.inr ⟨rfl, by omega⟩), ?_, ?_⟩
        · rw [cell_of_heap hbk, Nat.zero_add]
          have h5 : (cur.toList.take (ss.length * 1))[i]? = some u := by rw [htk]; exact hu
          rw [List.getElem?_take, if_pos (by omega)] at h5
          simpa using h5
        · rw [List.getElem?_map] at hu
          obtain ⟨l, _, rfl⟩ := Option.map_eq_some_iff.1 hu
          rfl
      · have hfl : flat (ss.map fun l => PV.str (bstr l)) = ss.map fun l => PV.str (bstr l) := by
          generalize ss = L
          induction L with
          | nil => rfl
          | cons a L ih => simp only [List.map_cons]; show PV.cells _ ++ flat _ = _; rw [ih]; rfl
        rw [hfl, List.getElem?_map] at hx
        rw [List.getElem?_map] at hu
        obtain ⟨l, hl, rfl⟩ := Option.map_eq_some_iff.1 hx
        rw [hl] at hu
        simp only [Option.map_some, Option.some.injEq] at hu
        subst hu
        exact .str
    simpa using hrp
/-- A set in memory, as the kit reads a map. -/
theorem owns_set {P : Program} {g : Ghost} {w : World} {b : Nat} {S : List ByteArray} {kt : TypeId} (hk : P.underlying kt = some .string) (h : RMap g w b (tK S) (tV S)) (hm : S.length ≤ maxLen) (hs : ∀ s, s ∈ S → s.size ≤ maxLen) :
    ∃ D0 : DataW Unit, w.ownsMap P kt (fun _ => some (.nil, [])) b S.length D0 ∧ (strKeys D0).Perm (S.map fun s => s.data.toList) ∧ Maps.size D0 = S.length := by
  obtain ⟨es, clock, h0, h1, h2, h3, h4, h5⟩ := h
  have hkl : (tK S).length = S.length := by simp [tK]
  have hes : ∀ (i : Nat) e, es[i]? = some e → ∃ s, S[i]? = some s ∧ e.key = .string s := by
    intro i e he
    have hi : i < S.length := by have := (List.getElem?_eq_some_iff.1 he).1; omega
    have hsi : S[i]? = some S[i] := by simp
    have hti : (tK S)[i]? = some (.str S[i]) := by unfold tK; rw [List.getElem?_map, hsi]; rfl
    exact ⟨_, hsi, (h3 i _ e hti he).str_inv⟩
  have hrd : ∀ (i : Nat) e, es[i]? = some e → ∃ s, S[i]? = some s ∧ WideElems.rd P kt (fun _ => some ((.nil : DataW Unit), [])) e = some (.string s.data.toList, .nil) := by
    intro i e he
    obtain ⟨s, hsi, hke⟩ := hes i e he
    refine ⟨s, hsi, ?_⟩
    unfold WideElems.rd
    rw [hke, WideMaps.keyOf_string_mk hk (hs s (List.mem_of_getElem? hsi))]
    rfl
  have hrg : es.map (WideElems.rg P kt fun _ => some ((.nil : DataW Unit), [])) = S.map fun s => (Lit.string s.data.toList, (.nil : DataW Unit)) := by
    apply List.ext_getElem?
    intro i
    rw [List.getElem?_map, List.getElem?_map]
    cases he : es[i]? with
    | none =>
      have : S[i]? = none := by rw [List.getElem?_eq_none_iff] at he ⊢; omega
      rw [this]; rfl
    | some e =>
      obtain ⟨s, hsi, hr⟩ := hrd i e he
      rw [hsi]
      simp only [Option.map_some]
      rw [WideElems.rg_of hr]
  refine ⟨_, ⟨es.toArray, clock, h0, ⟨by simp; omega, h5, fun x hx => ?_⟩, by simp; omega, rfl⟩, ?_, ?_⟩
  · obtain ⟨i, hi⟩ := List.getElem?_of_mem (show x ∈ es by simpa using hx)
    obtain ⟨s, _, hr⟩ := hrd i x hi
    exact ⟨_, hr⟩
  · have hp := (foldr_insert_perm (es.toArray.toList.map (WideElems.rg P kt fun _ => some ((.nil : DataW Unit), [])))).map fun p => strOf p.1
    rw [show es.toArray.toList = es by simp, hrg] at hp
    show List.Perm (List.map _ _) _
    rw [show es.toArray.toList = es by simp, hrg]
    refine hp.trans ?_
    rw [List.map_map]
    refine List.Perm.of_eq (List.map_congr_left fun s _ => ?_)
    rfl
  · have hp := (foldr_insert_perm (es.toArray.toList.map (WideElems.rg P kt fun _ => some ((.nil : DataW Unit), []))))
    rw [show es.toArray.toList = es by simp, hrg] at hp
    show List.length _ = _
    rw [show es.toArray.toList = es by simp, hrg, hp.length_eq]
    simp
theorem perm_sorted_eq {α : Type} {r : α → α → Prop} (ha : ∀ a b, r a b → r b a → a = b) : ∀ {l1 l2 : List α}, l1.Perm l2 → l1.Pairwise r → l2.Pairwise r → l1 = l2
  | [], l2, h, _, _ => (List.Perm.nil_eq h)
  | a :: l1, [], h, _, _ => (List.Perm.eq_nil h)
  | a :: l1, b :: l2, h, h1, h2 => by
    have hab : a = b := by
      rcases List.mem_cons.1 (h.mem_iff.1 (List.mem_cons_self (a := a) (l := l1))) with e | e
      · exact e
      · rcases List.mem_cons.1 (h.mem_iff.2 (List.mem_cons_self (a := b) (l := l2))) with e2 | e2
        · exact e2.symm
        · exact ha a b ((List.pairwise_cons.1 h1).1 b e2) ((List.pairwise_cons.1 h2).1 a e)
    subst hab
    rw [perm_sorted_eq ha (List.Perm.cons_inv h) (List.pairwise_cons.1 h1).2 (List.pairwise_cons.1 h2).2]
/-- Strings, rising. -/
def sortB (S : List ByteArray) : List ByteArray := ((S.map fun s => s.data.toList).mergeSort fun x y => decide (x ≤ y)).map bstr
theorem le_total8 (a b : List UInt8) : (decide (a ≤ b) || decide (b ≤ a)) = true := by
  have := List.le_total a b
  rcases this with h | h <;> simp [h]
theorem le_trans8 (a b c : List UInt8) : decide (a ≤ b) = true → decide (b ≤ c) = true → decide (a ≤ c) = true := by
  simp only [decide_eq_true_eq]
  exact fun h1 h2 => List.le_trans h1 h2
theorem sort_perm {ss tt : List (List UInt8)} (h : ss.Perm tt) : (ss.mergeSort fun x y => decide (x ≤ y)) = tt.mergeSort fun x y => decide (x ≤ y) := by
  refine perm_sorted_eq (r := fun x y => (decide (x ≤ y)) = true) (fun a b h1 h2 => List.le_antisymm (by simpa using h1) (by simpa using h2)) ?_ (List.pairwise_mergeSort (le := fun x y => decide (x ≤ y)) le_trans8 le_total8 ss) (List.pairwise_mergeSort (le := fun x y => decide (x ≤ y)) le_trans8 le_total8 tt)
  exact (List.mergeSort_perm ss _).trans (h.trans (List.mergeSort_perm tt _).symm)
theorem sortB_mem (S : List ByteArray) (s : ByteArray) : s ∈ sortB S ↔ s ∈ S := by
  unfold sortB
  rw [List.mem_map]
  constructor
  · rintro ⟨l, hl, rfl⟩
    have := (List.mergeSort_perm (S.map fun s => s.data.toList) _).mem_iff.1 hl
    obtain ⟨x, hx, rfl⟩ := List.mem_map.1 this
    simpa [bstr] using hx
  · intro h
    exact ⟨s.data.toList, (List.mergeSort_perm (S.map fun s => s.data.toList) _).mem_iff.2 (List.mem_map.2 ⟨s, h, rfl⟩), by simp [bstr]⟩
/-- slices.Sorted of maps.Keys' iterator. -/
theorem acalls_sorted {P : Program} {fs fk : FuncId} {kt : TypeId} {n m : Nat} (hk : P.underlying kt = some .string)
    (hseq : ∀ (w : World) (Bm b nn : Nat) (D0 : DataW Unit), Bm < w.heap.size → w.cell? ⟨Bm, 0, none⟩ = some (.map (some b)) → w.ownsMap P kt (fun _ => some ((.nil : DataW Unit), [])) b nn D0 → SeqGives Fence.wide n P fk #[.pointer (some ⟨Bm, 0, none⟩)] encStr (fun ss => ss.Perm (strKeys D0)) (Maps.size D0) w)
    (hsrt : ∀ (Bm N : Nat) (S : List (List UInt8) → Prop) (w : World), N ≤ maxLen → N * 16 ≤ 140737488355328 → SeqGives Fence.wide n P fk #[.pointer (some ⟨Bm, 0, none⟩)] encStr S N w →
      CallsIn Fence.wide m P fs #[.func (.func fk) #[] #[.pointer (some ⟨Bm, 0, none⟩)]] w fun e w' => ∃ (v : Value) (ss : List (List UInt8)) (t : TypeId), e = .returned v ∧ S ss ∧ w'.ownsRow w.heap.size t 1 v ss.length ((ss.mergeSort (fun x y => decide (x ≤ y))).map encStr) ∧ Below w.heap.size w w')
    {σ : Store} {o om : Nat} {S : List ByteArray} (ho : σ.objs[o]? = some (.box [.map om])) (hom : σ.objs[om]? = some (.map (tK S) (tV S))) (hl : S.length ≤ 1000000000) (hs : ∀ s, s ∈ S → s.size ≤ maxLen) :
    ACalls P fs [.func (.func fk) [.ptr o 0]] σ fun r σ' => r = .pv (.slice ((sortB S).map .str)) ∧ σ' = σ := by
  have h := acalls_strs (P := P) (f := fs) (args := [.func (.func fk) [.ptr o 0]]) (σ := σ) (Q := fun ss => ss = (S.map fun s => s.data.toList).mergeSort fun x y => decide (x ≤ y)) (fun g w cargs hinv hlen hargs => ?_)
  · refine h.mono ?_
    rintro r σ' ⟨ss, rfl, rfl, rfl⟩
    exact ⟨by unfold sortB; rw [List.map_map]; rfl, rfl⟩
  · match cargs, hlen with
    | [v], hlen1 =>
      have hv := hargs 0 _ v rfl rfl
      cases hv with
      | func hfl hfr =>
        rename_i vs
        match vs, hfl with
        | [p], hpl1 =>
          have hp := hfr 0 _ p rfl rfl
          cases hp with
          | ptr hio =>
            rename_i Bm
            obtain ⟨_, us, e, h6, h7, h8, h9⟩ := hinv.objs o _ Bm ho hio
            match us, h7 with
            | [u], hul1 =>
              have hu := h9 0 _ u rfl rfl
              cases hu with
              | map hio2 =>
                rename_i b
                have hbm := (hinv.low Bm (mem_io hio)).2.1
                obtain ⟨D0, k1, k2, k3⟩ := owns_set hk (hinv.objs om _ b hom hio2) (Nat.le_trans hl (by decide)) hs
                have hcell : w.cell? ⟨Bm, 0, none⟩ = some (.map (some b)) := by rw [cell_of_heap h6]; rfl
                have hsq := hseq w Bm b S.length D0 hbm hcell k1
                refine (callsIn_wide.1 (hsrt Bm (Maps.size D0) _ w (by rw [k3]; exact Nat.le_trans hl (by decide)) (by rw [k3]; omega) hsq)).mono ?_
                rintro e' w' ⟨v, ss, t, rfl, hS, hrow, hb⟩
                refine ⟨v, ss.mergeSort fun x y => decide (x ≤ y), t, rfl, sort_perm (hS.trans k2), ?_, hb⟩
                rw [List.length_mergeSort]
                exact hrow
end Go.Aw

namespace Go.Aw
open Go
/-- The free names of a term, as often as they are there. -/
def mfv (d : D) : List ByteArray := mcata (fun d rs => if (d.kind == 2) = true then [d.text] else (mapI (fun i l => l.filter fun s => !memB (bnd d i) s) rs).flatten) d
theorem mfv_eq (d : D) : mfv d = if (d.kind == 2) = true then [d.text] else (mapI (fun i x => (mfv x).filter fun s => !memB (bnd d i) s) (inner d)).flatten := by
  show mcata _ d = _
  rw [mcata_eq, mapI_map]; rfl
theorem foldI_mem {l0 : List D} {d : D} {l : List ByteArray} {s : ByteArray} (ih : ∀ x, x ∈ l0 → ∀ l out, (s ∈ mfree x l out ↔ s ∈ out ∨ (s ∈ mfv x ∧ memB l s = false))) : ∀ (L : List D) (i : Nat), (∀ x, x ∈ L → x ∈ l0) → ∀ out, s ∈ foldI (fun i x out => mfree x (l ++ bnd d i) out) i L out ↔ s ∈ out ∨ ((∃ (j : Nat) (x : D), L[j]? = some x ∧ s ∈ mfv x ∧ memB (bnd d (i + j)) s = false) ∧ memB l s = false) := by
  intro L
  induction L with
  | nil => intro i _ out; simp [foldI]
  | cons x L ihL =>
    intro i hL out
    rw [foldI, ihL (i + 1) (fun y hy => hL y (by simp [hy])), ih x (hL x (by simp)), memB_app, Bool.or_eq_false_iff]
    constructor
    · rintro ((h | ⟨h1, h2, h3⟩) | ⟨⟨j, y, hj, h1, h2⟩, h3⟩)
      · exact .inl h
      · exact .inr ⟨⟨0, x, rfl, h1, h3⟩, h2⟩
      · exact .inr ⟨⟨j + 1, y, hj, h1, by rw [← h2]; congr 2; omega⟩, h3⟩
    · rintro (h | ⟨⟨j, y, hj, h1, h2⟩, h3⟩)
      · exact .inl (.inl h)
      · cases j with
        | zero => simp at hj; subst hj; exact .inl (.inr ⟨h1, h3, h2⟩)
        | succ j => exact .inr ⟨⟨j, y, hj, h1, by rw [← h2]; congr 2; omega⟩, h3⟩
theorem mfree_fv (d : D) : ∀ (l out : List ByteArray) (s : ByteArray), s ∈ mfree d l out ↔ s ∈ out ∨ (s ∈ mfv d ∧ memB l s = false) := by
  induction d using D.ind with
  | _ k n t l0 ih =>
    generalize hd : D.mk k n t l0 = d at *
    have hl : d.kids = l0 := by rw [← hd]; rfl
    subst hl
    clear hd
    intro l out s
    rw [mfree_eq, mfv_eq]
    by_cases h2 : d.kind = 2
    · have e2 : (d.kind == 2) = true := by simpa using h2
      have hin : inner d = [] := inner_none (by omega)
      rw [e2, if_pos rfl, Bool.true_and, hin]
      simp only [foldI, List.mem_singleton]
      cases hb : memB l d.text with
      | true =>
        simp only [Bool.not_true, Bool.false_and, Bool.false_eq_true, if_false]
        refine ⟨.inl, fun h => h.elim id fun ⟨e, h3⟩ => by subst e; rw [hb] at h3; cases h3⟩
      | false =>
        cases ho : memB out d.text with
        | true =>
          simp only [Bool.not_false, Bool.not_true, Bool.and_false, Bool.false_eq_true, if_false]
          refine ⟨.inl, fun h => h.elim id fun ⟨e, h3⟩ => by subst e; exact memB_iff.1 ho⟩
        | false =>
          simp only [Bool.not_false, Bool.and_self, if_true, List.mem_append, List.mem_singleton]
          refine or_congr Iff.rfl ⟨fun e => ⟨e, by subst e; exact hb⟩, fun e => e.1⟩
    · have e2 : (d.kind == 2) = false := by simpa using h2
      rw [e2, Bool.false_and, Bool.false_and, if_neg (by decide), if_neg (by decide)]
      rw [foldI_mem (d := d) (l0 := inner d) (fun x hx l out => ih x (inner_mem hx) l out s) (inner d) 0 (fun _ h => h)]
      refine or_congr Iff.rfl (and_congr ?_ Iff.rfl)
      simp only [Nat.zero_add, List.mem_flatten]
      constructor
      · rintro ⟨j, x, hj, h1, h3⟩
        exact ⟨_, List.mem_of_getElem? (show (mapI (fun i x => (mfv x).filter fun s => !memB (bnd d i) s) (inner d))[j]? = some _ by rw [mapI_get, hj]; rfl), List.mem_filter.2 ⟨h1, by rw [h3]; rfl⟩⟩
      · rintro ⟨y, hy, hs⟩
        obtain ⟨j, x, hj, rfl⟩ := mapI_mem hy
        obtain ⟨h1, h3⟩ := List.mem_filter.1 hs
        exact ⟨j, x, hj, h1, by simpa using h3⟩
theorem closed_fv {d : D} (h : mfree d [] [] = []) : mfv d = [] := by
  refine List.eq_nil_iff_forall_not_mem.2 fun s hs => ?_
  have := (mfree_fv d [] [] s).2 (.inr ⟨hs, rfl⟩)
  rw [h] at this; simp at this
/-! ### of one level -/
theorem mone_at {d : D} (h : mone d = true) : isW d sLift = false ∧ isW d sRun = false ∧ ∀ x, x ∈ inner d → mone x = true := by
  have h0 : mcount pOne d = 0 := by
    unfold mone at h
    simpa using h
  rw [mcount_eq] at h0
  have hp : pOne d = false := by
    cases hp : pOne d with
    | false => rfl
    | true => rw [hp, if_pos rfl] at h0; omega
  unfold pOne at hp
  rw [Bool.or_eq_false_iff] at hp
  refine ⟨hp.1, hp.2, fun x hx => ?_⟩
  have hs : ((inner d).map (mcount pOne)).sum = 0 := by omega
  have : mcount pOne x = 0 := by
    have hle : mcount pOne x ≤ ((inner d).map (mcount pOne)).sum := by
      have hm : mcount pOne x ∈ (inner d).map (mcount pOne) := List.mem_map.2 ⟨x, hx, rfl⟩
      generalize (inner d).map (mcount pOne) = L at hm
      induction L with
      | nil => simp at hm
      | cons a L ih =>
        rw [List.sum_cons]
        rcases List.mem_cons.1 hm with rfl | hm
        · omega
        · have := ih hm; omega
    omega
  unfold mone
  rw [this]; rfl
/-! ### primitives -/
def primB (s : ByteArray) : Bool := (arity s).2 || decide (s = sPrn)
theorem arity_word {s : ByteArray} (h : (arity s).2 = true) : wordN s = 0 := by
  rcases wordN_cases s with ⟨e, _⟩ | ⟨e, _⟩ | ⟨e, _⟩ | ⟨e, _⟩ | ⟨e, _⟩ | ⟨e, _⟩ | ⟨e, _⟩ | ⟨_, h0⟩
  all_goals first | exact h0 | (subst e; exact absurd h (by decide +kernel))
theorem arity_le (s : ByteArray) : (arity s).1 ≤ 2 := by
  rw [← arityR_eq]; unfold arityR
  split
  · decide
  · split <;> decide
/-! ### the expression -/
theorem xD_eq (y : D) : xD y = dsym (xB y.text) := rfl
theorem wordN_xB (s : ByteArray) : wordN (xB s) = 0 := wordN_dot 120 s
theorem sfv_xD (y : D) : sfv (xD y) = [xB y.text] := by rw [xD_eq, sfv_name (synKind_sym (wordN_xB _))]; rfl
theorem synOk_xD (y : D) : synOk (xD y) = true := synOk_leaf (.inr (.inl (synKind_sym (wordN_xB _))))
theorem nmS_xD (y : D) : nmS (xD y) = true := nmS_sym (wordN_xB _)
theorem names_one (y : D) {m : Int} (hm : 1 ≤ m) : isNms (dlist [xD y]) m = true := by
  unfold isNms
  rw [Bool.and_eq_true]
  exact ⟨rfl, differ_of (by show (1 : Int) ≤ m; exact hm) (fun x hx => by rw [List.mem_singleton.1 hx]; exact nmS_xD y) (by simp [dlist, D.kids])⟩
/-- What the free names of the expression are. -/
def okFv (d : D) (s : ByteArray) : Prop := primB s = true ∨ ∃ x, x ∈ mfv d ∧ s = xB x
theorem mexpr_syn {d : D} : GoodM d → mone d = true → synOk (mexpr d) = true ∧ ∀ s, s ∈ sfv (mexpr d) → okFv d s := by
  induction d using D.ind with
  | _ k n t l0 ih =>
    generalize hdd : D.mk k n t l0 = d at *
    have hl : d.kids = l0 := by rw [← hdd]; rfl
    subst hl
    clear hdd
    intro hg ho
    obtain ⟨hnl, hnr, hoi⟩ := mone_at ho
    have hih : ∀ x, x ∈ inner d → synOk (mexpr x) = true ∧ ∀ s, s ∈ sfv (mexpr x) → okFv x s := fun x hx => ih x (inner_mem hx) (hg.part hx) (hoi x hx)
    have hfv : (d.kind == 2) = false → ∀ (i : Nat) (x : D) (s : ByteArray), (inner d)[i]? = some x → okFv x s → (∀ y, s = xB y → memB (bnd d i) y = false) → okFv d s := by
      intro h2 i x s hx hs hb
      rcases hs with hs | ⟨y, hy, rfl⟩
      · exact .inl hs
      · refine .inr ⟨y, ?_, rfl⟩
        rw [mfv_eq, h2, if_neg (by decide), List.mem_flatten]
        exact ⟨_, List.mem_of_getElem? (show (mapI (fun i x => (mfv x).filter fun s => !memB (bnd d i) s) (inner d))[i]? = some _ by rw [mapI_get, hx]; rfl), List.mem_filter.2 ⟨hy, by rw [hb y rfl]; rfl⟩⟩
    rcases hg.kind with hk | ⟨hk, _⟩ | hk
    · rw [mexpr_num hk]
      have h1 : synKind d = 1 := by unfold synKind; rw [hk]; rfl
      exact ⟨synOk_leaf (.inl h1), fun s hs => by rw [sfv_none (.inr (.inl h1))] at hs; simp at hs⟩
    · rw [mexpr_sym hk]
      refine ⟨synOk_xD d, fun s hs => ?_⟩
      rw [sfv_xD, List.mem_singleton] at hs
      refine .inr ⟨d.text, ?_, hs⟩
      rw [mfv_eq, hk]; simp
    · have h2 : (d.kind == 2) = false := by rw [hk]; rfl
      rcases (hg.list hk).2.2.2.2 with ⟨e, x, hks, hi⟩ | ⟨e, f, y, b, hks, hi, hf, hy⟩ | ⟨e, y, a, b, hks, hi, hy⟩ | ⟨e, hks, hq, hf, hlt, hn⟩
      · rw [mexpr_quote (isW_iff.2 ⟨hk, e⟩)]
        have hhs := head_sym hg hk e
        have h3 : synKind d = 3 := by
          have hd : d = dlist [dsym sQuote, x] := by
            have := dlist_of hg.formed hk
            rw [hks, hhs] at this
            exact this.symm
          rw [hd]
          exact synKind_form (by simp) (by rw [headN_sym]; exact wQuote) (by decide) rfl
        exact ⟨synOk_leaf (.inr (.inr h3)), fun s hs => by rw [sfv_none (.inr (.inr h3))] at hs; simp at hs⟩
      · have hw : isW d sFn = true := isW_iff.2 ⟨hk, e⟩
        have hd1 : d1 d.kids = f := by rw [hks]; rfl
        have hd2 : d2 d.kids = y := by rw [hks]; rfl
        obtain ⟨hA, hAv⟩ := hih b (by rw [hi]; simp)
        have hbk : bnd d 0 = [f.text, y.text] := by unfold bnd; rw [if_pos hw, hd1, hd2]
        have hI0 : (inner d)[0]? = some b := by rw [hi]; rfl
        rw [mexpr_fn hg hw hd1 hd2 hi]
        unfold exFn
        split
        · rename_i hft
          have hft : f.text = y.text := of_decide_eq_true hft
          have h5 : synKind (dlist [dsym sFn, dlist [xD y], mexpr b]) = 5 := by
            refine synKind_form (by simp) (by rw [headN_sym]; exact wFn) (by decide) ?_
            show ((3 : Int) == 3 && isNms (dlist [xD y]) 8) = true
            rw [names_one y (by decide)]; rfl
          refine ⟨synOk_list h5 (by decide) fun q hq => ?_, fun s hs => ?_⟩
          · rw [subs_fn (.inl h5) hq]; exact hA
          · rw [sfv_fn (.inl h5)] at hs
            obtain ⟨h1, h3⟩ := List.mem_filter.1 hs
            refine hfv h2 0 b s hI0 (hAv s h1) fun z hz => ?_
            have h4 : s ≠ xB y.text := by
              have : (!memB [xB y.text] s) = true := h3
              have : memB [xB y.text] s = false := by simpa using this
              simpa [memB] using this
            rw [hbk]
            have : z ≠ y.text := fun e => h4 (by rw [hz, e])
            simp [memB, hft, this]
        · rename_i hft
          have hft : f.text ≠ y.text := by simpa using hft
          obtain ⟨A, hAe⟩ : ∃ A, A = mexpr b := ⟨_, rfl⟩
          rw [← hAe] at hA hAv ⊢
          have hgb : grpBad (dlist [xD f, dlist [xD y], A]) = false := by
            show ((((3 : Int) != 3) || ((3 : Int) != 3)) || !isNms (dlist [xD y]) 8) = false
            rw [names_one y (by decide)]; rfl
          have hgr : isGrp (dlist [dlist [xD f, dlist [xD y], A]]) = true := by
            unfold isGrp
            rw [if_neg (by show ¬ (((((3 : Int) != 3) || ((1 : Int) == 0)) || decide ((40 : Int) < 1)) = true); decide)]
            rw [if_neg (by show ¬ ([dlist [xD f, dlist [xD y], A]].any grpBad = true); rw [List.any_cons, hgb]; simp)]
            exact differ_of (show ((1 : Nat) : Int) ≤ 40 by decide) (fun x hx => by
              have : x ∈ [xD f] := hx
              rw [List.mem_singleton.1 this]; exact nmS_xD f) (by show ([xB f.text] : List ByteArray).Nodup; simp)
          have h7 : synKind (dlist [dsym sRec, dlist [dlist [xD f, dlist [xD y], A]], xD f]) = 7 := by
            refine synKind_form (by simp) (by rw [headN_sym]; exact wRec) (by decide) ?_
            show ((3 : Int) == 3 && isGrp (dlist [dlist [xD f, dlist [xD y], A]])) = true
            rw [hgr]; rfl
          refine ⟨synOk_list h7 (by decide) fun q hq => ?_, fun s hs => ?_⟩
          · rcases subs_rec h7 hq with ⟨x, hx, e2⟩ | e2
            · rw [e2, List.mem_singleton.1 (show x ∈ [dlist [xD f, dlist [xD y], A]] from hx)]; exact hA
            · rw [e2]; exact synOk_xD f
          · rw [sfv_rec h7] at hs
            have hs : s ∈ ([dlist [xD f, dlist [xD y], A]].flatMap fun x => (sfv (d2 x.kids)).filter fun s => !(memB (parS x) s || memB [xB f.text] s)) ++ (sfv (xD f)).filter fun s => !memB [xB f.text] s := hs
            rw [List.flatMap_singleton, sfv_xD, List.mem_append] at hs
            rcases hs with hs | hs
            · obtain ⟨h1, h3⟩ := List.mem_filter.1 hs
              have h3 : memB [xB y.text] s = false ∧ memB [xB f.text] s = false := by
                have : (!(memB [xB y.text] s || memB [xB f.text] s)) = true := h3
                simpa using this
              refine hfv h2 0 b s hI0 (hAv s h1) fun z hz => ?_
              rw [hbk]
              have h4 : s ≠ xB y.text := by simpa [memB] using h3.1
              have h5 : s ≠ xB f.text := by simpa [memB] using h3.2
              have h6 : z ≠ y.text := fun e => h4 (by rw [hz, e])
              have h7 : z ≠ f.text := fun e => h5 (by rw [hz, e])
              simp [memB, h6, h7]
            · obtain ⟨h1, h3⟩ := List.mem_filter.1 hs
              rw [List.mem_singleton] at h1
              subst h1
              simp [memB] at h3
      · have hw : isW d sLet = true := isW_iff.2 ⟨hk, e⟩
        have hd1 : d1 d.kids = y := by rw [hks]; rfl
        obtain ⟨hA, hAv⟩ := hih a (by rw [hi]; simp)
        obtain ⟨hB, hBv⟩ := hih b (by rw [hi]; simp)
        have hI0 : (inner d)[0]? = some a := by rw [hi]; rfl
        have hI1 : (inner d)[1]? = some b := by rw [hi]; rfl
        rw [mexpr_let hg hw hd1 hi, head_sym hg hk e]
        have h6 : synKind (dlist [dsym sLet, xD y, mexpr a, mexpr b]) = 6 := by
          refine synKind_form (by simp) (by rw [headN_sym]; exact wLet) (by decide) ?_
          show ((4 : Int) == 4 && nmS (xD y)) = true
          rw [nmS_xD]; rfl
        refine ⟨synOk_list h6 (by decide) fun q hq => ?_, fun s hs => ?_⟩
        · rcases subs_let h6 hq with e2 | e2 <;> rw [e2]
          · exact hA
          · exact hB
        · rw [sfv_let h6] at hs
          have hs : s ∈ sfv (mexpr a) ++ (sfv (mexpr b)).filter fun s => !memB [xB y.text] s := hs
          rcases List.mem_append.1 hs with hs | hs
          · exact hfv h2 0 a s hI0 (hAv s hs) fun z _ => by rw [bnd_let hw, if_neg (by decide)]; rfl
          · obtain ⟨h1, h3⟩ := List.mem_filter.1 hs
            refine hfv h2 1 b s hI1 (hBv s h1) fun z hz => ?_
            rw [bnd_let hw, if_pos rfl, hd1]
            have h4 : s ≠ xB y.text := by simpa [memB] using h3
            have : z ≠ y.text := fun e => h4 (by rw [hz, e])
            simp [memB, this]
      · have hnf : isW d sFn = false := by unfold isW; simp [hf]
        have hnlt : isW d sLet = false := by unfold isW; simp [hlt]
        have hbn : ∀ i, bnd d i = [] := fun i => bnd_op hnf hnlt i
        have hall : ∀ s, s ∈ ((inner d).map mexpr).flatMap sfv → okFv d s := by
          intro s hs
          rw [List.mem_flatMap] at hs
          obtain ⟨x, hx, hsx⟩ := hs
          obtain ⟨z, hz, rfl⟩ := List.mem_map.1 hx
          obtain ⟨i, hi⟩ := List.getElem?_of_mem hz
          exact hfv h2 i z s hi ((hih z hz).2 s hsx) fun y _ => by rw [hbn]; rfl
        have hallO : ∀ x, x ∈ (inner d).map mexpr → synOk x = true := by
          intro x hx
          obtain ⟨z, hz, rfl⟩ := List.mem_map.1 hx
          exact (hih z hz).1
        cases hap : isW d sApp with
        | true =>
          obtain ⟨a, b, hi, _⟩ := hg.app hap
          have hA := hallO (mexpr a) (by rw [hi]; simp)
          have hB := hallO (mexpr b) (by rw [hi]; simp)
          have hab : ∀ s, s ∈ sfv (mexpr a) ∨ s ∈ sfv (mexpr b) → okFv d s := fun s hs => hall s (by rw [hi]; simpa using hs)
          rw [mexpr_app hap hi]
          split
          · have hgx : wordN (⟨#[120, 46]⟩ : ByteArray) = 0 := by decide +kernel
            have h6 : synKind (dlist [dsym sLet, gX, mexpr a, gX]) = 6 := by
              refine synKind_form (by simp) (by rw [headN_sym]; exact wLet) (by decide) ?_
              show ((4 : Int) == 4 && nmS gX) = true
              rw [show gX = dsym ⟨#[120, 46]⟩ from rfl, nmS_sym hgx]; rfl
            have h10 : synKind (dlist [dlist [dsym sLet, gX, mexpr a, gX], mexpr b]) = 10 := synKind_app (by simp) (headN_list _ _) (by simp)
            have hgo : synOk gX = true := synOk_leaf (.inr (.inl (synKind_sym hgx)))
            have hin : synOk (dlist [dsym sLet, gX, mexpr a, gX]) = true := synOk_list h6 (by decide) fun q hq => by
              rcases subs_let h6 hq with e2 | e2 <;> rw [e2]
              · exact hA
              · exact hgo
            refine ⟨synOk_list h10 (by decide) fun q hq => ?_, fun s hs => ?_⟩
            · have := subs_app h10 hq
              rcases List.mem_cons.1 (show q.2 ∈ [dlist [dsym sLet, gX, mexpr a, gX], mexpr b] from this) with e2 | e2
              · rw [e2]; exact hin
              · rw [List.mem_singleton.1 e2]; exact hB
            · rw [sfv_app h10] at hs
              have hs : s ∈ sfv (dlist [dsym sLet, gX, mexpr a, gX]) ++ (sfv (mexpr b) ++ []) := hs
              rw [List.append_nil, sfv_let h6] at hs
              have hs : s ∈ (sfv (mexpr a) ++ (sfv gX).filter fun s => !memB [(⟨#[120, 46]⟩ : ByteArray)] s) ++ sfv (mexpr b) := hs
              rw [show sfv gX = [⟨#[120, 46]⟩] from sfv_name (synKind_sym hgx)] at hs
              rcases List.mem_append.1 hs with hs | hs
              · rcases List.mem_append.1 hs with hs | hs
                · exact hab s (.inl hs)
                · obtain ⟨h1, h3⟩ := List.mem_filter.1 hs
                  rw [List.mem_singleton] at h1
                  subst h1
                  simp [memB] at h3
              · exact hab s (.inr hs)
          · rename_i hka
            have hka : (mexpr a).kind = 2 := by simpa using hka
            have ha2 : a.kind = 2 := by
              have := mexpr_kind (hg.part (x := a) (by rw [hi]; simp))
              rw [hka] at this
              have h : (a.kind == 2) = true := this.symm
              simpa using h
            have h10 : synKind (dlist [mexpr a, mexpr b]) = 10 := by
              refine synKind_app (by simp) ?_ (by simp)
              rw [mexpr_sym ha2, xD_eq, headN_sym]; exact wordN_xB _
            refine ⟨synOk_list h10 (by decide) fun q hq => ?_, fun s hs => ?_⟩
            · have := subs_app h10 hq
              rcases List.mem_cons.1 (show q.2 ∈ [mexpr a, mexpr b] from this) with e2 | e2
              · rw [e2]; exact hA
              · rw [List.mem_singleton.1 e2]; exact hB
            · rw [sfv_app h10] at hs
              have hs : s ∈ sfv (mexpr a) ++ (sfv (mexpr b) ++ []) := hs
              rw [List.append_nil, List.mem_append] at hs
              exact hab s hs
        | false =>
          cases hsy : isW d sSay with
          | true =>
            obtain ⟨a, hi, _⟩ := hg.say hsy
            have hA := hallO (mexpr a) (by rw [hi]; simp)
            have hpw : wordN sPrn = 0 := by decide +kernel
            rw [mexpr_say hsy hi]
            have h10 : synKind (dlist [dsym sPrn, mexpr a]) = 10 := synKind_app (by simp) (by rw [headN_sym]; exact hpw) (by simp)
            refine ⟨synOk_list h10 (by decide) fun q hq => ?_, fun s hs => ?_⟩
            · have := subs_app h10 hq
              rcases List.mem_cons.1 (show q.2 ∈ [dsym sPrn, mexpr a] from this) with e2 | e2
              · rw [e2]; exact synOk_leaf (.inr (.inl (synKind_sym hpw)))
              · rw [List.mem_singleton.1 e2]; exact hA
            · rw [sfv_app h10] at hs
              have hs : s ∈ sfv (dsym sPrn) ++ (sfv (mexpr a) ++ []) := hs
              rw [List.append_nil, sfv_name (synKind_sym hpw)] at hs
              rcases List.mem_append.1 hs with hs | hs
              · rw [List.mem_singleton.1 hs]
                refine .inl ?_
                unfold primB
                rw [show decide ((dsym sPrn).text = sPrn) = true from by decide, Bool.or_true]
              · exact hall s (by rw [hi]; simpa using hs)
          | false =>
            have hqq : isW d sQuote = false := by unfold isW; simp [hq]
            rw [mexpr_op hk hqq hnf hnlt hap hsy]
            obtain ⟨_, hd2, hdf, _, _⟩ := hg.list hk
            have hds : d.head = dsym d.head.text := head_sym hg hk rfl
            have hnsay := isW_ne hk hsy
            have hnapp := isW_ne hk hap
            have hnlf := isW_ne hk hnl
            have hnrn := isW_ne hk hnr
            rcases e with e | e | e | e | e | ⟨e, hari⟩
            · have hlen : (inner d).length = 3 := by rw [if_pos e] at hn; omega
              have hh : headN (dlist (d.head :: (inner d).map mexpr)) = 4 := by rw [hds, headN_sym, e]; exact wIf
              have h4 : synKind (dlist (d.head :: (inner d).map mexpr)) = 4 := by
                refine synKind_form (by simp) hh (by decide) ?_
                show (((d.head :: (inner d).map mexpr).length : Int) == 4) = true
                simp [hlen]
              refine ⟨synOk_list h4 (by decide) fun q hq => hallO _ (subs_rest (.inl h4) hq), fun s hs => ?_⟩
              rw [sfv_rest (.inl h4)] at hs
              exact hall s hs
            · exact absurd e hnapp
            · exact absurd e hnsay
            · exact absurd e hnlf
            · exact absurd e hnrn
            · have hw0 := arity_word hari
              have hlen : (inner d).length ≤ 2 := by
                have h1 := arity_le d.head.text
                rw [if_neg (by intro h; rw [h] at e; exact absurd e (by decide)), if_neg (by rintro (h | h); exact hnapp h; exact hnrn h), if_neg (by rintro (h | h); exact hnsay h; exact hnlf h)] at hn
                omega
              have h10 : synKind (dlist (d.head :: (inner d).map mexpr)) = 10 := synKind_app (by simp) (by rw [hds, headN_sym]; exact hw0) (by simp; omega)
              refine ⟨synOk_list h10 (by decide) fun q hq => ?_, fun s hs => ?_⟩
              · have := subs_app h10 hq
                rcases List.mem_cons.1 (show q.2 ∈ d.head :: (inner d).map mexpr from this) with e2 | e2
                · rw [e2, hds]; exact synOk_leaf (.inr (.inl (synKind_sym hw0)))
                · exact hallO _ e2
              · rw [sfv_app h10] at hs
                have hs : s ∈ sfv d.head ++ ((inner d).map mexpr).flatMap sfv := hs
                rcases List.mem_append.1 hs with hs | hs
                · rw [hds, sfv_name (synKind_sym hw0), List.mem_singleton] at hs
                  refine .inl ?_
                  unfold primB
                  rw [hs, show (dsym d.head.text).text = d.head.text from rfl, hari, Bool.true_or]
                · exact hall s hs
theorem mexpr_prims {d : D} (hg : GoodM d) (ho : mone d = true) (hc : mfree d [] [] = []) : synOk (mexpr d) = true ∧ ∀ s, s ∈ sfree (mexpr d) [] [] → primB s = true := by
  obtain ⟨h1, h2⟩ := mexpr_syn hg ho
  refine ⟨h1, fun s hs => ?_⟩
  rcases (sfree_mem (mexpr d) [] [] s).1 hs with h | ⟨h, _⟩
  · simp at h
  · rcases h2 s h with h | ⟨x, hx, _⟩
    · exact h
    · rw [closed_fv hc] at hx; simp at hx
end Go.Aw

namespace Go.Aw
open Go
theorem addS_nodup {S : List ByteArray} {x : ByteArray} (h : S.Nodup) : (addS S x).Nodup := by
  unfold addS
  split
  · exact h
  · rename_i hm
    refine List.nodup_append.2 ⟨h, by simp, fun a ha b hb e => ?_⟩
    rw [List.mem_singleton] at hb
    subst hb; subst e
    exact hm (memB_iff.2 ha)
theorem sfree_nodup : ∀ (d : D) (l S : List ByteArray), S.Nodup → (sfree d l S).Nodup := by
  intro d
  induction d using D.indS with
  | h d ih =>
    intro l S hS
    rw [sfree_eq]
    split
    · split
      · exact hS
      · exact addS_nodup hS
    · have key : ∀ (L : List (Sub × D)), (∀ q, q ∈ L → q ∈ subs d) → ∀ S : List ByteArray, S.Nodup → (L.foldl (fun S q => sfree q.2 (q.1.ns.map (·.1) ++ l) S) S).Nodup := by
        intro L
        induction L with
        | nil => intro _ S h; exact h
        | cons q L ihL =>
          intro hL S h
          rw [List.foldl_cons]
          exact ihL (fun x hx => hL x (by simp [hx])) _ (ih q (hL q (by simp)) _ S h)
      exact key (subs d) (fun _ h => h) S hS
def primS : List ByteArray := primL.map (·.1) ++ [sPrn]
theorem primB_mem {s : ByteArray} (h : primB s = true) : s ∈ primS := by
  unfold primB at h
  unfold primS
  rw [List.mem_append, List.mem_singleton]
  rw [Bool.or_eq_true] at h
  rcases h with h | h
  · left
    unfold arity at h
    split at h
    · rename_i p hp
      have h1 := List.mem_of_find?_eq_some hp
      have h2 := List.find?_some hp
      rw [← of_decide_eq_true h2]
      exact List.mem_map.2 ⟨p, h1, rfl⟩
    · cases h
  · exact .inr (of_decide_eq_true h)
theorem primS_size : (primS.all fun s => decide (s.size ≤ 100)) = true := by decide +kernel
theorem primS_len : primS.length ≤ 1000 := by decide +kernel
theorem prims_ok {S : List ByteArray} (hn : S.Nodup) (h : ∀ s, s ∈ S → primB s = true) : S.length ≤ 1000000000 ∧ ∀ s, s ∈ S → s.size ≤ maxLen := by
  refine ⟨Nat.le_trans (nodup_len hn fun x hx => primB_mem (h x hx)) (Nat.le_trans primS_len (by decide)), fun s hs => ?_⟩
  have h1 := List.all_eq_true.1 primS_size s (primB_mem (h s hs))
  exact Nat.le_trans (of_decide_eq_true h1) (by decide)
theorem mexprR_bad {x : D} (h : (mexprR x).2 ≠ 0) : (mexprR x).1 = dnone := by
  unfold mexprR at h ⊢
  split
  · rfl
  · split
    · rfl
    · split
      · rfl
      · split
        · rfl
        · rename_i h0 h1 h2 h3
          rw [if_neg h0, if_neg h1, if_neg h2, if_neg h3] at h
          exact absurd rfl h
theorem mexprR_fine {x : D} (h : (mexprR x).2 = 0) : (mexprR x).1 = mexpr x ∧ mcheck x = 0 ∧ mfree x [] [] = [] ∧ mone x = true ∧ dcheck (mexpr x) = 0 := by
  unfold mexprR at h ⊢
  split
  · rename_i h0; rw [if_pos h0] at h; rw [show mcheck x = 0 from h] at h0; exact absurd h0 (by decide)
  · rename_i h0
    rw [if_neg h0] at h
    split
    · rename_i h1; rw [if_pos h1] at h; exact absurd h (by decide)
    · rename_i h1
      rw [if_neg h1] at h
      split
      · rename_i h2; rw [if_pos h2] at h; exact absurd h (by decide)
      · rename_i h2
        rw [if_neg h2] at h
        split
        · rename_i h3; rw [if_pos h3] at h; exact absurd h (by decide)
        · rename_i h3
          refine ⟨rfl, by simpa using h0, ?_, by simpa using h2, by simpa using h3⟩
          simp only [decide_eq_true_eq] at h1
          exact List.eq_nil_of_length_eq_zero (by omega)
/-- All that the law asks. -/
theorem mexprR_ok {x : D} (h : (mexprR x).2 = 0) : dcheck (mexprR x).1 = 0 ∧ synOk (mexprR x).1 = true ∧ (sfree (mexprR x).1 [] []).length ≤ 1000000000 ∧ (∀ s, s ∈ sfree (mexprR x).1 [] [] → s.size ≤ maxLen) ∧ ∀ s, s ∈ sortB (sfree (mexprR x).1 [] []) → primB s = true := by
  obtain ⟨h1, h2, h3, h4, h5⟩ := mexprR_fine h
  obtain ⟨h6, h7⟩ := mexpr_prims (mcheck_good h2) h4 h3
  rw [h1]
  obtain ⟨h8, h9⟩ := prims_ok (sfree_nodup (mexpr x) [] [] List.nodup_nil) h7
  exact ⟨h5, h6, h8, h9, fun s hs => h7 s ((sortB_mem _ s).1 hs)⟩
theorem mexprR_sz2 {x : D} (h : x.size ≤ 2000) : (mexprR x).1.size ≤ 1000000 := by
  unfold mexprR
  have hn : dnone.size = 1 := by simp [dnone, D.size, D.sizes]
  split
  · rw [hn]; omega
  · rename_i h0
    split
    · rw [hn]; omega
    · split
      · rw [hn]; omega
      · split
        · rw [hn]; omega
        · have := mexpr_size (mcheck_good (by simpa using h0)); simp only; omega
end Go.Aw

namespace Go.Aw
open Go
def primNames : List (List UInt8 × Int) := primL.map fun p => (p.1.data.toList, p.2)
theorem primV_of : (primNames.map fun p => PV.agg [strPV p.1, .int .i64 p.2]) = primL.map encPrim := by
  unfold primNames
  rw [List.map_map]
  refine List.map_congr_left fun p _ => ?_
  simp [strPV, encPrim]
/-- A variable of one cell. -/
theorem rp_var {B : Nat} {S : Nat → Nat → Prop} {w : World} {n : Nat} {p : PV} {v : Value} (hn : n < B) (hc : w.cell? ⟨n, 0, none⟩ = some v) (h1 : v.oneCell' = true) (hp : RP B S w p v) : RP B S w (.ptr [p]) (.pointer (some ⟨n, 0, none⟩)) := by
  refine RP.ptr (vs := [v]) rfl (fun i u hu => ?_) (fun i x u hx hu => ?_)
  · match i with
    | 0 => simp at hu; subst hu; exact ⟨.inl hn, by simpa using hc, h1⟩
    | i + 1 => simp at hu
  · match i with
    | 0 => simp at hx hu; subst hx hu; exact hp
    | i + 1 => simp at hx
theorem cell_lt {w : World} {n i : Nat} {v : Value} (h : w.cell? ⟨n, i, none⟩ = some v) : n < w.heap.size := by
  unfold World.cell? at h
  by_cases hlt : n < w.heap.size
  · exact hlt
  · rw [Array.getElem?_eq_none (by show w.heap.size ≤ n; omega)] at h; simp at h
/-- A datum that is handed over. -/
theorem open_agg {v : Value} {k n : Int} {t : ByteArray} {u : Value} (h : v.cells.toList = [.int .i64 k, .int .i64 n, .string t, u]) : v = .agg #[.int .i64 k, .int .i64 n, .string t, u] := by
  cases v with
  | agg cs => simp only [Value.cells] at h; rw [← Array.toArray_toList (xs := cs), h]
  | _ => simp [Value.cells] at h
theorem rp_datum {B : Nat} {S : Nat → Nat → Prop} {w : World} {d : D} {u : Value} (h1 : u.oneCell' = true) (h : RP B S w (.slice (d.kids.map enc)) u) : RP B S w (enc d) (.agg #[.int .i64 d.kind, .int .i64 d.num, .string d.text, u]) := by
  rw [enc_eq]
  refine RP.agg (vs := [.int .i64 d.kind, .int .i64 d.num, .string d.text, u]) rfl (fun v hv => ?_) (fun i x v hx hv => ?_)
  · simp only [List.mem_cons, List.not_mem_nil, or_false] at hv
    rcases hv with rfl | rfl | rfl | rfl <;> first | rfl | exact h1
  · match i with
    | 0 => simp at hx hv; subst hx hv; exact .int
    | 1 => simp at hx hv; subst hx hv; exact .int
    | 2 => simp at hx hv; subst hx hv; exact .str
    | 3 => simp at hx hv; subst hx hv; exact h
    | i + 4 => simp at hx
end Go.Aw

namespace Go.Aw
open Go Go.ChangeShapes Go.WideShapes Go.ChangeAt Go.WideMaps Go.WideElems Go.RowKit
theorem nodup_inj {α β : Type} {f : α → β} : ∀ {l : List α}, (l.map f).Nodup → ∀ {a b : α}, a ∈ l → b ∈ l → f a = f b → a = b
  | [], _, a, b, ha, _, _ => by simp at ha
  | c :: l, h, a, b, ha, hb, e => by
    rw [List.map_cons, List.nodup_cons] at h
    rcases List.mem_cons.1 ha with rfl | ha1
    · rcases List.mem_cons.1 hb with rfl | hb1
      · rfl
      · exact (h.1 (List.mem_map.2 ⟨b, hb1, e.symm⟩)).elim
    · rcases List.mem_cons.1 hb with rfl | hb1
      · exact (h.1 (List.mem_map.2 ⟨a, ha1, e⟩)).elim
      · exact nodup_inj h.2 ha1 hb1 e
theorem find_perm {β : Type} {l1 l2 : List (ByteArray × β)} (h : l1.Perm l2) (hn : (l2.map (·.1)).Nodup) (x : ByteArray) : (l1.find? fun p => decide (p.1 = x)) = l2.find? fun p => decide (p.1 = x) := by
  cases h2 : l2.find? fun p => decide (p.1 = x) with
  | none =>
    rw [List.find?_eq_none] at h2 ⊢
    exact fun p hp => h2 p (h.mem_iff.1 hp)
  | some y =>
    have hy := List.find?_some h2
    have hym := List.mem_of_find?_eq_some h2
    cases h1 : l1.find? fun p => decide (p.1 = x) with
    | none =>
      rw [List.find?_eq_none] at h1
      exact absurd hy (h1 y (h.mem_iff.2 hym))
    | some z =>
      have hz := List.find?_some h1
      have hzm := h.mem_iff.1 (List.mem_of_find?_eq_some h1)
      simp only [decide_eq_true_eq] at hy hz
      rw [nodup_inj hn hzm hym (hz.trans hy.symm)]
def shapesB : List (List UInt8 × (Nat × Nat)) := shapeL.map fun p => (p.1.data.toList, p.2)
def shB (p : List UInt8 × (Nat × Nat)) : ByteArray × (Nat × Nat) := (⟨p.1.toArray⟩, p.2)
theorem shapesB_back : shapesB.map shB = shapeL := by
  unfold shapesB
  rw [List.map_map]
  conv => rhs; rw [← List.map_id shapeL]
  refine List.map_congr_left fun p _ => ?_
  simp [shB]
theorem shapeL_nodup : (shapeL.map (·.1)).Nodup := by decide +kernel
def shO (l : List (List UInt8 × (Nat × Nat))) (h : l.Perm shapesB) : ShO where
  l := l.map shB
  find := fun x => by
    rw [find_perm (h.map shB) (by rw [shapesB_back]; exact shapeL_nodup), shapesB_back]
    rfl

def litSh {H : Type} : DataW H → Nat × Nat
  | .agg [.lit (.int _ a), .lit (.int _ b)] => (a.toNat, b.toNat)
  | _ => (0, 0)
def datSh {H : Type} (p : List UInt8 × (Nat × Nat)) : Lit × DataW H := (.string p.1, .agg [.lit (.int .i64 (p.2.1 : Nat)), .lit (.int .i64 (p.2.2 : Nat))])
section
variable {H : Type} {enc' : TypeId × Value → H} {P : Program} {w : World} {base : Nat} {sp : Nat → Bool} {held : Bool} {S : Nat → Nat → Prop} {t k e : TypeId} {fuel : Nat} {cs : List Value} {ps : List MemPlace}
theorem open_two {f0 f1 : Field} (he : P.underlying e = some (.struct #[f0, f1])) (hf0 : P.underlying f0.type = some (.int .i64)) (hf1 : P.underlying f1.type = some (.int .i64)) (o0 : f0.offset = 0) (o1 : f1.offset = 1)
    (c0 : P.cellsOf f0.type = 1) (c1 : P.cellsOf f1.type = 1) (ce : P.cellsOf e = 2) {x : DataW H × List MemPlace} (h : DataW.trod enc' P w base sp held fuel e cs = some x) : ∃ a b : Int, cs = [.int .i64 a, .int .i64 b] ∧ x.1 = .agg [.lit (.int .i64 a), .lit (.int .i64 b)] := by
  obtain ⟨xs, n, rfl, hxe, hl, hlen, hf⟩ := DataW.trod_struct he h
  have hxl : xs.length = 2 := by simpa using hlen
  have g0 := hf 0 f0 rfl
  have g1 := hf 1 f1 rfl
  rw [o0, c0] at g0
  rw [o1, c1] at g1
  have s0 : xs[0]? = some xs[0] := by simp
  have s1 : xs[1]? = some xs[1] := by simp
  rw [s0] at g0
  rw [s1] at g1
  obtain ⟨a, e0, x0, _⟩ := DataW.trod_int hf0 g0
  obtain ⟨b, e1, x1, _⟩ := DataW.trod_int hf1 g1
  have a0 := one_of e0
  have a1 := one_of e1
  refine ⟨a, b, ?_, ?_⟩
  · rw [ce] at hl
    match cs, hl, a0, a1 with
    | [u, v], _, a0, a1 =>
      simp only [List.getElem?_cons_zero, List.getElem?_cons_succ, Option.some.injEq] at a0 a1
      rw [a0, a1]
  · have hxs : xs = [xs[0], xs[1]] := by
      refine List.ext_getElem (by simp [hxl]) (fun j h1 h2 => ?_)
      match j with
      | 0 => rfl
      | 1 => rfl
      | j + 2 => simp only [List.length_cons, List.length_nil] at h2; omega
    rw [hxe, hxs]
    simp [x0, x1]
theorem open_shapes {f0 f1 : Field} (ht : P.underlying t = some (.map k e)) (hks : P.underlying k = some .string) (he : P.underlying e = some (.struct #[f0, f1])) (hf0 : P.underlying f0.type = some (.int .i64)) (hf1 : P.underlying f1.type = some (.int .i64)) (o0 : f0.offset = 0) (o1 : f1.offset = 1)
    (c0 : P.cellsOf f0.type = 1) (c1 : P.cellsOf f1.type = 1) (ce : P.cellsOf e = 2) {names : List (List UInt8 × (Nat × Nat))}
    (h : DataW.trod enc' P w base sp held fuel t cs = some (.map (names.map datSh), ps)) (hp : names.Perm shapesB) :
    ∃ (b : Nat) (s : ShO), cs = [.map (some b)] ∧ RP w.heap.size S w (.map (shK s) (shV s)) (.map (some b)) := by
  rcases WideElems.open_map ht h with ⟨_, hx⟩ | ⟨b, es, clock, n, rfl, rfl, hb, _, F, hx⟩
  · cases hx
  simp only [Prod.mk.injEq, DataW.map.injEq] at hx
  have hperm := foldr_insert_perm (es.toList.map (rg P k (elemAt enc' P w base sp held n e)))
  rw [← hx.1] at hperm
  have hl : ((es.toList.map (rg P k (elemAt enc' P w base sp held n e))).map fun y => (litStr y.1, litSh y.2)).Perm shapesB := by
    have h2 := (hperm.map fun y : Lit × DataW H => (litStr y.1, litSh y.2)).symm
    have e1 : ((names.map (datSh (H := H))).map fun y : Lit × DataW H => (litStr y.1, litSh y.2)) = names := by
      rw [List.map_map]
      conv => rhs; rw [← List.map_id names]
      refine List.map_congr_left fun p _ => ?_
      simp [datSh, litStr, litSh]
    rw [e1] at h2
    exact h2.trans hp
  refine ⟨b, shO _ hl, rfl, ?_⟩
  have hent : ∀ x, x ∈ es.toList → ∃ (s : ByteArray) (c d : Nat), x.key = .string s ∧ x.val = .agg #[.int .i64 c, .int .i64 d] ∧ shB (litStr (rg P k (elemAt enc' P w base sp held n e) x).1, litSh (rg P k (elemAt enc' P w base sp held n e) x).2) = (s, (c, d)) := by
    intro x hxm
    obtain ⟨y, hy⟩ := F.reads x hxm
    have hrg : rg P k (elemAt enc' P w base sp held n e) x = y := rg_of hy
    have hmem : y ∈ names.map (datSh (H := H)) := by
      have : y ∈ es.toList.map (rg P k (elemAt enc' P w base sp held n e)) := List.mem_map.2 ⟨x, hxm, hrg⟩
      exact hperm.mem_iff.2 this
    obtain ⟨s, _, hs⟩ := List.mem_map.1 hmem
    subst hs
    have hkey := rd_key hy
    obtain ⟨z, hz, hz2⟩ := rd_val hy
    rw [keyOf_string hks] at hkey
    have hk2 : ∃ s' : ByteArray, x.key = .string s' ∧ s'.data.toList = s.1 := by
      unfold mapKey at hkey
      rw [hks] at hkey
      split at hkey <;> simp_all [datSh]
    obtain ⟨s', h1, h2⟩ := hk2
    unfold elemAt at hz
    split at hz
    · rename_i hfm
      obtain ⟨c, d, hcs, hz3⟩ := open_two he hf0 hf1 o0 o1 c0 c1 ce hz
      rw [hz3] at hz2
      simp only [datSh, DataW.agg.injEq, List.cons.injEq, DataW.lit.injEq, Lit.int.injEq, true_and, and_true] at hz2
      refine ⟨s', s.2.1, s.2.2, h1, ?_, ?_⟩
      · rw [← hz2.1, ← hz2.2] at hcs
        cases hv : x.val with
        | agg cs => rw [hv] at hcs; simp only [Value.cells] at hcs; rw [← Array.toArray_toList (xs := cs), hcs]
        | _ => rw [hv] at hcs; simp [Value.cells] at hcs
      · rw [hrg]
        simp [datSh, litStr, litSh, shB, ← h2]
    · cases hz
  have hblt : b < w.heap.size := by
    by_cases hlt : b < w.heap.size
    · exact hlt
    · rw [Array.getElem?_eq_none (by omega)] at hb; cases hb
  refine RP.map (es := es.toList) (clock := clock) hblt (by rw [hb]) (by simp [shK, shO]) (by simp [shV, shO]) (fun i x en hx hen => ?_) (fun i x en hx hen => ?_)
  · obtain ⟨s, c, d, h1, _, h3⟩ := hent en (List.mem_of_getElem? hen)
    simp only [shK, shO, List.map_map, List.getElem?_map, hen, Option.map_some, Option.some.injEq] at hx
    subst hx
    simp only [Function.comp]
    rw [h3, h1]; exact .str
  · obtain ⟨s, c, d, _, h2, h3⟩ := hent en (List.mem_of_getElem? hen)
    simp only [shV, shO, List.map_map, List.getElem?_map, hen, Option.map_some, Option.some.injEq] at hx
    subst hx
    simp only [Function.comp]
    rw [h3, h2]
    refine RP.agg (vs := [.int .i64 c, .int .i64 d]) rfl (fun v hv => ?_) (fun i x v hx hv => ?_)
    · simp only [List.mem_cons, List.not_mem_nil, or_false] at hv
      rcases hv with rfl | rfl <;> rfl
    · match i with
      | 0 => simp at hx hv; subst hx hv; exact .int
      | 1 => simp at hx hv; subst hx hv; exact .int
      | i + 2 => simp at hx
end
/-- A variable that an error lies in. -/
theorem rp_error {B : Nat} {S : Nat → Nat → Prop} {w : World} {n : Nat} {tp : TypeId} {a : Addr} {s : ByteArray} (hn : n < B) (hc : w.cell? ⟨n, 0, none⟩ = some (.iface tp (.pointer (some a)))) (ha : w.cell? a = some (.string s)) : RP B S w (.ptr [.iface tp (.ptr [])]) (.pointer (some ⟨n, 0, none⟩)) := by
  have hspot : a.spot = none := by
    unfold World.cell? at ha
    cases hs : a.spot with
    | none => rfl
    | some s =>
      rw [hs] at ha
      split at ha <;> simp at ha
  obtain ⟨b, off, sp⟩ := a
  simp only at hspot
  subst hspot
  exact rp_var hn hc rfl (.iface (RP.ptr (vs := []) rfl (fun i v hv => by simp at hv) (fun i x v hx hv => by simp at hx)))
end Go.Aw

namespace Go.Aw
open Go Go.ChangeShapes Go.WideShapes Go.ChangeAt Go.WideMaps Go.WideElems Go.RowKit
def wordsB : List (List UInt8 × Int) := wordL.map fun p => (p.1.data.toList, p.2)
def wdB (p : List UInt8 × Int) : ByteArray × Int := (⟨p.1.toArray⟩, p.2)
theorem wordsB_back : wordsB.map wdB = wordL := by
  unfold wordsB
  rw [List.map_map]
  conv => rhs; rw [← List.map_id wordL]
  refine List.map_congr_left fun p _ => ?_
  simp [wdB]
theorem wordL_nodup : (wordL.map (·.1)).Nodup := by decide +kernel
def wdO (l : List (List UInt8 × Int)) (h : l.Perm wordsB) : WdO where
  l := l.map wdB
  find := fun x => by
    rw [find_perm (h.map wdB) (by rw [wordsB_back]; exact wordL_nodup), wordsB_back]
    rfl
def litWd {H : Type} : DataW H → Int
  | .lit (.int _ a) => a
  | _ => 0
def datWd {H : Type} (p : List UInt8 × Int) : Lit × DataW H := (.string p.1, .lit (.int .i64 p.2))
section
variable {H : Type} {enc' : TypeId × Value → H} {P : Program} {w : World} {base : Nat} {sp : Nat → Bool} {held : Bool} {S : Nat → Nat → Prop} {t k e : TypeId} {fuel : Nat} {cs : List Value} {ps : List MemPlace}
theorem open_words (ht : P.underlying t = some (.map k e)) (hks : P.underlying k = some .string) (he : P.underlying e = some (.int .i64)) {names : List (List UInt8 × Int)}
    (h : DataW.trod enc' P w base sp held fuel t cs = some (.map (names.map datWd), ps)) (hp : names.Perm wordsB) :
    ∃ (b : Nat) (s : WdO), cs = [.map (some b)] ∧ RP w.heap.size S w (.map (wdK s) (wdV s)) (.map (some b)) := by
  rcases WideElems.open_map ht h with ⟨_, hx⟩ | ⟨b, es, clock, n, rfl, rfl, hb, _, F, hx⟩
  · cases hx
  simp only [Prod.mk.injEq, DataW.map.injEq] at hx
  have hperm := foldr_insert_perm (es.toList.map (rg P k (elemAt enc' P w base sp held n e)))
  rw [← hx.1] at hperm
  have hl : ((es.toList.map (rg P k (elemAt enc' P w base sp held n e))).map fun y => (litStr y.1, litWd y.2)).Perm wordsB := by
    have h2 := (hperm.map fun y : Lit × DataW H => (litStr y.1, litWd y.2)).symm
    have e1 : ((names.map (datWd (H := H))).map fun y : Lit × DataW H => (litStr y.1, litWd y.2)) = names := by
      rw [List.map_map]
      conv => rhs; rw [← List.map_id names]
      refine List.map_congr_left fun p _ => ?_
      simp [datWd, litStr, litWd]
    rw [e1] at h2
    exact h2.trans hp
  refine ⟨b, wdO _ hl, rfl, ?_⟩
  have hent : ∀ x, x ∈ es.toList → ∃ (s : ByteArray) (c : Int), x.key = .string s ∧ x.val = .int .i64 c ∧ wdB (litStr (rg P k (elemAt enc' P w base sp held n e) x).1, litWd (rg P k (elemAt enc' P w base sp held n e) x).2) = (s, c) := by
    intro x hxm
    obtain ⟨y, hy⟩ := F.reads x hxm
    have hrg : rg P k (elemAt enc' P w base sp held n e) x = y := rg_of hy
    have hmem : y ∈ names.map (datWd (H := H)) := by
      have : y ∈ es.toList.map (rg P k (elemAt enc' P w base sp held n e)) := List.mem_map.2 ⟨x, hxm, hrg⟩
      exact hperm.mem_iff.2 this
    obtain ⟨s, _, hs⟩ := List.mem_map.1 hmem
    subst hs
    have hkey := rd_key hy
    obtain ⟨z, hz, hz2⟩ := rd_val hy
    rw [keyOf_string hks] at hkey
    have hk2 : ∃ s' : ByteArray, x.key = .string s' ∧ s'.data.toList = s.1 := by
      unfold mapKey at hkey
      rw [hks] at hkey
      split at hkey <;> simp_all [datWd]
    obtain ⟨s', h1, h2⟩ := hk2
    unfold elemAt at hz
    split at hz
    · rename_i hfm
      obtain ⟨c, hcs, hz3, _⟩ := DataW.trod_int he hz
      rw [hz3] at hz2
      simp only [datWd, DataW.lit.injEq, Lit.int.injEq, true_and] at hz2
      refine ⟨s', s.2, h1, ?_, ?_⟩
      · cases hv : x.val with
        | agg cs => rw [hv] at hfm; simp [Value.formed, he] at hfm
        | tuple cs => rw [hv] at hfm; simp [Value.formed] at hfm
        | _ => rw [hv] at hcs; simp [Value.cells] at hcs <;> first | (rw [hcs.1, hcs.2]; rw [hz2]) | (rw [hcs, hz2]) | simp [hcs, hz2]
      · rw [hrg]
        simp [datWd, litStr, litWd, wdB, ← h2]
    · cases hz
  have hblt : b < w.heap.size := by
    by_cases hlt : b < w.heap.size
    · exact hlt
    · rw [Array.getElem?_eq_none (by omega)] at hb; cases hb
  refine RP.map (es := es.toList) (clock := clock) hblt (by rw [hb]) (by simp [wdK, wdO]) (by simp [wdV, wdO]) (fun i x en hx hen => ?_) (fun i x en hx hen => ?_)
  · obtain ⟨s, c, h1, _, h3⟩ := hent en (List.mem_of_getElem? hen)
    simp only [wdK, wdO, List.map_map, List.getElem?_map, hen, Option.map_some, Option.some.injEq] at hx
    subst hx
    simp only [Function.comp]
    rw [h3, h1]; exact .str
  · obtain ⟨s, c, _, h2, h3⟩ := hent en (List.mem_of_getElem? hen)
    simp only [wdV, wdO, List.map_map, List.getElem?_map, hen, Option.map_some, Option.some.injEq] at hx
    subst hx
    simp only [Function.comp]
    rw [h3, h2]; exact .int
end
end Go.Aw
