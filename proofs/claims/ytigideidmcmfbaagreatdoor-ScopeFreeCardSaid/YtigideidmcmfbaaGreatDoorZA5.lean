/- Part of the proof that the statement holds for every input that its row lets in: an own logic of abstract values over the given model, and laws of data and programs; no program is named in it. -/
import Derived.Test.YtigideidmcmfbaaGreatDoorZA4
import Derived.Test.YtigideidmcmfbaaGreatDoorZA3
import Derived.LaidLaws
set_option linter.unusedSimpArgs false
set_option linter.unusedVariables false
namespace Go.Aw
open Go
/-- Bindings, and the first new ones. -/
def wEnv (env : List Bd) (p : List Int) (n : Int) (ns : List ByteArray) (k : Nat) : List Bd := env ++ (bdW p n ns).take k
theorem yl3 (env : List Bd) (p : List Int) (n : Int) (ns : List ByteArray) : wEnv env p n ns 0 = env := by unfold wEnv; simp
theorem ym6 {env : List Bd} {p : List Int} {n : Int} {ns : List ByteArray} {k : Nat} {x : ByteArray} (h : ns[k]? = some x) : (wEnv env p n ns (k + 1)).map zW = (wEnv env p n ns k).map zW ++ [.agg [.str x, .slice (p.map (.int .i64)), .int .i64 (n + (k : Int))]] := by
 unfold wEnv
 rw [ypa h, ← List.append_assoc, List.map_append]; rfl
theorem yh0 {env : List Bd} {p : List Int} {n : Int} {ns : List ByteArray} {k : Nat} (h : k ≤ ns.length) : (wEnv env p n ns k).length = env.length + k := by
 unfold wEnv; simp [ygp]; omega
theorem ynG (env : List Bd) (p : List Int) (n : Int) (ns : List ByteArray) : wEnv env p n ns ns.length = env ++ bdW p n ns := by
 unfold wEnv; rw [List.take_of_length_le (by rw [ygp]; exact Nat.le_refl _)]
def scpP (e : List Bd) : PV := .slice (e.map zW)
@[go_sem] theorem yln (e : List Bd) : (scpP e).cells = [scpP e] := rfl
@[go_sem] theorem ysM (l : List (List Bd)) : yX 1 (l.map scpP) = true := by simp [yX, yln]
theorem yfj {d : D} {p : List Int} {env : List Bd} {k : Nat} {q : Sub × D} (h : (subs d)[k]? = some q) : (scps d p env)[k]? = some (env ++ bdS p q.1.ns) := by unfold scps; rw [List.getElem?_map, h]; rfl
theorem yie (d : D) (p : List Int) (env : List Bd) : (scps d p env).length = (subs d).length := by unfold scps; rw [List.length_map]
theorem ymQ {d : D} {p : List Int} (h : yb d = 5 ∨ yb d = 9) {q : Sub × D} (hq : q ∈ subs d) : bdS p q.1.ns = bdW p 0 (ownS d) := by
 rw [y5 h] at hq
 rw [List.mem_singleton.1 hq]
 exact yaW _ _ _
theorem ynX {d : D} {p : List Int} (h : yb d = 6) {q : Sub × D} (hq : (subs d)[0]? = some q) : bdS p q.1.ns = [] := by
 rw [yQ h] at hq
 cases hq; rfl
theorem yoQ {d : D} {p : List Int} (h : yb d = 6) {q : Sub × D} (hq : (subs d)[1]? = some q) : bdS p q.1.ns = bdW p 0 (ownS d) := by
 rw [yQ h] at hq
 cases hq
 exact yaW _ _ _
theorem yqX {d : D} (h : yb d = 6) : (subs d).length = 2 := by rw [yQ h]; rfl
theorem ypI {d : D} {p : List Int} (h : yb d = 7) {k : Nat} {q : Sub × D} (hq : (subs d)[k]? = some q) {x : D} (hx : (d1 d.kids).kids[k]? = some x) : bdS p q.1.ns = bdW p 0 (ownS d) ++ bdW p (yW (d1 d.kids).kids k) (parS x) := by
 rw [Yh h hx] at hq
 cases hq
 show bdS p (_ ++ _) = _
 rw [ypG, yaW, yaW]
theorem ypl {d : D} {p : List Int} (h : yb d = 7) {q : Sub × D} (hq : (subs d)[(d1 d.kids).kids.length]? = some q) : bdS p q.1.ns = bdW p 0 (ownS d) := by
 rw [(Yx h).1] at hq
 cases hq
 exact yaW _ _ _
theorem yo2 {d : D} {p : List Int} (h : yb d ≠ 5 ∧ yb d ≠ 9 ∧ yb d ≠ 6 ∧ yb d ≠ 7) {q : Sub × D} (hq : q ∈ subs d) : bdS p q.1.ns = [] := by
 rw [yfh h hq]; rfl
theorem ycv (l : List ByteArray) (n : Int) : (numb l n).length = l.length := zx _ _
theorem ykG (p : List Int) (ns : List (ByteArray × Int)) : (bdS p ns).length = ns.length := by unfold bdS; simp
/-- What is bound at a part, and the part, are in the whole. -/
theorem ypr {d : D} {q : Sub × D} (hq : q ∈ subs d) : q.1.ns.length + q.2.size ≤ d.size := by
 have hb := yaz d
 have h2 : q.2.size ≤ ((subs d).map fun q => q.2.size).sum := by
  have : ∀ r : List (Sub × D), q ∈ r → q.2.size ≤ (r.map fun q => q.2.size).sum := by
   intro r
   induction r with
   | nil => intro h; simp at h
   | cons x r ih =>
    intro h
    rcases List.mem_cons.1 h with rfl | h
    ·simp
    ·have := ih h; simp; omega
  exact this _ hq
 have h1 : q.1.ns.length ≤ (ownS d).length + (if (yb d == 7) = true then ((d1 d.kids).kids.map fun x => (parS x).length).sum else 0) := by
  by_cases h5 : yb d = 5 ∨ yb d = 9
  ·rw [y5 h5] at hq
   rw [List.mem_singleton.1 hq]
   simp [subL, ycv]
  by_cases h6 : yb d = 6
  ·rw [yQ h6] at hq
   simp only [List.mem_cons, List.not_mem_nil, or_false] at hq
   rcases hq with rfl | rfl
   ·simp
   ·simp [subL, ycv]
  by_cases h7 : yb d = 7
  ·rw [y9 h7, List.mem_append, List.mem_singleton] at hq
   rw [if_pos (by simpa using h7)]
   rcases hq with hq | rfl
   ·obtain ⟨i, x, hx, rfl⟩ := YJ hq
    have : (parS x).length ≤ ((d1 d.kids).kids.map fun x => (parS x).length).sum := by
     have : ∀ r : List D, x ∈ r → (parS x).length ≤ (r.map fun x => (parS x).length).sum := by
      intro r
      induction r with
      | nil => intro h; simp at h
      | cons y r ih =>
       intro h
       rcases List.mem_cons.1 h with rfl | h
       ·simp
       ·have := ih h; simp; omega
     exact this _ (List.mem_of_getElem? hx)
    simp [subR, ycv]; omega
   ·simp [subL, ycv]
  ·rw [yfh ⟨fun h => h5 (.inl h), fun h => h5 (.inr h), h6, h7⟩ hq]; simp
 omega
/-- The variables in the first parts. -/
def rvK (d : D) (p : List Int) (env : List Bd) (k : Nat) : List Vr := ((subs d).take k).flatMap fun q => rvars q.2 (p ++ q.1.p) (env ++ bdS p q.1.ns)
theorem yoM (d : D) (p : List Int) (env : List Bd) : rvK d p env 0 = [] := rfl
theorem yog {d : D} {p : List Int} {env : List Bd} {k : Nat} {q : Sub × D} (h : (subs d)[k]? = some q) : rvK d p env (k + 1) = rvK d p env k ++ rvars q.2 (p ++ q.1.p) (env ++ bdS p q.1.ns) := by
 unfold rvK; rw [yA h, List.flatMap_append]; simp
theorem ykg {d : D} {p : List Int} {env : List Bd} (h : yb d ≠ 2) : rvK d p env (subs d).length = rvars d p env := by
 rw [ya5, if_neg (by simpa using h)]; unfold rvK; rw [List.take_length]
theorem yqj {d : D} {p : List Int} {env : List Bd} (h : yb d ≠ 2) (k : Nat) : (rvK d p env k).length ≤ d.size := by
 have h1 := yhh d p env
 rw [← ykg h] at h1
 have h2 : rvK d p env (subs d).length = rvK d p env k ++ ((subs d).drop k).flatMap fun q => rvars q.2 (p ++ q.1.p) (env ++ bdS p q.1.ns) := by
  unfold rvK
  rw [List.take_length, ← List.flatMap_append, List.take_append_drop]
 rw [h2, List.length_append] at h1
 omega
theorem ypZ (vs : List Vr) (k : Nat) (S : List ByteArray) : (rfK (vs.take k) S).length ≤ S.length + k := by
 induction k with
 | zero => simp [rfK]
 | succ k ih =>
  by_cases h : k < vs.length
  ·have hx : vs[k]? = some vs[k] := by simp [h]
   rw [yiX hx]
   split
   ·omega
   ·have := ycr (rfK (vs.take k) S) vs[k].nm; omega
  ·rw [List.take_of_length_le (by omega)] at ih ⊢; omega
/-- What is around a variable is not much. -/
theorem ylg : ∀ (d : D) (p : List Int) (env : List Bd) (v : Vr), v ∈ rvars d p env → v.env.length ≤ env.length + d.size := by
 intro d
 induction d using D.indS with
 | h d ih =>
  intro p env v hv
  rw [ya5] at hv
  split at hv
  ·rw [List.mem_singleton.1 hv]; simp
  ·obtain ⟨q, hq, hv⟩ := List.mem_flatMap.1 hv
   have h1 := ih q hq _ _ v hv
   have h2 := ypr hq
   rw [List.length_append, ykG] at h1
   omega
theorem ymW {d : D} (v : Vr) (h : v ∈ rvars d [] []) : v.env.length ≤ ([] : List Bd).length + d.size := ylg d [] [] v h
def bd0 : Bd := ⟨⟨#[]⟩, [], 0⟩
theorem yjK {x : ByteArray} {env : List Bd} {k : Nat} {b : Bd} (h : NotYet (fun b : Bd => decide (b.nm = x)) env.reverse k) (hb : env.reverse[k]? = some b) (hx : decide (b.nm = x) = true) : YA x env = some b := yfu h hb hx
theorem yk0 {x : ByteArray} {env : List Bd} (h : NotYet (fun b : Bd => decide (b.nm = x)) env.reverse env.reverse.length) : YA x env = none := yhf h
theorem yr1 {α : Type} {l : List α} {k : Nat} (h : k < l.length) : ∃ x, l.reverse[k]? = some x ∧ l[l.length - 1 - k]? = some x := by
 refine ⟨l[l.length - 1 - k], ?_, by simp⟩
 rw [List.getElem?_reverse h]; simp
theorem zV (x y : ByteArray) : (ltB x y || decide (x = y)) = leB x y := by
 unfold leB ltB
 congr 1
 rw [Lib.toList_data, Lib.toList_data, Bool.eq_iff_iff, decide_eq_true_eq, beq_iff_eq]
 exact ⟨fun h => by rw [h], fun h => ByteArray.ext (Array.toList_inj.1 h)⟩
theorem zH (x y : ByteArray) : Op.bytesLess x.toList y.toList = ltB x y := rfl
end Go.Aw

namespace Go.Aw
open Go
/-- A variable of one cell. -/
theorem ymA {B : Nat} {S : Nat → Nat → Prop} {w : World} {n : Nat} {p : PV} {v : Value} (hn : n < B) (hc : w.cell? ⟨n, 0, none⟩ = some v) (h1 : v.oneCell' = true) (hp : RP B S w p v) : RP B S w (.ptr [p]) (.pointer (some ⟨n, 0, none⟩)) := by
 refine RP.ptr (vs := [v]) rfl (fun i u hu => ?_) (fun i x u hx hu => ?_)
 ·match i with
  | 0 => simp at hu; subst hu; exact ⟨.inl hn, by simpa using hc, h1⟩
  | i + 1 => simp at hu
 ·match i with
  | 0 => simp at hx hu; subst hx hu; exact hp
  | i + 1 => simp at hx
theorem ykw {w : World} {n i : Nat} {v : Value} (h : w.cell? ⟨n, i, none⟩ = some v) : n < w.heap.size := by
 unfold World.cell? at h
 by_cases hlt : n < w.heap.size
 ·exact hlt
 ·rw [Array.getElem?_eq_none (by show w.heap.size ≤ n; omega)] at h; simp at h
/-- A datum that is handed over. -/
theorem ypc {v : Value} {k n : Int} {t : ByteArray} {u : Value} (h : v.cells.toList = [.int .i64 k, .int .i64 n, .string t, u]) : v = .agg #[.int .i64 k, .int .i64 n, .string t, u] := by
 cases v with
 | agg cs => simp only [Value.cells] at h; rw [← Array.toArray_toList (xs := cs), h]
 | _ => simp [Value.cells] at h
theorem ynJ {B : Nat} {S : Nat → Nat → Prop} {w : World} {d : D} {u : Value} (h1 : u.oneCell' = true) (h : RP B S w (.slice (d.kids.map enc)) u) : RP B S w (enc d) (.agg #[.int .i64 d.kind, .int .i64 d.num, .string d.text, u]) := by
 rw [yaw]
 refine RP.agg (vs := [.int .i64 d.kind, .int .i64 d.num, .string d.text, u]) rfl (fun v hv => ?_) (fun i x v hx hv => ?_)
 ·simp only [List.mem_cons, List.not_mem_nil, or_false] at hv
  rcases hv with rfl | rfl | rfl | rfl <;> first | rfl | exact h1
 ·match i with
  | 0 => simp at hx hv; subst hx hv; exact .int
  | 1 => simp at hx hv; subst hx hv; exact .int
  | 2 => simp at hx hv; subst hx hv; exact .str
  | 3 => simp at hx hv; subst hx hv; exact h
  | i + 4 => simp at hx
end Go.Aw

namespace Go.Aw
open Go Go.ChangeShapes Go.WideShapes Go.ChangeAt Go.WideMaps Go.WideElems Go.RowKit
theorem ygW {α β : Type} {f : α → β} : ∀ {l : List α}, (l.map f).Nodup → ∀ {a b : α}, a ∈ l → b ∈ l → f a = f b → a = b
 | [], _, a, b, ha, _, _ => by simp at ha
 | c :: l, h, a, b, ha, hb, e => by
  rw [List.map_cons, List.nodup_cons] at h
  rcases List.mem_cons.1 ha with rfl | ha1
  ·rcases List.mem_cons.1 hb with rfl | hb1
   ·rfl
   ·exact (h.1 (List.mem_map.2 ⟨b, hb1, e.symm⟩)).elim
  ·rcases List.mem_cons.1 hb with rfl | hb1
   ·exact (h.1 (List.mem_map.2 ⟨a, ha1, e⟩)).elim
   ·exact ygW h.2 ha1 hb1 e
theorem ymY {β : Type} {l1 l2 : List (ByteArray × β)} (h : l1.Perm l2) (hn : (l2.map (·.1)).Nodup) (x : ByteArray) : (l1.find? fun p => decide (p.1 = x)) = l2.find? fun p => decide (p.1 = x) := by
 cases h2 : l2.find? fun p => decide (p.1 = x) with
 | none =>
  rw [List.find?_eq_none] at h2 ⊢
  exact fun p hp => h2 p (h.mem_iff.1 hp)
 | some y =>
  have hy := List.find?_some h2
  have hym := List.mem_of_find?_eq_some h2
  cases h1 : l1.find? fun p => decide (p.1 = x) with
  | none =>
   rw [List.find?_eq_none] at h1
   exact absurd hy (h1 y (h.mem_iff.2 hym))
  | some z =>
   have hz := List.find?_some h1
   have hzm := h.mem_iff.1 (List.mem_of_find?_eq_some h1)
   simp only [decide_eq_true_eq] at hy hz
   rw [ygW hn hzm hym (hz.trans hy.symm)]
end Go.Aw

namespace Go.Aw
open Go Go.ChangeShapes Go.WideShapes Go.ChangeAt Go.WideMaps Go.WideElems Go.RowKit
def yb4 : List (List UInt8 × Int) := ybx.map fun p => (p.1.data.toList, p.2)
def wdB (p : List UInt8 × Int) : ByteArray × Int := (⟨p.1.toArray⟩, p.2)
theorem yeo : yb4.map wdB = ybx := by
 unfold yb4
 rw [List.map_map]
 conv => rhs; rw [← List.map_id ybx]
 refine List.map_congr_left fun p _ => ?_
 simp [wdB]
theorem yjQ : (ybx.map (·.1)).Nodup := by decide +kernel
def wdO (l : List (List UInt8 × Int)) (h : l.Perm yb4) : WdO where
 l := l.map wdB
 find := fun x => by
  rw [ymY (h.map wdB) (by rw [yeo]; exact yjQ), yeo]
  rfl
def yd7 {H : Type} : DataW H → Int
 | .lit (.int _ a) => a
 | _ => 0
def ybo {H : Type} (p : List UInt8 × Int) : Lit × DataW H := (.string p.1, .lit (.int .i64 p.2))
section
variable {H : Type} {enc' : TypeId × Value → H} {P : Program} {w : World} {base : Nat} {sp : Nat → Bool} {held : Bool} {S : Nat → Nat → Prop} {t k e : TypeId} {fuel : Nat} {cs : List Value} {ps : List MemPlace}
theorem yla (ht : P.underlying t = some (.map k e)) (hks : P.underlying k = some .string) (he : P.underlying e = some (.int .i64)) {names : List (List UInt8 × Int)}
  (h : DataW.trod enc' P w base sp held fuel t cs = some (.map (names.map ybo), ps)) (hp : names.Perm yb4) :
  ∃ (b : Nat) (s : WdO), cs = [.map (some b)] ∧ RP w.heap.size S w (.map (wdK s) (wdV s)) (.map (some b)) := by
 rcases WideElems.open_map ht h with ⟨_, hx⟩ | ⟨b, es, clock, n, rfl, rfl, hb, _, F, hx⟩
 ·cases hx
 simp only [Prod.mk.injEq, DataW.map.injEq] at hx
 have hperm := YL (es.toList.map (rg P k (elemAt enc' P w base sp held n e)))
 rw [← hx.1] at hperm
 have hl : ((es.toList.map (rg P k (elemAt enc' P w base sp held n e))).map fun y => (ycb y.1, yd7 y.2)).Perm yb4 := by
  have h2 := (hperm.map fun y : Lit × DataW H => (ycb y.1, yd7 y.2)).symm
  have e1 : ((names.map (ybo (H := H))).map fun y : Lit × DataW H => (ycb y.1, yd7 y.2)) = names := by
   rw [List.map_map]
   conv => rhs; rw [← List.map_id names]
   refine List.map_congr_left fun p _ => ?_
   simp [ybo, ycb, yd7]
  rw [e1] at h2
  exact h2.trans hp
 refine ⟨b, wdO _ hl, rfl, ?_⟩
 have hent : ∀ x, x ∈ es.toList → ∃ (s : ByteArray) (c : Int), x.key = .string s ∧ x.val = .int .i64 c ∧ wdB (ycb (rg P k (elemAt enc' P w base sp held n e) x).1, yd7 (rg P k (elemAt enc' P w base sp held n e) x).2) = (s, c) := by
  intro x hxm
  obtain ⟨y, hy⟩ := F.reads x hxm
  have hrg : rg P k (elemAt enc' P w base sp held n e) x = y := rg_of hy
  have hmem : y ∈ names.map (ybo (H := H)) := by
   have : y ∈ es.toList.map (rg P k (elemAt enc' P w base sp held n e)) := List.mem_map.2 ⟨x, hxm, hrg⟩
   exact hperm.mem_iff.2 this
  obtain ⟨s, _, hs⟩ := List.mem_map.1 hmem
  subst hs
  have hkey := rd_key hy
  obtain ⟨z, hz, hz2⟩ := rd_val hy
  rw [keyOf_string hks] at hkey
  have hk2 : ∃ s' : ByteArray, x.key = .string s' ∧ s'.data.toList = s.1 := by
   unfold mapKey at hkey
   rw [hks] at hkey
   split at hkey <;> simp_all [ybo]
  obtain ⟨s', h1, h2⟩ := hk2
  unfold elemAt at hz
  split at hz
  ·rename_i hfm
   obtain ⟨c, hcs, hz3, _⟩ := DataW.trod_int he hz
   rw [hz3] at hz2
   simp only [ybo, DataW.lit.injEq, Lit.int.injEq, true_and] at hz2
   refine ⟨s', s.2, h1, ?_, ?_⟩
   ·cases hv : x.val with
    | agg cs => rw [hv] at hfm; simp [Value.formed, he] at hfm
    | tuple cs => rw [hv] at hfm; simp [Value.formed] at hfm
    | _ => rw [hv] at hcs; simp [Value.cells] at hcs <;> first | (rw [hcs.1, hcs.2]; rw [hz2]) | (rw [hcs, hz2]) | simp [hcs, hz2]
   ·rw [hrg]
    simp [ybo, ycb, yd7, wdB, ← h2]
  ·cases hz
 have hblt : b < w.heap.size := by
  by_cases hlt : b < w.heap.size
  ·exact hlt
  ·rw [Array.getElem?_eq_none (by omega)] at hb; cases hb
 refine RP.map (es := es.toList) (clock := clock) hblt (by rw [hb]) (by simp [wdK, wdO]) (by simp [wdV, wdO]) (fun i x en hx hen => ?_) (fun i x en hx hen => ?_)
 ·obtain ⟨s, c, h1, _, h3⟩ := hent en (List.mem_of_getElem? hen)
  simp only [wdK, wdO, List.map_map, List.getElem?_map, hen, Option.map_some, Option.some.injEq] at hx
  subst hx
  simp only [Function.comp]
  rw [h3, h1]; exact .str
 ·obtain ⟨s, c, _, h2, h3⟩ := hent en (List.mem_of_getElem? hen)
  simp only [wdV, wdO, List.map_map, List.getElem?_map, hen, Option.map_some, Option.some.injEq] at hx
  subst hx
  simp only [Function.comp]
  rw [h3, h2]; exact .int
end
end Go.Aw

namespace Go.Aw
open Go Go.ChangeShapes Go.WideShapes Go.ChangeAt Go.WideMaps Go.WideElems Go.RowKit
section
variable {H : Type} {enc' : TypeId × Value → H} {P : Program} {w : World} {base : Nat} {spare : Nat → Bool} {held : Bool} {tD tK ti tn ts : TypeId} {S : Nat → Nat → Prop}
/-- The value itself, where its type is a slice. -/
theorem yjV {r : Reach} {b0 : Nat} {t e : TypeId} {v u : Value} (ht : P.underlying t = some (.slice e)) (hok : Value.okWide P w r b0 t v) (h : v.cells.toList = [u]) : v = u := by
 obtain ⟨a, len, cap, rfl⟩ := okWide_slice ht hok
 simpa [Value.cells] using h
end
end Go.Aw

namespace Go.Aw
open Go
end Go.Aw

namespace Go.Aw
open Go Go.ChangeShapes Go.WideShapes Go.ChangeAt Go.WideMaps Go.WideElems Go.RowKit
section
variable {H : Type} {enc' : TypeId × Value → H} {P : Program} {w : World} {base : Nat} {spare : Nat → Bool} {held : Bool} {t e : TypeId} {S : Nat → Nat → Prop}
/-- A list whose elements are one cell each. -/
theorem ymF {α : Type} (f : α → PV) (g : α → Value) (Q : α → Prop) (hf : ∀ a, (f a).cells = [f a]) (hg : ∀ a, (g a).oneCell' = true) (hfg : ∀ (a : α), RP w.heap.size S w (f a) (g a)) (ht : P.underlying t = some (.slice e)) (hc : P.cellsOf e = 1)
  (he : ∀ (fuel : Nat) (cs : List Value) (x : DataW H × List MemPlace), DataW.trod enc' P w base spare held fuel e cs = some x → ∃ a, cs = [g a] ∧ Q a) {fuel : Nat} {cs : List Value} {x : DataW H × List MemPlace} (h : DataW.trod enc' P w base spare held fuel t cs = some x) :
  ∃ (l : List α) (v : Value), cs = [v] ∧ RP w.heap.size S w (.slice (l.map f)) v ∧ (∀ a, a ∈ l → Q a) ∧ (l.length = 0 ∨ ∃ el sp, x.1 = .slice el sp ∧ el.length = l.length) := by
 rcases DataW.trod_slice ht h with ⟨hv, _⟩ | ⟨a, len, cap, elems, rest, m', rfl, hv, hx, hb, hlc, hcm, hel, hes, _⟩
 ·exact ⟨[], _, hv, .empty, fun a ha => by simp at ha, .inl rfl⟩
 ·rw [hc] at hes
  have hex : ∀ i, i < len → ∃ b : α, (∀ r, r < 1 → w.cell? ((a.add (i * 1)).add r) = ([g b] : List Value)[r]?) ∧ Q b := by
   intro i hi
   have h1 := hes i hi
   have h2 : elems[i]? = some elems[i] := by simp [hel, hi]
   rw [h2] at h1
   obtain ⟨cs', hcc, htt⟩ := Option.bind_eq_some_iff.1 h1
   obtain ⟨_, _, hc2⟩ := World.cells?_some hcc
   obtain ⟨b, hb1, hb2⟩ := he m' cs' _ htt
   subst hb1
   exact ⟨b, hc2, hb2⟩
  obtain ⟨l, hll, hlq⟩ := ybK len hex
  refine ⟨l, _, hv, ?_, fun b hbm => ?_, .inr ⟨_, _, by rw [hx], by rw [List.length_map, hel, hll]⟩⟩
  ·by_cases hlen0 : len = 0
   ·subst hlen0
    have : l = [] := List.eq_nil_of_length_eq_zero hll
    subst this
    exact .empty
   have hblk : a.block < w.heap.size := by
    obtain ⟨d, h1, _⟩ := hex 0 (by omega)
    have h2 := h1 0 (by omega)
    rw [Nat.zero_mul, Addr.add, if_pos rfl, Addr.add, if_pos rfl] at h2
    unfold World.cell? at h2
    by_cases hlt : a.block < w.heap.size
    ·exact hlt
    ·rw [Array.getElem?_eq_none (by omega)] at h2; simp at h2
   refine yeI (sz := 1) (by simp [hll]) hlc hblk (by omega) (fun x hx => ?_) (fun q x hx => ?_)
   ·obtain ⟨d, _, rfl⟩ := List.mem_map.1 hx
    rw [hf]; rfl
   ·rw [List.getElem?_map] at hx
    obtain ⟨d, hd, rfl⟩ := Option.map_eq_some_iff.1 hx
    obtain ⟨h1, h2⟩ := hlq q d hd
    refine ⟨[g d], rfl, h1, fun u hu => by rw [List.mem_singleton.1 hu]; exact hg d, fun r y u hy hu => ?_⟩
    rw [hf] at hy
    match r with
    | 0 => simp at hy hu; subst hy hu; exact hfg d
    | r + 1 => simp at hy
  ·obtain ⟨i, hi, e2⟩ := List.getElem_of_mem hbm
   exact (hlq i b (by rw [← e2]; simp)).2
theorem ymp (ht : P.underlying t = some (.slice e)) (he : P.underlying e = some .string) (hc : P.cellsOf e = 1) {fuel : Nat} {cs : List Value} {x : DataW H × List MemPlace} (h : DataW.trod enc' P w base spare held fuel t cs = some x) :
  ∃ (l : List ByteArray) (v : Value), cs = [v] ∧ RP w.heap.size S w (.slice (l.map .str)) v ∧ (l.length = 0 ∨ ∃ el sp, x.1 = .slice el sp ∧ el.length = l.length) := by
 obtain ⟨l, v, h1, h2, _, h3⟩ := ymF (S := S) PV.str Value.string (fun _ => True) (fun _ => rfl) (fun _ => rfl) (fun _ => .str) ht hc (fun fuel cs x h => by
  obtain ⟨s, h1, _⟩ := DataW.trod_string he h
  exact ⟨s, h1, trivial⟩) h
 exact ⟨l, v, h1, h2, h3⟩
theorem yf0 {p : Nat → Bool} : ∀ {ts : List TypeId} {ds : List (DataW H)} (_ : (DataW.weightsEach P ts ds).all p = true) {j : Nat} {t : TypeId} {d : DataW H} (_ : ts[j]? = some t) (_ : ds[j]? = some d), (d.weights P t).all p = true
 | [], _, _, j, t, d, ht, _ => by simp at ht
 | _ :: _, [], _, j, t, d, _, hd => by simp at hd
 | t0 :: ts, d0 :: ds, h, j, t, d, ht, hd => by
  simp only [DataW.weightsEach, List.all_append, Bool.and_eq_true] at h
  match j with
  | 0 => simp at ht hd; subst ht hd; exact h.1
  | j + 1 => exact yf0 h.2 (j := j) (by simpa using ht) (by simpa using hd)
theorem yoo {x : DataW H} {n sz : Nat} (h : (x.weights P t).all (· ≤ reachBytes) = true) (ht : P.underlying t = some (.slice e)) (hz : P.bytesOf e = sz) (hn : n = 0 ∨ ∃ el sp, x = .slice el sp ∧ el.length = n) : n * sz ≤ 140737488351232 := by
 rcases hn with rfl | ⟨el, sp, rfl, rfl⟩
 ·simp
 ·rw [DataW.weights.eq_def] at h
  simp only [ht, List.all_cons, Bool.and_eq_true, decide_eq_true_eq] at h
  have h1 := h.1
  rw [hz] at h1
  unfold reachBytes at h1
  have h2 : el.length * sz ≤ (el.length + sp.length) * sz := Nat.mul_le_mul_right _ (Nat.le_add_right _ _)
  omega
end
end Go.Aw
