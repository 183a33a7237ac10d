/- Part of the proof that the statement holds for every input that its row lets in: an own logic of abstract values over the given model, and laws of data and programs; no program is named in it. -/
import Derived.Test.YtigideidmcmfbaaGreatDoorZA4
set_option linter.unusedSimpArgs false
set_option linter.unusedVariables false
namespace Go.Aw
open Go Go.ChangeShapes Go.WideShapes Go.ChangeAt Go.WideMaps Go.WideElems Go.RowKit
section
variable {H : Type} {enc' : TypeId × Value → H} {P : Program} {w : World} {base : Nat} {spare : Nat → Bool} {held : Bool} {t e : TypeId} {S : Nat → Nat → Prop}
theorem ymB {α : Type} (f : α → PV) (g : α → Value) (Q : α → Prop) (hf : ∀ a, (f a).cells = [f a]) (hg : ∀ a, (g a).oneCell' = true) (hfg : ∀ (a : α), RP w.heap.size S w (f a) (g a)) (ht : P.underlying t = some (.slice e)) (hc : P.cellsOf e = 1)
  (he : ∀ (fuel : Nat) (cs : List Value) (x : DataW H × List MemPlace), DataW.trod enc' P w base spare held fuel e cs = some x → ∃ a, cs = [g a] ∧ Q a) {fuel : Nat} {cs : List Value} {x : DataW H × List MemPlace} (h : DataW.trod enc' P w base spare held fuel t cs = some x) :
  ∃ (l : List α) (v : Value), cs = [v] ∧ RP w.heap.size S w (.slice (l.map f)) v ∧ (∀ a, a ∈ l → Q a) ∧ (l.length = 0 ∨ ∃ el sp, x.1 = .slice el sp ∧ el.length = l.length) := by
 rcases DataW.trod_slice ht h with ⟨hv, _⟩ | ⟨a, len, cap, elems, rest, m', rfl, hv, hx, hb, hlc, hcm, hel, hes, _⟩
 ·exact ⟨[], _, hv, .empty, fun a ha => by simp at ha, .inl rfl⟩
 ·rw [hc] at hes
  have hex : ∀ i, i < len → ∃ b : α, (∀ r, r < 1 → w.cell? ((a.add (i * 1)).add r) = ([g b] : List Value)[r]?) ∧ Q b := by
   intro i hi
   have h1 := hes i hi
   have h2 : elems[i]? = some elems[i] := by simp [hel, hi]
   rw [h2] at h1
   obtain ⟨cs', hcc, htt⟩ := Option.bind_eq_some_iff.1 h1
   obtain ⟨_, _, hc2⟩ := World.cells?_some hcc
   obtain ⟨b, hb1, hb2⟩ := he m' cs' _ htt
   subst hb1
   exact ⟨b, hc2, hb2⟩
  obtain ⟨l, hll, hlq⟩ := ybS len hex
  refine ⟨l, _, hv, ?_, fun b hbm => ?_, .inr ⟨_, _, by rw [hx], by rw [List.length_map, hel, hll]⟩⟩
  ·by_cases hlen0 : len = 0
   ·subst hlen0
    have : l = [] := List.eq_nil_of_length_eq_zero hll
    subst this
    exact .empty
   have hblk : a.block < w.heap.size := by
    obtain ⟨d, h1, _⟩ := hex 0 (by omega)
    have h2 := h1 0 (by omega)
    rw [Nat.zero_mul, Addr.add, if_pos rfl, Addr.add, if_pos rfl] at h2
    unfold World.cell? at h2
    by_cases hlt : a.block < w.heap.size
    ·exact hlt
    ·rw [Array.getElem?_eq_none (by omega)] at h2; simp at h2
   refine ye0 (sz := 1) (by simp [hll]) hlc hblk (by omega) (fun x hx => ?_) (fun q x hx => ?_)
   ·obtain ⟨d, _, rfl⟩ := List.mem_map.1 hx
    rw [hf]; rfl
   ·rw [List.getElem?_map] at hx
    obtain ⟨d, hd, rfl⟩ := Option.map_eq_some_iff.1 hx
    obtain ⟨h1, h2⟩ := hlq q d hd
    refine ⟨[g d], rfl, h1, fun u hu => by rw [List.mem_singleton.1 hu]; exact hg d, fun r y u hy hu => ?_⟩
    rw [hf] at hy
    match r with
    | 0 => simp at hy hu; subst hy hu; exact hfg d
    | r + 1 => simp at hy
  ·obtain ⟨i, hi, e2⟩ := List.getElem_of_mem hbm
   exact (hlq i b (by rw [← e2]; simp)).2
theorem ync (ht : P.underlying t = some (.slice e)) (he : P.underlying e = some (.int .i64)) (hc : P.cellsOf e = 1) {fuel : Nat} {cs : List Value} {x : DataW H × List MemPlace} (h : DataW.trod enc' P w base spare held fuel t cs = some x) :
  ∃ (l : List Int) (v : Value), cs = [v] ∧ RP w.heap.size S w (.slice (l.map (.int .i64))) v ∧ (∀ n, n ∈ l → (Lit.int .i64 n).wf = true) ∧ (l.length = 0 ∨ ∃ el sp, x.1 = .slice el sp ∧ el.length = l.length) :=
 ymB (S := S) (PV.int .i64) (Value.int .i64) (fun n => (Lit.int .i64 n).wf = true) (fun _ => rfl) (fun _ => rfl) (fun _ => .int) ht hc (fun fuel cs x h => by
  obtain ⟨n, h1, _, h2⟩ := DataW.trod_int he h
  exact ⟨n, h1, h2⟩) h
theorem yfQ {p : Nat → Bool} : ∀ {ts : List TypeId} {ds : List (DataW H)} (_ : (DataW.weightsEach P ts ds).all p = true) {j : Nat} {t : TypeId} {d : DataW H} (_ : ts[j]? = some t) (_ : ds[j]? = some d), (d.weights P t).all p = true
 | [], _, _, j, t, d, ht, _ => by simp at ht
 | _ :: _, [], _, j, t, d, _, hd => by simp at hd
 | t0 :: ts, d0 :: ds, h, j, t, d, ht, hd => by
  simp only [DataW.weightsEach, List.all_append, Bool.and_eq_true] at h
  match j with
  | 0 => simp at ht hd; subst ht hd; exact h.1
  | j + 1 => exact yfQ h.2 (j := j) (by simpa using ht) (by simpa using hd)
theorem yoO {x : DataW H} {n sz : Nat} (h : (x.weights P t).all (· ≤ reachBytes) = true) (ht : P.underlying t = some (.slice e)) (hz : P.bytesOf e = sz) (hn : n = 0 ∨ ∃ el sp, x = .slice el sp ∧ el.length = n) : n * sz ≤ 140737488351232 := by
 rcases hn with rfl | ⟨el, sp, rfl, rfl⟩
 ·simp
 ·rw [DataW.weights.eq_def] at h
  simp only [ht, List.all_cons, Bool.and_eq_true, decide_eq_true_eq] at h
  have h1 := h.1
  rw [hz] at h1
  unfold reachBytes at h1
  have h2 : el.length * sz ≤ (el.length + sp.length) * sz := Nat.mul_le_mul_right _ (Nat.le_add_right _ _)
  omega
end
end Go.Aw
