/- Part of the proof that the statement holds for every input that its row lets in: an own logic of abstract values over the given model, and laws of data and programs; no program is named in it. -/
import Derived.Test.YtienmmfjjffjaaaGreatDoorZA3
set_option linter.unusedSimpArgs false
set_option linter.unusedVariables false
/- Laid tables as abstract values; the beginning of a call; what the row says behind it. No program is named. -/
namespace Go.Aw
open Go Go.ChangeShapes Go.WideShapes Go.ChangeAt Go.WideMaps Go.WideElems Go.RowKit
theorem insert_perm {H : Type} (x : Lit × DataW H) : ∀ l : List (Lit × DataW H), (DataW.insert x l).Perm (x :: l)
  | [] => .refl _
  | y :: r => by
    unfold DataW.insert
    split
    · exact .refl _
    · exact ((insert_perm x r).cons y).trans (.swap _ _ _)
theorem foldr_insert_perm {H : Type} : ∀ l : List (Lit × DataW H), (l.foldr DataW.insert []).Perm l
  | [] => .refl _
  | x :: l => (insert_perm x _).trans ((foldr_insert_perm l).cons x)

def strPV (s : List UInt8) : PV := .str ⟨s.toArray⟩
def litStr : Lit → List UInt8
  | .string s => s
  | _ => []

section
variable {H : Type} {enc' : TypeId × Value → H} {P : Program} {w : World} {base : Nat} {sp : Nat → Bool} {held : Bool} {S : Nat → Nat → Prop} {t k e : TypeId} {fuel : Nat} {cs : List Value} {ps : List MemPlace}
theorem open_set (ht : P.underlying t = some (.map k e)) (hks : P.underlying k = some .string) (he : P.underlying e = some .bool) {names : List (List UInt8)}
    (h : DataW.trod enc' P w base sp held fuel t cs = some (.map (names.map fun s => (.string s, .lit (.bool true))), ps)) :
    ∃ (b : Nat) (l : List (List UInt8)), cs = [.map (some b)] ∧ l.Perm names ∧ RP w.heap.size S w (.map (l.map strPV) (l.map fun _ => .bool true)) (.map (some b)) := by
  rcases WideElems.open_map ht h with ⟨_, hx⟩ | ⟨b, es, clock, n, rfl, rfl, hb, _, F, hx⟩
  · cases hx
  simp only [Prod.mk.injEq, DataW.map.injEq] at hx
  have hperm := foldr_insert_perm (es.toList.map (rg P k (elemAt enc' P w base sp held n e)))
  rw [← hx.1] at hperm
  refine ⟨b, (es.toList.map (rg P k (elemAt enc' P w base sp held n e))).map fun y => litStr y.1, rfl, ?_, ?_⟩
  · have h2 := (hperm.map fun y : Lit × DataW H => litStr y.1).symm
    have e1 : ((names.map fun s => ((Lit.string s, DataW.lit (.bool true)) : Lit × DataW H)).map fun y : Lit × DataW H => litStr y.1) = names := by
      rw [List.map_map]
      exact List.map_id _
    rw [e1] at h2
    exact h2
  have hent : ∀ x, x ∈ es.toList → ∃ s : ByteArray, x.key = .string s ∧ x.val = .bool true ∧ litStr (rg P k (elemAt enc' P w base sp held n e) x).1 = s.data.toList := by
    intro x hxm
    obtain ⟨y, hy⟩ := F.reads x hxm
    have hrg : rg P k (elemAt enc' P w base sp held n e) x = y := rg_of hy
    have hmem : y ∈ names.map fun s => ((Lit.string s, DataW.lit (.bool true)) : Lit × DataW H) := by
      have : y ∈ es.toList.map (rg P k (elemAt enc' P w base sp held n e)) := List.mem_map.2 ⟨x, hxm, hrg⟩
      exact hperm.mem_iff.2 this
    obtain ⟨s, _, hs⟩ := List.mem_map.1 hmem
    subst hs
    have hkey := rd_key hy
    obtain ⟨z, hz, hz2⟩ := rd_val hy
    obtain ⟨bb, hv, hz3⟩ := elemAt_bool he hz
    rw [keyOf_string hks] at hkey
    have hk2 : ∃ s' : ByteArray, x.key = .string s' ∧ s'.data.toList = s := by
      unfold mapKey at hkey
      rw [hks] at hkey
      split at hkey <;> simp_all
    obtain ⟨s', h1, h2⟩ := hk2
    refine ⟨s', h1, ?_, by rw [hrg, h2]; rfl⟩
    rw [hz3] at hz2
    simp only [DataW.lit.injEq, Lit.bool.injEq] at hz2
    rw [hv, ← hz2]
  have hblt : b < w.heap.size := by
    by_cases hlt : b < w.heap.size
    · exact hlt
    · rw [Array.getElem?_eq_none (by omega)] at hb; cases hb
  refine RP.map (es := es.toList) (clock := clock) hblt (by rw [hb]) (by simp) (by simp) (fun i x en hx hen => ?_) (fun i x en hx hen => ?_)
  · simp only [List.map_map, List.getElem?_map, hen, Option.map_some, Option.some.injEq] at hx
    obtain ⟨s, h1, _, h3⟩ := hent en (List.mem_of_getElem? hen)
    subst hx
    simp only [Function.comp, strPV, h3, h1]
    have : (⟨s.data.toList.toArray⟩ : ByteArray) = s := by simp
    rw [this]; exact .str
  · simp only [List.map_map, List.getElem?_map, hen, Option.map_some, Option.some.injEq, Function.comp] at hx
    obtain ⟨s, _, h2, _⟩ := hent en (List.mem_of_getElem? hen)
    subst hx
    rw [h2]; exact .bool

/-- A table of names and numbers. -/
theorem open_table {f0 f1 : Field} (ht : P.underlying t = some (.slice e)) (he : P.underlying e = some (.struct #[f0, f1])) (hf0 : P.underlying f0.type = some .string) (hf1 : P.underlying f1.type = some (.int .i64)) (o0 : f0.offset = 0) (o1 : f1.offset = 1)
    (c0 : P.cellsOf f0.type = 1) (c1 : P.cellsOf f1.type = 1) (ce : P.cellsOf e = 2) {L : List (List UInt8 × Int)} {r : List (DataW H)}
    (h : DataW.trod enc' P w base sp held fuel t cs = some (.slice (L.map fun p => .agg [.lit (.string p.1), .lit (.int .i64 p.2)]) r, ps)) :
    ∃ v, cs = [v] ∧ v.oneCell' = true ∧ RP w.heap.size S w (.slice (L.map fun p => .agg [strPV p.1, .int .i64 p.2])) v := by
  rcases DataW.trod_slice ht h with ⟨_, hx⟩ | ⟨a, len, cap, elems, rest, m, rfl, rfl, hx, hb, hlc, hcm, hel, hes, _⟩
  · cases hx
  simp only [Prod.mk.injEq, DataW.slice.injEq] at hx
  have hLl : L.length = len := by
    have := congrArg List.length hx.1.1
    simpa [hel] using this
  refine ⟨_, rfl, rfl, ?_⟩
  by_cases hL : L = []
  · subst hL; simp at hLl; subst hLl; exact .empty
  rw [ce] at hes
  have key : ∀ (i : Nat) (p : List UInt8 × Int), L[i]? = some p → ∃ s : ByteArray, s.data.toList = p.1 ∧ ∀ j, j < 2 → w.cell? ((a.add (i * 2)).add j) = ([.string s, .int .i64 p.2] : List Value)[j]? := by
    intro i p hp
    have hi : i < len := by rw [← hLl]; exact (List.getElem?_eq_some_iff.1 hp).1
    have h1 := hes i hi
    have h2 : elems[i]? = some elems[i] := by simp [hel, hi]
    rw [h2] at h1
    obtain ⟨cs', hc, hstr⟩ := Option.bind_eq_some_iff.1 h1
    obtain ⟨_, hcl, hc2⟩ := World.cells?_some hc
    obtain ⟨xs, n, rfl, hxe, hl, hlen, hf⟩ := DataW.trod_struct he hstr
    have hxl : xs.length = 2 := by simpa using hlen
    have g0 := hf 0 f0 rfl
    have g1 := hf 1 f1 rfl
    rw [o0, c0] at g0
    rw [o1, c1] at g1
    have s0 : xs[0]? = some xs[0] := by simp
    have s1 : xs[1]? = some xs[1] := by simp
    rw [s0] at g0
    rw [s1] at g1
    obtain ⟨st, e0, x0, _⟩ := DataW.trod_string hf0 g0
    obtain ⟨q, e1, x1, _⟩ := DataW.trod_int hf1 g1
    have a0 := one_of e0
    have a1 := one_of e1
    have hval : elems[i].1 = .agg [.lit (.string p.1), .lit (.int .i64 p.2)] := by
      have h3 : (elems.map (·.1))[i]? = some elems[i].1 := by rw [List.getElem?_map, h2]; rfl
      rw [← hx.1.1, List.getElem?_map, hp] at h3
      simpa using h3.symm
    have hxs : xs = [xs[0], xs[1]] := by
      refine List.ext_getElem (by simp [hxl]) (fun j h1 h2 => ?_)
      match j with
      | 0 => rfl
      | 1 => rfl
      | j + 2 => simp only [List.length_cons, List.length_nil] at h2; omega
    rw [hxe, hxs] at hval
    simp only [List.map_cons, List.map_nil, DataW.agg.injEq, List.cons.injEq, x0, x1, DataW.lit.injEq, Lit.string.injEq, Lit.int.injEq, and_true, true_and] at hval
    have hcs : cs' = [.string st, .int .i64 q] := by
      match cs', hcl, a0, a1 with
      | [u, v], _, a0, a1 =>
        simp only [List.getElem?_cons_zero, List.getElem?_cons_succ, Option.some.injEq] at a0 a1
        rw [a0, a1]
    rw [hcs, hval.2] at hc2
    exact ⟨st, hval.1, hc2⟩
  have hblk : a.block < w.heap.size := by
    obtain ⟨p, r, hp⟩ := kids_cons hL
    obtain ⟨s, _, h1⟩ := key 0 p (by rw [hp]; rfl)
    have h2 := h1 0 (by omega)
    rw [Nat.zero_mul, Addr.add, if_pos rfl, Addr.add, if_pos rfl] at h2
    unfold World.cell? at h2
    by_cases hlt : a.block < w.heap.size
    · exact hlt
    · rw [Array.getElem?_eq_none (by omega)] at h2; simp at h2
  refine rp_slice_of (sz := 2) (by simp [hLl]) hlc hblk (by omega) (fun x hx => ?_) (fun q x hx => ?_)
  · obtain ⟨p, _, rfl⟩ := List.mem_map.1 hx
    rfl
  · rw [List.getElem?_map] at hx
    obtain ⟨p, hp, rfl⟩ := Option.map_eq_some_iff.1 hx
    obtain ⟨s, h1, h2⟩ := key q p hp
    refine ⟨_, rfl, h2, fun u hu => ?_, fun r y u hy hu => ?_⟩
    · simp only [List.mem_cons, List.not_mem_nil, or_false] at hu
      rcases hu with rfl | rfl <;> rfl
    · match r with
      | 0 =>
        simp [PV.cells] at hy hu; subst hy hu
        unfold strPV
        have : (⟨p.1.toArray⟩ : ByteArray) = s := by rw [← h1]
        rw [this]; exact .str
      | 1 => simp [PV.cells] at hy hu; subst hy hu; exact .int
      | r + 2 => simp [PV.cells] at hy
end
/-! ### the beginning and the end of a call -/
def g0 (W : World) : Ghost := { B := W.heap.size, K := fun _ => False, S := fun _ _ => False, io := [], lam := [], tb := [] }
theorem inv0 {W : World} {gl : List (Nat × PV)} (h : ∀ n p, (n, p) ∈ gl → RP W.heap.size (fun _ _ => False) W p (.pointer (some ⟨n, 0, none⟩))) : Inv (g0 W) ⟨gl, [], []⟩ [] W := by
  refine ⟨rfl, rfl, rfl, h, List.nodup_nil, fun b hb => (by simp [g0, Ghost.owned] at hb), fun b hb => (by cases hb), Nat.le_refl _, fun b o hS => (by cases hS), fun o ob b ho => (by simp at ho), fun i cs b hL => (by simp at hL), fun k t tb ht => (by simp at ht)⟩
theorem below_of {W W' : World} {σ σ' : Store} {g' : Ghost} (h : Ext (g0 W) σ W g' σ' W') : Below W.heap.size W W' :=
  ⟨h.os, h.tape, h.output, h.size, fun k hk => h.le.keeps.blk k hk⟩

section
variable {H : Type} {enc' : TypeId × Value → H} {P : Program}
theorem post_of_below {f : Func} {s : ChangeSpec} {apart fresh handsOn again : Bool} {W W' : World} {args : Array Value} {v : Value} {ds gs : List (DataW H)} {before pa pv : List MemPlace}
    (hW : DataW.Whole enc' P f.params.toList s.vars apart W args.toList ds gs before)
    (hres : ∀ (b : Nat) (sp : Nat → Bool) (hd : Bool), DataW.TrodAll enc' P W' b sp hd f.resultTypes.toList (v.resultList f.resultTypes.size) (s.fn H (ds ++ gs)).results [])
    (hargs : ∀ sp : Nat → Bool, (∀ p ∈ before, sp p.block = true) → DataW.TrodAll enc' P W' 0 sp true f.params.toList args.toList (s.fn H (ds ++ gs)).args pa)
    (hvars : ∀ sp : Nat → Bool, (∀ p ∈ before, sp p.block = true) → DataW.TrodVars enc' P W' sp s.vars (s.fn H (ds ++ gs)).vars pv)
    (hps : before = pa ++ pv) (hb : Below W.heap.size W W')
    (hok : ∀ (j : Nat) (t : TypeId) (r : Value), f.resultTypes[j]? = some t → (v.resultList f.resultTypes.size)[j]? = some r → Value.okWide P W' .any 0 t r) :
    s.post enc' P f apart fresh handsOn again W args v W' := by
  have hold : ∀ p ∈ before, (fun b => decide (b < W.heap.size)) p.block = true := fun p hp => by simpa using hW.lt p hp
  refine ⟨ds, gs, before, [], pa, pv, hW, hres _ _ _, hargs _ hold, hvars _ hold, hb.frame _, fun _ => ?_⟩
  have hlt := hW.lt
  obtain ⟨_, _, _, _, _, hz, hn⟩ := hW
  refine ⟨hok, _, _, ([] ++ pa) ++ pv, ⟨[] ++ pa, pv, trodAll_append (hargs _ (fun _ _ => rfl)) (hres _ _ _), hvars _ (fun _ _ => rfl), rfl, ?_, ?_⟩, ?_⟩
  · intro b off hp
    have hp' : MemPlace.cell b off ∈ before := by rw [hps]; simpa using hp
    have hl := hlt _ hp'
    rw [hb.frozen (p := ⟨b, off, none⟩) hl]
    exact hz b off hp'
  · intro ha
    have := hn ha
    rw [hps] at this
    simpa using this
  · intro p hp _
    rw [hps]
    simpa using hp
end
end Go.Aw

/- The laid tables of the packages node and prim. No program is named. -/
namespace Go.Aw
open Go
def resNames : List (List UInt8) := [[99, 97, 108, 108], [102, 110], [105, 102], [108, 101, 116], [113, 117, 111, 116, 101], [114, 101, 99], [115, 101, 113], [117, 112]]
def primNames : List (List UInt8 × Int) := primL.map fun p => (p.1.data.toList, p.2)
theorem kfind_any (x : PV) : ∀ ks : List PV, (kfind x ks).isSome = ks.any fun k => x.keq k
  | [] => rfl
  | k :: r => by
    rw [kfind, List.any_cons]
    cases x.keq k with
    | true => rfl
    | false => simp only [Bool.false_eq_true, if_false, Option.isSome_map, Bool.false_or]; exact kfind_any x r
theorem any_mem {α : Type} {l r : List α} (h : ∀ y, y ∈ l ↔ y ∈ r) (f : α → Bool) : l.any f = r.any f := by
  rw [Bool.eq_iff_iff, List.any_eq_true, List.any_eq_true]
  constructor
  · rintro ⟨y, h1, h2⟩; exact ⟨y, (h y).1 h1, h2⟩
  · rintro ⟨y, h1, h2⟩; exact ⟨y, (h y).2 h1, h2⟩
theorem resNames_mem (y : PV) : y ∈ resNames.map strPV ↔ y ∈ resK := by
  simp only [resNames, resK, strPV, List.map_cons, List.map_nil, List.mem_cons, List.not_mem_nil, or_false]
  constructor
  · rintro (rfl | rfl | rfl | rfl | rfl | rfl | rfl | rfl) <;> simp
  · rintro (rfl | rfl | rfl | rfl | rfl | rfl | rfl | rfl) <;> simp
def resO (l : List (List UInt8)) (h : l.Perm resNames) : ResO where
  l := l.map strPV
  len := by rw [List.length_map, h.length_eq]; rfl
  fit := by simp [strPV, KS.fits, KA.fits]
  find := fun x => by
    rw [kfind_any]
    unfold isRes
    rw [kfind_any]
    exact any_mem (fun y => by rw [← resNames_mem y, List.mem_map, List.mem_map]; constructor <;> (rintro ⟨s, h1, h2⟩; exact ⟨s, by first | exact h.mem_iff.1 h1 | exact h.mem_iff.2 h1, h2⟩)) _
theorem resV_of {l : List (List UInt8)} (h : l.Perm resNames) : (l.map fun _ => PV.bool true) = resV := by
  have hl : l.length = 8 := h.length_eq
  match l, hl with
  | [_, _, _, _, _, _, _, _], _ => rfl
theorem primV_of : (primNames.map fun p => PV.agg [strPV p.1, .int .i64 p.2]) = primL.map encPrim := by
  unfold primNames
  rw [List.map_map]
  refine List.map_congr_left fun p _ => ?_
  simp [strPV, encPrim]
/-- A variable of one cell. -/
theorem rp_var {B : Nat} {S : Nat → Nat → Prop} {w : World} {n : Nat} {p : PV} {v : Value} (hn : n < B) (hc : w.cell? ⟨n, 0, none⟩ = some v) (h1 : v.oneCell' = true) (hp : RP B S w p v) : RP B S w (.ptr [p]) (.pointer (some ⟨n, 0, none⟩)) := by
  refine RP.ptr (vs := [v]) rfl (fun i u hu => ?_) (fun i x u hx hu => ?_)
  · match i with
    | 0 => simp at hu; subst hu; exact ⟨.inl hn, by simpa using hc, h1⟩
    | i + 1 => simp at hu
  · match i with
    | 0 => simp at hx hu; subst hx hu; exact hp
    | i + 1 => simp at hx
theorem cell_lt {w : World} {n i : Nat} {v : Value} (h : w.cell? ⟨n, i, none⟩ = some v) : n < w.heap.size := by
  unfold World.cell? at h
  by_cases hlt : n < w.heap.size
  · exact hlt
  · rw [Array.getElem?_eq_none (by show w.heap.size ≤ n; omega)] at h; simp at h
/-- A datum that is handed over. -/
theorem open_agg {v : Value} {k n : Int} {t : ByteArray} {u : Value} (h : v.cells.toList = [.int .i64 k, .int .i64 n, .string t, u]) : v = .agg #[.int .i64 k, .int .i64 n, .string t, u] := by
  cases v with
  | agg cs => simp only [Value.cells] at h; rw [← Array.toArray_toList (xs := cs), h]
  | _ => simp [Value.cells] at h
theorem rp_datum {B : Nat} {S : Nat → Nat → Prop} {w : World} {d : D} {u : Value} (h1 : u.oneCell' = true) (h : RP B S w (.slice (d.kids.map enc)) u) : RP B S w (enc d) (.agg #[.int .i64 d.kind, .int .i64 d.num, .string d.text, u]) := by
  rw [enc_eq]
  refine RP.agg (vs := [.int .i64 d.kind, .int .i64 d.num, .string d.text, u]) rfl (fun v hv => ?_) (fun i x v hx hv => ?_)
  · simp only [List.mem_cons, List.not_mem_nil, or_false] at hv
    rcases hv with rfl | rfl | rfl | rfl <;> first | rfl | exact h1
  · match i with
    | 0 => simp at hx hv; subst hx hv; exact .int
    | 1 => simp at hx hv; subst hx hv; exact .int
    | 2 => simp at hx hv; subst hx hv; exact .str
    | 3 => simp at hx hv; subst hx hv; exact h
    | i + 4 => simp at hx
end Go.Aw

/- Lists of data, from the row's reading of memory to abstract values. No program is named. -/
namespace Go.Aw
open Go Go.ChangeShapes Go.WideShapes Go.ChangeAt Go.WideMaps Go.WideElems Go.RowKit
section
variable {H : Type} {enc' : TypeId × Value → H} {P : Program} {w : World} {base : Nat} {spare : Nat → Bool} {held : Bool} {tD tK ti tn ts : TypeId} {S : Nat → Nat → Prop}
theorem open_intV {k : IntKind} {r : Reach} {b0 : Nat} {t : TypeId} {v : Value} {fuel : Nat} {x : DataW H × List MemPlace} (ht : P.underlying t = some (.int k)) (hok : Value.okWide P w r b0 t v) (h : DataW.trod enc' P w base spare held fuel t v.cells.toList = some x) : ∃ n, v = .int k n ∧ (Lit.int k n).wf = true := by
  obtain ⟨n, rfl⟩ := okWide_int ht hok
  obtain ⟨m, h1, _, h2⟩ := DataW.trod_int ht h
  have : n = m := by simpa [Value.cells] using h1
  subst this
  exact ⟨n, rfl, h2⟩
theorem wf_u16 {n : Int} (h : (Lit.int .u16 n).wf = true) : 0 ≤ n ∧ n ≤ 65535 := by
  simp only [Lit.wf, Bool.and_eq_true, decide_eq_true_eq] at h
  exact h
end
end Go.Aw
