/- Part of the proof that the statement holds for every input that its row lets in: an own logic of abstract values over the given model, and laws of data and programs; no program is named in it. -/
import Derived.Test.YtigideidmcmfbaaGreatDoorZA3
import Derived.Laws.MakeOwn
import Derived.ProofKit
import Derived.LaidMore
import Derived.OpenShut
import Derived.Stop.Joined
import Derived.StringKeys
import Derived.Shelf.SlIter.Sorted
import Derived.Shelf.SlIter.Keys
import Derived.Shelf.SortM.Plain
import Derived.Shelf.SortM.SortNone
import Derived.Test.YtigideidmcmfbaaGreatDoorZA2
set_option linter.unusedSimpArgs false
set_option linter.unusedVariables false
namespace Go.Aw
open Go
section
variable {ρ : Option Nat} {P : Program} {ty : TyT} {σ0 : Store} {N : Nat} {s : St} {o : Oper} {os : List Oper} {ops : Array Oper} {next : St → Prop} {K : St → Prop}
theorem flat_replicate {p : PV} (hp : p.cells = [p]) (n : Nat) : flat (List.replicate n p) = List.replicate n p := by
 induction n with
 | zero => rfl
 | succ n ih =>
  rw [List.replicate_succ, show p :: List.replicate n p = [p] ++ List.replicate n p from rfl, flat_append, ih]
  simp [flat, hp]
theorem rp_int {B : Nat} {S : Nat → Nat → Prop} {w : World} {k : IntKind} {x : Int} {v : Value} (h : RP B S w (.int k x) v) : v = .int k x := by cases h; rfl
theorem rp_nilp {B : Nat} {S : Nat → Nat → Prop} {w : World} {v : Value} (h : RP B S w .nilp v) : v = .pointer none := by cases h; rfl
theorem rp_ptr {B : Nat} {S : Nat → Nat → Prop} {w : World} {v : Value} {ps : List PV} (h : RP B S w (.ptr ps) v) : ∃ ad, v = .pointer (some ad) := by cases h; exact ⟨_, rfl⟩
theorem eqGuard_ptr (op : BinOp) (t : TypeId) (p q : Operand) (a b : Option Addr) {P : Program} {w : World} : (eqGuard op t p q (.pointer a) (.pointer b)).run P w = .ok () w := by
 cases op <;> rfl
theorem aop_makeSlice (hty : TyOk P ty) {t e : TypeId} {ti te : TyI} {l c : Operand} {n : Nat} {p : PV} (ho : o.op = .makeSlice t l c) (hti : ty t = some ti) (hk : ti.kind = .slice e) (hte : ty e = some te) (hz : te.zero = [p]) (hp : p.cells = [p])
  (hl : ev s l = .pv (.int .i64 (n : Int))) (hc : ev s c = .pv (.int .i64 (n : Int))) (hb : te.bytes ≤ 1000) (hbig : n ≤ 1000000000) (hd : dstOk N o.dst = true) (hn : next (s.put o.dst (.full (List.replicate n p)))) : AOp P σ0 N o next s := by
 rintro g0 w0 a w nx Q ⟨g, r⟩ hnx
 obtain ⟨i, z, h7, h8, h9, h10, h11, h12, h13⟩ := (hty _ _ hte).info
 have hl' : a.eval l = .int .i64 (n : Int) := by have := r.ev l; rw [hl] at this; exact rp_int this.pv_inv
 have hc' : a.eval c = .int .i64 (n : Int) := by have := r.ev c; rw [hc] at this; exact rp_int this.pv_inv
 have hsz : te.size = 1 := by
  have := (rcells_const (g := g) (tk := s.σ.toks) (w := w) h11).len
  rw [hz] at this
  rw [← h12, ← Array.length_toList, this]; rfl
 have hbytes : (i.bytes : Int) * (n : Int) ≤ 281474976710656 := by
  rw [h9]
  have h1 : te.bytes * n ≤ 1000 * 1000000000 := Nat.mul_le_mul hb hbig
  have h2 : ((te.bytes * n : Nat) : Int) ≤ 1000 * 1000000000 := by omega
  rw [Int.natCast_mul] at h2
  omega
 have hrun := run_make (P := P) w t e i z ((hty _ _ hti).slice hk) h7 h10 .i64 .i64 n n (by omega) (Int.le_refl _) hbytes (by omega)
 simp only [Int.toNat_natCast, h8, hsz, Nat.mul_one] at hrun
 have hzc : RCells g s.σ.toks w (te.zero.map .pv) z.cells.toList := rcells_const h11
 obtain ⟨v0, hv0⟩ : ∃ v, z.cells = #[v] := by
  have : z.cells.size = 1 := by rw [h12, hsz]
  exact Array.size_eq_one_iff.1 this
 have hmk : madeCells z.cells n = (List.replicate n v0).toArray := by
  apply Array.ext'
  unfold madeCells
  rw [hv0]
  apply List.ext_getElem?
  intro j
  by_cases hj : j < n
  ·simp [hj, Nat.mod_one]
  ·simp [hj]
 rw [hmk] at hrun
 rw [hz, hv0] at hzc
 have hra0 : RA g s.σ.toks w (.pv p) v0 := hzc.all 0 _ _ rfl rfl
 have hone0 : v0.oneCell' = true := hzc.one _ (by simp)
 obtain ⟨r1, f⟩ := r.alloc (.cells (List.replicate n v0).toArray e)
 have r2 := r1.addS f fun _ => True
 unfold opW
 have : (execOp a.eval o).run P w = .ok (.value (.slice (some ⟨w.heap.size, 0, none⟩) n n)) (w.alloc (.cells (List.replicate n v0).toArray e)) := by
  simp only [execOp, ho, Sem.run_bind, hl', hc', hrun, Result.andThen_ok, Sem.run_pure]
 rw [this]
 refine hnx _ _ _ hn ⟨_, r2.put (.full ?_) hd⟩
 have hfl := flat_replicate hp n
 have hln : (List.replicate n p).length = n := by simp
 have hv : Value.slice (some ⟨w.heap.size, 0, none⟩) n n = Value.slice (some ⟨w.heap.size, 0, none⟩) (List.replicate n p).length n := by rw [hln]
 rw [hv]
 refine RP.row (us := List.replicate n v0) (rest := []) (sz := 1) (e := e) (fun q hq => by rw [List.eq_of_mem_replicate hq, hp]; rfl) (fun j x v hx hv => ?_) (by rw [hfl]; simp) (fun u hu => by rw [List.eq_of_mem_replicate hu]; exact hone0) (by rw [heap_alloc_at]; simp) (fun o _ => .inr ⟨rfl, trivial⟩) (Nat.le_of_eq hln)
 rw [hfl] at hx
 simp only [List.getElem?_replicate] at hx hv
 split at hx
 ·rename_i hj
  rw [if_pos hj] at hv
  cases hx; cases hv
  have hra := hra0.alloc r.2.1 (.cells (List.replicate n v0).toArray e)
  have := (r1.2.1.addS f fun _ => True).2
  exact (hra.mono this (fun _ _ h => h)).pv_inv
 ·cases hx
theorem equal_ptr_nil {t e : TypeId} {w : World} (hu : P.underlying t = some (.pointer e)) (a : Option Addr) : (Op.equal t (.pointer a) (.pointer none)).run P w = .ok a.isNone w := by
 have hd : Op.maxDepth = 9999 + 1 := rfl
 rw [Op.equal, hd, Op.equalIn, Sem.run_bind, run_underlying hu, Result.andThen_ok]
 cases a <;> rfl
/-- A pointer against nil. -/
theorem aop_ptrNe (hty : TyOk P ty) {t e : TypeId} {ti : TyI} {x y : Operand} {yt : TypeId} (b : Bool) (ho : o.op = .binOp .neq t x y yt) (hti : ty t = some ti) (hk : ti.kind = .ptr e)
  (hx : (ev s x = .pv .nilp ∧ b = false) ∨ ∃ ps, ev s x = .pv (.ptr ps) ∧ b = true) (hy : ev s y = .pv .nilp) (hd : dstOk N o.dst = true) (hn : next (s.put o.dst (.pv (.bool b)))) : AOp P σ0 N o next s := by
 rintro g0 w0 a w nx Q ⟨g, r⟩ hnx
 have hu : P.underlying t = some (.pointer e) := by
  obtain ⟨d, h1, h2⟩ := (hty _ _ hti).und
  rw [hk] at h2
  cases d <;> simp at h2
  subst h2; exact h1
 have hx' : ∃ ad, a.eval x = .pointer ad ∧ (!ad.isNone) = b := by
  have h := r.ev x
  rcases hx with ⟨hx, rfl⟩ | ⟨ps, hx, rfl⟩ <;> rw [hx] at h
  ·exact ⟨none, rp_nilp h.pv_inv, rfl⟩
  ·obtain ⟨ad, h1⟩ := rp_ptr h.pv_inv; exact ⟨some ad, h1, rfl⟩
 obtain ⟨ad, hx1, hx2⟩ := hx'
 have hy' : a.eval y = .pointer none := by have h := r.ev y; rw [hy] at h; exact rp_nilp h.pv_inv
 have hrun : (execOp a.eval o).run P w = .ok (.value (.bool b)) w := by
  simp only [execOp, ho, hx1, hy', Sem.run_bind, eqGuard_ptr, Result.andThen_ok, binOp, equal_ptr_nil hu, Sem.run_pure, hx2]
 unfold opW
 rw [hrun]
 exact hnx _ _ _ hn ⟨g, r.put (.pv .bool) hd⟩
theorem al_makeSlice (hty : TyOk P ty) {t e : TypeId} {ti te : TyI} {l c : Operand} {n : Nat} {p : PV} (hg : o.guard = none) (ho : o.op = .makeSlice t l c) (hti : ty t = some ti) (hk : ti.kind = .slice e) (hte : ty e = some te) (hz : te.zero = [p]) (hp : p.cells = [p])
  (hl : ev s l = .pv (.int .i64 (n : Int))) (hc : ev s c = .pv (.int .i64 (n : Int))) (hb : te.bytes ≤ 1000) (hbig : n ≤ 1000000000) (hd : dstOk N o.dst = true) (k : AOpsL P σ0 N ops os K (s.put o.dst (.full (List.replicate n p)))) : AOpsL P σ0 N ops (o :: os) K s :=
 al_cons hg (aop_makeSlice hty ho hti hk hte hz hp hl hc hb hbig hd k)
theorem al_ptrNe (hty : TyOk P ty) {t e : TypeId} {ti : TyI} {x y : Operand} {yt : TypeId} (b : Bool) (hg : o.guard = none) (ho : o.op = .binOp .neq t x y yt) (hti : ty t = some ti) (hk : ti.kind = .ptr e)
  (hx : (ev s x = .pv .nilp ∧ b = false) ∨ ∃ ps, ev s x = .pv (.ptr ps) ∧ b = true) (hy : ev s y = .pv .nilp) (hd : dstOk N o.dst = true) (k : AOpsL P σ0 N ops os K (s.put o.dst (.pv (.bool b)))) : AOpsL P σ0 N ops (o :: os) K s :=
 al_cons hg (aop_ptrNe hty b ho hti hk hx hy hd k)
end
end Go.Aw

namespace Go.Aw
open Go
section
variable {ρ : Option Nat} {P : Program} {σ0 : Store} {N : Nat} {s : St} {Q : Exit → St → Prop}
/-- The box at ob, and what was laid behind it, are no longer told; the pointer to it reads as its cells. -/
theorem awp_freezeP {c : Code} (d : Nat) {s2 : St} {ob : Nat} {ps : List PV} (hx : get s.T d = .ptr ob 0) (hob : s.σ.objs[ob]? = some (.box (ps.map .pv))) (hw : Weak σ0 ob s.σ.toks.length s.L.length s s2)
  (k : AWpR ρ P σ0 N c Q { s2 with T := (d, .pv (.ptr ps)) :: s2.T }) : AWpR ρ P σ0 N c Q s := by
 rintro g0 w0 a w ⟨g, r⟩
 have r2 := hw.rel r
 have hpr := r.2.2.2.2 d
 rw [hx] at hpr
 generalize hpv : a.tmps.getD d undef = pv at hpr
 cases hpr with
 | ptr hio =>
  rename_i b
  obtain ⟨hnl, vs, e, h6, h7, h8, h9⟩ := r.2.1.objs ob _ b hob hio
  have hlow := r.2.1.low b (mem_io hio)
  have ap := r.2.1.apart
  have hfr : Fresh (g.cut ob s.σ.toks.length s.L.length) w b := by
   refine ⟨hlow.1, hlow.2.1, hlow.2.2, fun o hS => (r.2.1.cells b o hS).2.2.1 (List.mem_of_getElem? hio), ?_⟩
   intro hm
   simp only [Ghost.owned, Ghost.cut, List.mem_append] at hm
   rcases hm with (hm | hm) | hm
   ·obtain ⟨q, hq, hqe⟩ := List.getElem_of_mem hm
    have hq2 : q < ob := by rw [List.length_take] at hq; omega
    have : g.io[q]? = some b := by
     rw [List.getElem_take] at hqe
     rw [← hqe]; simp
    have := nodup_get ap.1.1 this hio
    omega
   ·exact ap.2.1 b (List.mem_of_getElem? hio) (List.mem_of_mem_take hm)
   ·obtain ⟨tb, htb, hte⟩ := List.mem_filterMap.1 hm
    cases tb with
    | none => cases hte
    | some tb =>
     simp only [Option.map_some, Option.some.injEq] at hte
     obtain ⟨kk, hkk, hke⟩ := List.getElem_of_mem (List.mem_of_mem_take htb)
     have := (ap.2.2 kk tb (by rw [← hke]; simp)).1
     rw [hte] at this
     exact this (List.mem_of_getElem? hio)
  have r3 := r2.addS hfr (fun o => o < ps.length)
  refine k g0 w0 a w ⟨_, r3.1, r3.2.1, r3.2.2.1, r3.2.2.2.1, fun t => ?_⟩
  simp only [get]
  split
  ·subst_vars
   rw [hpv]
   have hle : Keeps g.B g.S (fun c o => g.S c o ∨ (c = b ∧ o < ps.length)) w w := ⟨fun _ _ h => .inl h, fun _ _ _ => rfl, fun _ _ => rfl⟩
   have hpl : vs.length = ps.length := by simpa using h7
   refine .pv (RP.ptr (vs := vs) hpl (fun i v hv => ?_) (fun i x v hx hv => ?_))
   ·refine ⟨.inr (.inr ⟨rfl, by have := (List.getElem?_eq_some_iff.1 hv).1; omega⟩), ?_, h8 v (List.mem_of_getElem? hv)⟩
    rw [cell_of_heap h6, List.getElem?_toArray, Nat.zero_add]
    exact hv
   ·exact (h9 i (.pv x) v (by rw [List.getElem?_map, hx]; rfl) hv).pv_inv.mono hle
  ·exact r3.2.2.2.2 t
/-- The same: these slots are kept. -/
theorem awp_freezePK {c : Code} (d : Nat) (keep : List Nat) (σ' : Store) {ob : Nat} {ps : List PV} (hx : get s.T d = .ptr ob 0) (hob : s.σ.objs[ob]? = some (.box (ps.map .pv))) (hσ : σ' = s.σ.cut ob s.σ.toks.length) (h0 : σ0.objs.length ≤ ob) (ht : σ0.toks.length ≤ s.σ.toks.length)
  (hT : ∀ p, p ∈ (keep.map fun t => (t, get s.T t)) → WV ob s.σ.toks.length s.L.length (get s.T p.1) p.2) (co : ∀ ob', ob' ∈ σ'.objs → ob' ∈ σ0.objs ∨ ob'.clo ob s.σ.toks.length s.L.length = true) (cL : ∀ cs, cs ∈ s.L → AV.clos ob s.σ.toks.length s.L.length cs = true)
  (k : AWpR ρ P σ0 N c Q ⟨(d, .pv (.ptr ps)) :: keep.map fun t => (t, get s.T t), s.L, σ'⟩) : AWpR ρ P σ0 N c Q s :=
 awp_freezeP d (s2 := ⟨keep.map fun t => (t, get s.T t), s.L, σ'⟩) hx hob ⟨hσ, by simp, h0, ht, hT, co, cL⟩ k
end
end Go.Aw

namespace Go.Aw
open Go
/-- A scope: the names, the nearest first. -/
def encSc : List ByteArray → PV
  | [] => .nilp
  | n :: r => .ptr [.str n, .bool false, encSc r]
theorem encSc_at {l : List ByteArray} {k : Nat} {x : ByteArray} (h : l[k]? = some x) : encSc (l.drop k) = .ptr [.str x, .bool false, encSc (l.drop (k + 1))] := by
  obtain ⟨hk, rfl⟩ := List.getElem?_eq_some_iff.1 h
  rw [List.drop_eq_getElem_cons hk]; rfl
theorem encSc_ne (l : List ByteArray) (k : Nat) : (AV.pv (encSc (l.drop k)) = .pv .nilp ∧ decide (k < l.length) = false) ∨ ∃ ps, AV.pv (encSc (l.drop k)) = .pv (.ptr ps) ∧ decide (k < l.length) = true := by
  by_cases h : k < l.length
  · refine .inr ⟨_, congrArg AV.pv (encSc_at (x := l[k]) (by simp [h])), by simpa using h⟩
  · refine .inl ⟨?_, by simpa using h⟩
    rw [List.drop_of_length_le (by omega)]; rfl
@[go_sem] theorem encSc_cells (l : List ByteArray) : (AV.pv (encSc l)).cells = some [.pv (encSc l)] := by cases l <;> rfl
@[go_sem] theorem encSc_nrm (l : List ByteArray) : PV.nrm (encSc l) = encSc l := by cases l <;> rfl
theorem memB_any (l : List ByteArray) (x : ByteArray) : memB l x = l.any fun y => decide (y = x) := by
  unfold memB
  congr 1
  funext y
  rw [decide_eq_decide]; exact eq_comm
theorem encSc_with {ns l : List ByteArray} {k : Nat} {x : ByteArray} (h : ns[k]? = some x) : PV.ptr [.str x, .bool false, encSc ((ns.take k).reverse ++ l)] = encSc ((ns.take (k + 1)).reverse ++ l) := by
  rw [take_next h, List.reverse_append]; rfl
theorem rep_get {n k : Nat} {p : PV} (h : k < n) : (List.replicate n p)[k]? = some p := by simp [h]
/-- The names free in the first parts, added to others. -/
def frd (d : D) (l S : List ByteArray) (k : Nat) : List ByteArray := ((subs d).take k).foldl (fun S q => sfree q.2 (q.1.ns.map (·.1) ++ l) S) S
theorem frd_next {d : D} {l S : List ByteArray} {k : Nat} {q : Sub × D} (h : (subs d)[k]? = some q) : frd d l S (k + 1) = sfree q.2 (q.1.ns.map (·.1) ++ l) (frd d l S k) := by
  unfold frd
  rw [take_next h, List.foldl_append]; rfl
theorem frd_all {d : D} {l S : List ByteArray} (h : synKind d ≠ 2) : frd d l S (subs d).length = sfree d l S := by
  unfold frd
  rw [List.take_length, sfree_eq, if_neg (by simpa using h)]
theorem sfree_name {d : D} {l S : List ByteArray} (h : synKind d = 2) : sfree d l S = if memB l d.text = true then S else addS S d.text := by
  rw [sfree_eq, if_pos (by simpa using h)]
theorem ownS_len (d : D) : (ownS d).length ≤ d.size := by
  have h1 := D.kids_length_lt (d1 d.kids)
  by_cases h : 1 < d.kids.length
  · have h2 : (d1 d.kids).size < d.size := D.size_kid_lt (getD_mem (n := 1) h)
    unfold ownS
    split
    · simp; omega
    · split
      · simp; omega
      · split
        · simp; omega
        · split
          · simp; omega
          · simp
  · have h2 : d1 d.kids = dnone := by
      show d.kids.getD 1 dnone = dnone
      rw [List.getD_eq_getElem?_getD, List.getElem?_eq_none (by omega)]; rfl
    have := D.size_pos d
    unfold ownS
    rw [h2]
    split
    · simp [dnone, D.kids]
    · split
      · simp [dnone, D.kids]
      · split
        · simp; omega
        · split
          · simp [dnone, D.kids]
          · simp
theorem subs_ns {d : D} (h : synKind d = 4 ∨ synKind d = 8 ∨ synKind d = 10) {q : Sub × D} (hq : q ∈ subs d) : q.1.ns = [] := by
  rcases h with h | h | h
  · rw [subs_of_rest (.inl h)] at hq; obtain ⟨i, x, hx, rfl⟩ := mapI_mem hq; rfl
  · rw [subs_of_rest (.inr h)] at hq; obtain ⟨i, x, hx, rfl⟩ := mapI_mem hq; rfl
  · rw [subs_of_app h] at hq; obtain ⟨i, x, hx, rfl⟩ := mapI_mem hq; rfl
theorem subs_ns2 {d : D} (h : synKind d ≠ 5 ∧ synKind d ≠ 9 ∧ synKind d ≠ 6 ∧ synKind d ≠ 7) {q : Sub × D} (hq : q ∈ subs d) : q.1.ns = [] := by
  by_cases h4 : synKind d = 4 ∨ synKind d = 8 ∨ synKind d = 10
  · exact subs_ns h4 hq
  · have hs : subs d = [] := subs_of_none (by cases shape d <;> omega)
    rw [hs] at hq; simp at hq
theorem subs_rec_at {d : D} (h : synKind d = 7) {i : Nat} {x : D} (hx : (d1 d.kids).kids[i]? = some x) : (subs d)[i]? = some (subR d i x) := by
  rw [subs_of_rec h, List.getElem?_append_left (by rw [mapI_length]; exact (List.getElem?_eq_some_iff.1 hx).1), mapI_get, hx]; rfl
theorem subs_rec_last {d : D} (h : synKind d = 7) : (subs d)[(d1 d.kids).kids.length]? = some (subL d 2 (d2 d.kids)) ∧ (subs d).length = (d1 d.kids).kids.length + 1 := by
  rw [subs_of_rec h]
  refine ⟨?_, by rw [List.length_append, mapI_length]; rfl⟩
  rw [List.getElem?_append_right (by rw [mapI_length]; omega), mapI_length]; simp
@[go_sem] theorem wPV_cell (p : List Int) : (AV.pv (wPV p)).cells = some [.pv (wPV p)] := by unfold wPV; split <;> rfl
@[go_sem] theorem wa_lptr {i a j b : Nat} : WA (.lptr i a) (.lptr j b) ↔ i = j ∧ a = b := ⟨fun h => by cases h with | same => exact ⟨rfl, rfl⟩, fun ⟨h1, h2⟩ => by subst h1 h2; exact .same⟩
theorem setS_cut2 {σ : Store} {B : List AObj} {om : Nat} {S : List ByteArray} (h : om < σ.objs.length) : (setS ⟨σ.gl, σ.objs ++ B, σ.toks⟩ om S).cut σ.objs.length σ.toks.length = setS σ om S := by
  unfold setS Store.cut
  simp [List.set_append_left _ _ h]
theorem setAt_of {P : Program} {f : FuncId} {args : List AV} {σ : Store} {om : Nat} {S : List ByteArray} (h : ACalls P f args σ fun r σ' => r = .tuple [] ∧ σ'.cut σ.objs.length σ.toks.length = setS σ om S) : ACalls P f args σ fun r σ' => r = .tuple [] ∧ σ' = setS σ om S := by
  refine h.less fun r σ' ⟨h1, h2⟩ => ⟨_, _, .tuple [], by subst h1; simp [go_sem], Nat.le_refl _, Nat.le_refl _, fun ob hob => ?_, rfl, h2⟩
  have : σ'.objs.take σ.objs.length = (setS σ om S).objs := congrArg Store.objs h2
  rw [this] at hob
  exact setS_mem hob
theorem mapAt_of {P : Program} {f : FuncId} {args : List AV} {σ : Store} {ks vs : List PV} (h : ACalls P f args σ fun r σ' => r = .map σ.objs.length ∧ σ'.cut (σ.objs.length + 1) σ.toks.length = { σ with objs := σ.objs ++ [.map ks vs] }) : ACalls P f args σ fun r σ' => r = .map σ.objs.length ∧ σ' = { σ with objs := σ.objs ++ [.map ks vs] } := by
  refine h.less fun r σ' ⟨h1, h2⟩ => ⟨σ.objs.length + 1, σ.toks.length, .map σ.objs.length, by subst h1; simp [go_sem], by omega, Nat.le_refl _, fun ob hob => ?_, rfl, h2⟩
  have : σ'.objs.take (σ.objs.length + 1) = σ.objs ++ [.map ks vs] := congrArg Store.objs h2
  rw [this, List.mem_append, List.mem_singleton] at hob
  rcases hob with hob | rfl
  · exact .inl hob
  · exact .inr rfl
theorem setS_ne {σ : Store} {om i : Nat} {S : List ByteArray} (h : om ≠ i) : (setS σ om S).objs[i]? = σ.objs[i]? := by
  unfold setS; exact List.getElem?_set_ne h
theorem get_app5 {l : List AObj} {a b c d e : AObj} : (l ++ [a, b, c, d, e])[l.length + 4]? = some e := by simp
/-- A round's end: the record is as it was. -/
theorem setS_rec {X : Store} {om r : Nat} {S : List ByteArray} {a b : AObj} (h : om ≠ r) (ha : X.objs[r]? = some a) : { setS { X with objs := X.objs.set r b } om S with objs := ((setS { X with objs := X.objs.set r b } om S).objs).set r a } = setS X om S := by
  unfold setS
  have e : ((X.objs.set r b).set om (.map (tK S) (tV S))).set r a = X.objs.set om (.map (tK S) (tV S)) := by
   rw [List.set_comm _ _ (Ne.symm h), List.set_set, List.set_comm _ _ h]
   congr 1
   exact set_self ha
  show (⟨X.gl, ((X.objs.set r b).set om (.map (tK S) (tV S))).set r a, X.toks⟩ : Store) = ⟨X.gl, X.objs.set om (.map (tK S) (tV S)), X.toks⟩
  rw [e]
end Go.Aw

namespace Go.Aw
open Go
/-! ### several objects at once -/
def setAll : List AObj → List (Nat × AObj) → List AObj
 | l, [] => l
 | l, q :: r => setAll (l.set q.1 q.2) r
theorem setAll_length : ∀ (U : List (Nat × AObj)) (l : List AObj), (setAll l U).length = l.length
 | [], l => rfl
 | q :: r, l => by simp [setAll, setAll_length r]
theorem setAll_out {i : Nat} : ∀ {U : List (Nat × AObj)} {l : List AObj}, i ∉ U.map (·.1) → (setAll l U)[i]? = l[i]?
 | [], l, _ => rfl
 | q :: r, l, h => by
  simp only [List.map_cons, List.mem_cons, not_or] at h
  rw [setAll, setAll_out h.2, List.getElem?_set_ne (fun e => h.1 e.symm)]
theorem setAll_in {q : Nat × AObj} : ∀ {U : List (Nat × AObj)} {l : List AObj}, (U.map (·.1)).Nodup → q ∈ U → q.1 < l.length → (setAll l U)[q.1]? = some q.2
 | [], l, _, h, _ => by simp at h
 | x :: r, l, hn, h, hl => by
  simp only [List.map_cons, List.nodup_cons] at hn
  rcases List.mem_cons.1 h with rfl | h
  ·rw [setAll, setAll_out hn.1, List.getElem?_set_self hl]
  ·rw [setAll]; exact setAll_in hn.2 h (by simpa using hl)
theorem setAll_app : ∀ {U : List (Nat × AObj)} {l B : List AObj}, (∀ q, q ∈ U → q.1 < l.length) → setAll (l ++ B) U = setAll l U ++ B
 | [], l, B, _ => rfl
 | q :: r, l, B, h => by
  rw [setAll, setAll, List.set_append_left _ _ (h q (by simp)), setAll_app (fun x hx => by simpa using h x (by simp [hx]))]
theorem setAll_self : ∀ {U : List (Nat × AObj)} {l : List AObj}, (∀ q, q ∈ U → l[q.1]? = some q.2) → setAll l U = l
 | [], l, _ => rfl
 | q :: r, l, h => by
  have e : l.set q.1 q.2 = l := by
   apply List.ext_getElem?
   intro j
   rw [List.getElem?_set]
   split
   ·subst_vars
    rw [h q (by simp)]; simp [(List.getElem?_eq_some_iff.1 (h q (by simp))).1]
   ·rfl
  rw [setAll, e]
  exact setAll_self fun x hx => h x (by simp [hx])
theorem setAll_ext {l m : List AObj} {U : List (Nat × AObj)} (hn : (U.map (·.1)).Nodup) (hl : l.length = m.length) (hu : ∀ q, q ∈ U → m[q.1]? = some q.2) (ho : ∀ i, i ∉ U.map (·.1) → l[i]? = m[i]?) : setAll l U = m := by
 apply List.ext_getElem?
 intro i
 by_cases hi : i ∈ U.map (·.1)
 ·obtain ⟨q, hq, rfl⟩ := List.mem_map.1 hi
  have := hu q hq
  rw [this, setAll_in hn hq (by rw [hl]; exact (List.getElem?_eq_some_iff.1 this).1)]
 ·rw [setAll_out hi, ho i hi]
theorem setAll_setAll {l : List AObj} {U V : List (Nat × AObj)} (hn : (V.map (·.1)).Nodup) (hs : ∀ i, i ∈ U.map (·.1) → i ∈ V.map (·.1)) : setAll (setAll l U) V = setAll l V := by
 apply List.ext_getElem?
 intro i
 by_cases hi : i ∈ V.map (·.1)
 ·obtain ⟨q, hq, rfl⟩ := List.mem_map.1 hi
  by_cases hlt : q.1 < l.length
  ·rw [setAll_in hn hq (by rw [setAll_length]; exact hlt), setAll_in hn hq hlt]
  ·rw [List.getElem?_eq_none (by simp [setAll_length]; omega), List.getElem?_eq_none (by simp [setAll_length]; omega)]
 ·rw [setAll_out hi, setAll_out hi, setAll_out (fun h => hi (hs i h))]
theorem setAll_mem {ob : AObj} : ∀ {U : List (Nat × AObj)} {l : List AObj}, ob ∈ setAll l U → ob ∈ l ∨ ∃ q, q ∈ U ∧ ob = q.2
 | [], l, h => .inl h
 | q :: r, l, h => by
  rcases setAll_mem (U := r) h with h | ⟨x, hx, e⟩
  ·rcases List.mem_or_eq_of_mem_set h with h | h
   ·exact .inl h
   ·exact .inr ⟨q, by simp, h⟩
  ·exact .inr ⟨x, by simp [hx], e⟩
/-- The store in which these objects are these. -/
def updS (σ : Store) (U : List (Nat × AObj)) : Store := { σ with objs := setAll σ.objs U }
/-- These objects are these. -/
def HasU (σ : Store) (U : List (Nat × AObj)) : Prop := ∀ q, q ∈ U → σ.objs[q.1]? = some q.2
theorem updS_self {σ : Store} {U : List (Nat × AObj)} (h : HasU σ U) : updS σ U = σ := by unfold updS; rw [setAll_self h]
theorem updS_has {σ : Store} {U : List (Nat × AObj)} (hn : (U.map (·.1)).Nodup) (hl : ∀ q, q ∈ U → q.1 < σ.objs.length) : HasU (updS σ U) U := fun q hq => setAll_in hn hq (hl q hq)
theorem updS_upd {σ : Store} {U V : List (Nat × AObj)} (hn : (V.map (·.1)).Nodup) (hs : ∀ i, i ∈ U.map (·.1) → i ∈ V.map (·.1)) : updS (updS σ U) V = updS σ V := by
 unfold updS; simp only; rw [setAll_setAll hn hs]
theorem HasU.lt {σ : Store} {U : List (Nat × AObj)} (h : HasU σ U) {q : Nat × AObj} (hq : q ∈ U) : q.1 < σ.objs.length := (List.getElem?_eq_some_iff.1 (h q hq)).1
theorem HasU.app {σ : Store} {U : List (Nat × AObj)} (h : HasU σ U) (B : List AObj) (tk : List Tok) : HasU ⟨σ.gl, σ.objs ++ B, tk⟩ U := fun q hq => by
 show (σ.objs ++ B)[q.1]? = _
 rw [List.getElem?_append_left (h.lt hq)]; exact h q hq
theorem HasU.append {σ : Store} {U V : List (Nat × AObj)} (h : HasU σ U) (k : HasU σ V) : HasU σ (U ++ V) := fun q hq => (List.mem_append.1 hq).elim (h q) (k q)
theorem updS_app {σ : Store} {U : List (Nat × AObj)} {B : List AObj} {tk : List Tok} (hl : ∀ q, q ∈ U → q.1 < σ.objs.length) : updS ⟨σ.gl, σ.objs ++ B, tk⟩ U = ⟨σ.gl, (updS σ U).objs ++ B, tk⟩ := by
 unfold updS; simp only; rw [setAll_app hl]
theorem updS_cut {σ : Store} {U : List (Nat × AObj)} {B : List AObj} {tk : List Tok} (hl : ∀ q, q ∈ U → q.1 < σ.objs.length) (ht : tk.take σ.toks.length = σ.toks) : (updS ⟨σ.gl, σ.objs ++ B, tk⟩ U).cut σ.objs.length σ.toks.length = updS σ U := by
 rw [updS_app hl]
 unfold Store.cut updS
 simp only
 rw [ht, List.take_append_of_le_length (by rw [setAll_length]; exact Nat.le_refl _), List.take_of_length_le (by rw [setAll_length]; exact Nat.le_refl _)]
theorem updS_ne {σ : Store} {U : List (Nat × AObj)} {i : Nat} (h : i ∉ U.map (·.1)) : (updS σ U).objs[i]? = σ.objs[i]? := setAll_out h
theorem updS_gl {σ : Store} {U : List (Nat × AObj)} : (updS σ U).gl = σ.gl := rfl
theorem updS_tk {σ : Store} {U : List (Nat × AObj)} : (updS σ U).toks = σ.toks := rfl
theorem updS_len {σ : Store} {U : List (Nat × AObj)} : (updS σ U).objs.length = σ.objs.length := setAll_length _ _

/-! ### trees -/
inductive AD where
 | mk (kind num : Int) (text : ByteArray) (o : Nat) (kids : List AD)
def AD.kind : AD → Int | .mk k _ _ _ _ => k
def AD.num : AD → Int | .mk _ n _ _ _ => n
def AD.text : AD → ByteArray | .mk _ _ t _ _ => t
def AD.o : AD → Nat | .mk _ _ _ o _ => o
def AD.kids : AD → List AD | .mk _ _ _ _ l => l
mutual
def AD.dat : AD → D
 | .mk k n t _ l => .mk k n t (AD.dats l)
def AD.dats : List AD → List D
 | [] => []
 | a :: l => a.dat :: AD.dats l
end
theorem AD.dats_map : ∀ l : List AD, AD.dats l = l.map AD.dat
 | [] => rfl
 | a :: l => by simp [AD.dats, AD.dats_map l]
theorem AD.dat_kids (t : AD) : t.dat.kids = t.kids.map AD.dat := by cases t; simp [AD.dat, D.kids, AD.kids, AD.dats_map]
theorem AD.dat_text (t : AD) : t.dat.text = t.text := by cases t; rfl
theorem AD.dat_kind (t : AD) : t.dat.kind = t.kind := by cases t; rfl
theorem AD.dat_num (t : AD) : t.dat.num = t.num := by cases t; rfl
/-- A list of parts as a slice. -/
def kvOf (o : Nat) (l : List AD) : AV := match l with | [] => .pv (.slice []) | _ :: _ => .sl o 0 l.length
def AD.kv : AD → AV | .mk _ _ _ o l => kvOf o l
def AD.cells : AD → List AV | .mk k n t o l => [.pv (.int .i64 k), .pv (.int .i64 n), .pv (.str t), kvOf o l]
theorem AD.cells_eq (t : AD) : t.cells = [.pv (.int .i64 t.kind), .pv (.int .i64 t.num), .pv (.str t.text), t.kv] := by cases t; rfl
theorem AD.cells_len (t : AD) : t.cells.length = 4 := by cases t; rfl
def rowOf (o : Nat) (l : List AD) : List (Nat × AObj) := match l with | [] => [] | _ :: _ => [(o, .arr (l.flatMap AD.cells))]
mutual
def AD.arrs : AD → List (Nat × AObj)
 | .mk _ _ _ o l => rowOf o l ++ AD.arrss l
def AD.arrss : List AD → List (Nat × AObj)
 | [] => []
 | a :: l => a.arrs ++ AD.arrss l
end
theorem AD.arrss_flat : ∀ l : List AD, AD.arrss l = l.flatMap AD.arrs
 | [] => rfl
 | a :: l => by simp [AD.arrss, AD.arrss_flat l]
theorem AD.arrs_eq (t : AD) : t.arrs = rowOf t.o t.kids ++ t.kids.flatMap AD.arrs := by cases t; simp [AD.arrs, AD.arrss_flat, AD.o, AD.kids]
theorem AD.ind {p : AD → Prop} (h : ∀ k n t o l, (∀ d, d ∈ l → p d) → p (.mk k n t o l)) : ∀ d, p d := by
 intro d
 exact AD.rec (motive_1 := p) (motive_2 := fun l => ∀ d, d ∈ l → p d) (fun k n t o l ih => h k n t o l ih) (by simp) (fun d l h1 h2 => by
  intro x hx
  rcases List.mem_cons.1 hx with rfl | hx
  ·exact h1
  ·exact h2 x hx) d
/-- A tree as a value. -/
def AD.av (t : AD) : AV := mkAgg t.cells
theorem AD.av_cells (t : AD) : t.av.cells = some t.cells := by
 cases t with
 | mk k n tx o l => cases l <;> rfl
theorem AD.av_leaf {t : AD} (h : t.kids = []) : t.av = .pv (enc t.dat) := by
 cases t with
 | mk k n tx o l =>
  simp only [AD.kids] at h
  subst h; rfl
theorem AD.av_node {t : AD} (h : t.kids ≠ []) : t.av = .agg t.cells := by
 cases t with
 | mk k n tx o l =>
  simp only [AD.kids] at h
  cases l with
  | nil => exact (h rfl).elim
  | cons a l => rfl
theorem flatCells_len (l : List AD) : (l.flatMap AD.cells).length = 4 * l.length := by
 induction l with
 | nil => rfl
 | cons a l ih => simp [List.flatMap_cons, AD.cells_len, ih]; omega
theorem flatCells_get {l : List AD} {i : Nat} {t : AD} (h : l[i]? = some t) {j : Nat} (hj : j < 4) : (l.flatMap AD.cells)[4 * i + j]? = t.cells[j]? := by
 induction l generalizing i with
 | nil => simp at h
 | cons a l ih =>
  cases i with
  | zero => simp at h; subst h; rw [List.flatMap_cons, List.getElem?_append_left (by rw [AD.cells_len]; omega)]; simp
  | succ i =>
   rw [List.getElem?_cons_succ] at h
   rw [List.flatMap_cons, List.getElem?_append_right (by rw [AD.cells_len]; omega), AD.cells_len, show 4 * (i + 1) + j - 4 = 4 * i + j by omega]
   exact ih h
theorem AD.noL_cells (t : AD) : ∀ x, x ∈ t.cells → x.noL = true := by
 intro x hx
 rw [AD.cells_eq] at hx
 simp only [List.mem_cons, List.not_mem_nil, or_false] at hx
 rcases hx with rfl | rfl | rfl | rfl
 ·rfl
 ·rfl
 ·rfl
 ·cases t with
  | mk k n tx o l => cases l <;> rfl

section freeze
variable {g : Ghost} {tk : List Tok} {w : World} {S' : Nat → Nat → Prop}
/-- A tree in rows that nothing is written to any more reads as its datum. -/
theorem AD.reads (hS : ∀ b o, g.S b o → S' b o) : ∀ (t : AD) (v : Value), (∀ q, q ∈ t.arrs → ∃ b, g.io[q.1]? = some b ∧ RObj g tk w b q.2 ∧ ∀ o, S' b o) → RA g tk w t.kv v → RP g.B S' w (.slice (t.dat.kids.map enc)) v := by
 intro t
 induction t using AD.ind with
 | _ k n tx o l ih =>
  intro v hq hv
  have hks : Keeps g.B g.S S' w w := ⟨hS, fun _ _ _ => rfl, fun _ _ => rfl⟩
  rw [AD.dat_kids]
  simp only [AD.kids, AD.kv] at *
  cases l with
  | nil => exact hv.pv_inv.mono hks
  | cons a l =>
   simp only [kvOf] at hv
   cases hv with
   | sl hio hn =>
    rename_i c b
    obtain ⟨b2, h1, h2, h3⟩ := hq (o, .arr ((a :: l).flatMap AD.cells)) (by simp [AD.arrs, rowOf])
    simp only at h1
    rw [hio] at h1
    cases h1
    obtain ⟨hnl, vs, rest, e, k1, k2, k3, k4⟩ := h2
    generalize hL : a :: l = L at *
    have hlen : ((L.map AD.dat).map enc).length = L.length := by simp
    rw [show L.length = ((L.map AD.dat).map enc).length by simp]
    refine .slice (sz := 4) (vs := vs) (fun x hx => ?_) (by rw [k2, flatCells_len]; simp; omega) (by rw [hlen]; exact hn) (fun i v hv => ?_) (fun i x v hx hv => ?_)
    ·obtain ⟨d, _, rfl⟩ := List.mem_map.1 hx
     rw [enc_cells]; rfl
    ·refine ⟨.inr (h3 _), ?_, k3 v (List.mem_of_getElem? hv)⟩
     rw [cell_of_heap k1, Nat.zero_add, List.getElem?_toArray, List.getElem?_append_left (List.getElem?_eq_some_iff.1 hv).1]
     exact hv
    ·have hi : i < 4 * L.length := by
      have := (List.getElem?_eq_some_iff.1 hv).1
      rw [k2, flatCells_len] at this; exact this
     obtain ⟨t, ht⟩ : ∃ t, L[i / 4]? = some t := ⟨L[i / 4]'(by omega), by simp⟩
     have hc := flatCells_get ht (j := i % 4) (by omega)
     rw [show 4 * (i / 4) + i % 4 = i by omega] at hc
     have hf := flat_get (xs := (L.map AD.dat).map enc) (sz := 4) (fun x hx => by obtain ⟨d, _, rfl⟩ := List.mem_map.1 hx; rw [enc_cells]; rfl) (i := i / 4) (x := enc t.dat) (by simp [ht]) (j := i % 4) (by omega)
     rw [show i / 4 * 4 + i % 4 = i by omega, hx, enc_cells] at hf
     rw [AD.cells_eq] at hc
     have htm : t ∈ L := List.mem_of_getElem? ht
     have hj : i % 4 = 0 ∨ i % 4 = 1 ∨ i % 4 = 2 ∨ i % 4 = 3 := by omega
     rcases hj with hj | hj | hj | hj <;> rw [hj] at hc hf
     ·simp only [List.getElem?_cons_zero, Option.some.injEq] at hf hc; subst hf
      have := (k4 i _ v hc hv).pv_inv.mono hks
      rw [AD.dat_kind]; exact this
     ·simp only [List.getElem?_cons_succ, List.getElem?_cons_zero, Option.some.injEq] at hf hc; subst hf
      have := (k4 i _ v hc hv).pv_inv.mono hks
      rw [AD.dat_num]; exact this
     ·simp only [List.getElem?_cons_succ, List.getElem?_cons_zero, Option.some.injEq] at hf hc; subst hf
      have := (k4 i _ v hc hv).pv_inv.mono hks
      rw [AD.dat_text]; exact this
     ·simp only [List.getElem?_cons_succ, List.getElem?_cons_zero, Option.some.injEq] at hf hc; subst hf
      refine ih t htm v (fun q hq2 => hq q ?_) (k4 i _ v hc hv)
      rw [AD.arrs, AD.arrss_flat, List.mem_append]
      exact .inr (List.mem_flatMap.2 ⟨t, htm, hq2⟩)
theorem AD.readsAgg (hS : ∀ b o, g.S b o → S' b o) (t : AD) {v : Value} (hq : ∀ q, q ∈ t.arrs → ∃ b, g.io[q.1]? = some b ∧ RObj g tk w b q.2 ∧ ∀ o, S' b o) (hv : RA g tk w (.agg t.cells) v) : RP g.B S' w (enc t.dat) v := by
 have hks : Keeps g.B g.S S' w w := ⟨hS, fun _ _ _ => rfl, fun _ _ => rfl⟩
 rw [AD.cells_eq] at hv
 rw [enc_eq]
 cases hv with
 | agg hl h1 hr =>
  rename_i vs
  refine .agg (by rw [hl]; rfl) h1 (fun i x v hx hv => ?_)
  match i, hx with
  | 0, hx => simp only [List.getElem?_cons_zero, Option.some.injEq] at hx; subst hx; have := (hr 0 _ v rfl hv).pv_inv.mono hks; rw [AD.dat_kind]; exact this
  | 1, hx => simp only [List.getElem?_cons_succ, List.getElem?_cons_zero, Option.some.injEq] at hx; subst hx; have := (hr 1 _ v rfl hv).pv_inv.mono hks; rw [AD.dat_num]; exact this
  | 2, hx => simp only [List.getElem?_cons_succ, List.getElem?_cons_zero, Option.some.injEq] at hx; subst hx; have := (hr 2 _ v rfl hv).pv_inv.mono hks; rw [AD.dat_text]; exact this
  | 3, hx => simp only [List.getElem?_cons_succ, List.getElem?_cons_zero, Option.some.injEq] at hx; subst hx; exact AD.reads hS t v hq (hr 3 _ v rfl hv)
  | n + 4, hx => simp at hx

theorem AD.readsAv (hS : ∀ b o, g.S b o → S' b o) (t : AD) {v : Value} (hq : ∀ q, q ∈ t.arrs → ∃ b, g.io[q.1]? = some b ∧ RObj g tk w b q.2 ∧ ∀ o, S' b o) (hv : RA g tk w t.av v) : RP g.B S' w (enc t.dat) v := by
 by_cases h : t.kids = []
 ·rw [AD.av_leaf h] at hv
  exact hv.pv_inv.mono ⟨hS, fun _ _ _ => rfl, fun _ _ => rfl⟩
 ·rw [AD.av_node h] at hv
  exact AD.readsAgg hS t hq hv

variable {σ : Store} {L : List (List AV)}
/-- Blocks that nothing else tells of are read from now on. -/
theorem Inv.addSs (h : Inv g σ L w) (Bs : Nat → Prop) (f : ∀ b, Bs b → Fresh g w b) :
  Inv { g with S := fun c o => g.S c o ∨ Bs c } σ L w ∧ Le g σ.toks w { g with S := fun c o => g.S c o ∨ Bs c } σ.toks w := by
 have hk : Keeps g.B g.S (fun c o => g.S c o ∨ Bs c) w w := ⟨fun _ _ h => .inl h, fun _ _ _ => rfl, fun _ _ => rfl⟩
 have le : Le g σ.toks w { g with S := fun c o => g.S c o ∨ Bs c } σ.toks w := ⟨rfl, hk, fun _ _ h => h, fun _ t h => ⟨t, h, rfl, rfl, Nat.le_refl _, fun _ => rfl⟩⟩
 have ho : ∀ b, Bs b → (b ∉ g.io ∧ b ∉ g.lam) ∧ b ∉ g.tb.filterMap fun o => o.map (·.b) := fun b hb => by
  have := (f b hb).own
  simp only [Ghost.owned, List.mem_append, not_or] at this
  exact this
 refine ⟨⟨h.lio, h.llam, h.ltb, fun n p hp => (h.glob n p hp).mono hk, h.nodup, h.low, fun c hK => ⟨(h.kept c hK).1, ?_⟩, h.base, fun c o hS => ?_, fun o ob c h1 hio => (h.objs o ob c h1 hio).mono le (fun _ _ h => h) rfl, fun i cs' c hL hlm => (h.priv i cs' c hL hlm).mono le (fun _ _ h => h) rfl, fun k t tb ht htb => ?_⟩, le⟩
 ·rintro o (hS | hB)
  ·exact (h.kept c hK).2 o hS
  ·exact (f c hB).K hK
 ·rcases hS with hS | hB
  ·exact h.cells c o hS
  ·exact ⟨(f c hB).low, (f c hB).lt, (ho c hB).1.1, (ho c hB).1.2⟩
 ·obtain ⟨cur, h1, h2, h3, h4, h5⟩ := h.toks k t tb ht htb
  refine ⟨cur, h1, h2, h3, h4, fun o hS => ?_⟩
  rcases hS with hS | hB
  ·exact h5 o hS
  ·have hm : tb.b ∈ g.tb.filterMap fun o => o.map (·.b) := List.mem_filterMap.2 ⟨some tb, List.mem_of_getElem? htb, rfl⟩
   exact absurd hm (ho _ hB).2
theorem Inv.freshOld (h : Inv g σ L w) {i no nt nl b : Nat} (hi : g.io[i]? = some b) (hno : no ≤ i) : Fresh (g.cut no nt nl) w b := by
 have hlow := h.low b (mem_io hi)
 have ap := h.apart
 refine ⟨hlow.1, hlow.2.1, hlow.2.2, fun o hS => (h.cells b o hS).2.2.1 (List.mem_of_getElem? hi), ?_⟩
 intro hm
 simp only [Ghost.owned, Ghost.cut, List.mem_append] at hm
 rcases hm with (hm | hm) | hm
 ·obtain ⟨q, hq, hqe⟩ := List.getElem_of_mem hm
  have hq2 : q < no := by rw [List.length_take] at hq; omega
  have : g.io[q]? = some b := by
   rw [List.getElem_take] at hqe
   rw [← hqe]; simp
  have := nodup_get ap.1.1 this hi
  omega
 ·exact ap.2.1 b (List.mem_of_getElem? hi) (List.mem_of_mem_take hm)
 ·obtain ⟨tb, htb, hte⟩ := List.mem_filterMap.1 hm
  cases tb with
  | none => cases hte
  | some tb =>
   simp only [Option.map_some, Option.some.injEq] at hte
   obtain ⟨kk, hkk, hke⟩ := List.getElem_of_mem (List.mem_of_mem_take htb)
   have := (ap.2.2 kk tb (by rw [← hke]; simp)).1
   rw [hte] at this
   exact this (List.mem_of_getElem? hi)
end freeze
/-- What is given is a tree in rows of the call's own: from now on it is only read. -/
theorem ACalls.freeze {P : Program} {f : FuncId} {args : List AV} {σ : Store} {R R' : AV → Store → Prop} (h : ACalls P f args σ R)
  (k : ∀ r σ', R r σ' → ∃ t : AD, r = t.av ∧ (∀ q, q ∈ t.arrs → σ.objs.length ≤ q.1 ∧ σ'.objs[q.1]? = some q.2) ∧ (∀ ob, ob ∈ σ'.objs.take σ.objs.length → ob ∈ σ.objs ∨ ob.clo σ.objs.length σ.toks.length 0 = true) ∧
   R' (.pv (enc t.dat)) (σ'.cut σ.objs.length σ.toks.length)) : ACalls P f args σ R' := by
 intro g w cargs h1 h2 h3
 refine (h g w cargs h1 h2 h3).mono ?_
 rintro e w' ⟨v, r, σ', g', rfl, hR, hinv, hext, hra⟩
 obtain ⟨t, rfl, k2, k3, k4⟩ := k r σ' hR
 have hi := hinv.cut (no := σ.objs.length) (nt := σ.toks.length) (nl := 0) (fun ob hob => by
  rcases k3 ob hob with h | h
  ·exact hext.clo0 ob h
  ·exact h) (fun cs hcs => by simp at hcs)
 have hio : ∀ q, q ∈ t.arrs → ∃ b, g'.io[q.1]? = some b ∧ RObj g' σ'.toks w' b q.2 := by
  intro q hq
  have h4 := (k2 q hq).2
  have hlt : q.1 < g'.io.length := by rw [hinv.lio]; exact (List.getElem?_eq_some_iff.1 h4).1
  exact ⟨g'.io[q.1], by simp, hinv.objs q.1 q.2 _ h4 (by simp)⟩
 obtain ⟨i2, le2⟩ := hi.addSs (fun b => ∃ q, q ∈ t.arrs ∧ g'.io[q.1]? = some b) (by
  rintro b ⟨q, hq, hb⟩
  exact hinv.freshOld hb (k2 q hq).1)
 have hext2 := hext.cut (no := σ.objs.length) (nt := σ.toks.length) (nl := 0) (Nat.le_refl _) (Nat.le_refl _)
 refine ⟨v, _, _, _, rfl, k4, i2, ?_, .pv ?_⟩
 ·exact ⟨hext2.le.trans le2, hext2.gl, hext2.K, hext2.blk, hext2.size, hext2.os, hext2.tape, hext2.output, hext2.io0, hext2.clo0⟩
 ·refine AD.readsAv (g := g') (tk := σ'.toks) (fun b o h => .inl h) t (fun q hq => ?_) hra
  obtain ⟨b, h4, h5⟩ := hio q hq
  exact ⟨b, h4, h5, fun o => .inr ⟨q, hq, h4⟩⟩
end Go.Aw

namespace Go.Aw
open Go
section
variable {P : Program} {ty : TyT} {g0 g : Ghost} {σ0 : Store} {w0 w : World} {N : Nat} {s : St} {a : Act} {o : Oper} {x : AV} {next : St → Prop} {tk : List Tok} {ops : Array Oper} {os : List Oper} {K : St → Prop} {L : List (List AV)} {σ : Store}
end
end Go.Aw

namespace Go.Aw
open Go
section
variable {ρ : Option Nat} {P : Program} {ty : TyT} {g0 g : Ghost} {σ0 : Store} {w0 w : World} {N : Nat} {s : St} {a : Act} {o : Oper} {x : AV} {next : St → Prop} {ops : Array Oper} {os : List Oper} {K : St → Prop} {L : List (List AV)} {σ : Store}
/-- A slice against nil, where it is not known whether an empty one is nil. -/
theorem aop_sliceEq (hty : TyOk P ty) {t e : TypeId} {ti : TyI} {x y : Operand} {yt : TypeId} {xs : List PV} (ho : o.op = .binOp .eql t x y yt) (hti : ty t = some ti) (hk : ti.kind = .slice e)
  (hx : (ev s x).elems = some xs) (hy : ev s y = .pv .nils) (hd : dstOk N o.dst = true) (hn : ∀ b : Bool, (xs ≠ [] → b = false) → next (s.put o.dst (.pv (.bool b)))) : AOp P σ0 N o next s := by
 rintro g0 w0 a w nx Q ⟨g, r⟩ hnx
 have hu := (hty _ _ hti).slice hk
 have hxr := (r.ev x).elems hx
 have hy' : a.eval y = .slice none 0 0 := by have h := r.ev y; rw [hy] at h; exact h.pv_inv.nils_inv
 obtain ⟨ad, n, m, hxv, hne⟩ : ∃ (ad : Option Addr) (n m : Nat), a.eval x = .slice ad n m ∧ (xs ≠ [] → ad.isNone = false) := by
  generalize a.eval x = v at hxr
  cases hxr with
  | empty => exact ⟨_, _, _, rfl, fun h => (h rfl).elim⟩
  | slice => exact ⟨_, _, _, rfl, fun _ => rfl⟩
 have hrun : (execOp a.eval o).run P w = .ok (.value (.bool ad.isNone)) w := by
  have hg : (eqGuard .eql t x y (.slice ad n m) (.slice none 0 0)).run P w = .ok () w := rfl
  simp only [execOp, ho, hxv, hy', Sem.run_bind, hg, Result.andThen_ok, binOp, equal_slice_nil hu, Sem.run_pure]
 unfold opW
 rw [hrun]
 exact hnx _ _ _ (hn _ hne) ⟨g, r.put (.pv .bool) hd⟩
theorem al_sliceEq (hty : TyOk P ty) {t e : TypeId} {ti : TyI} {x y : Operand} {yt : TypeId} {xs : List PV} (hg : o.guard = none) (ho : o.op = .binOp .eql t x y yt) (hti : ty t = some ti) (hk : ti.kind = .slice e)
  (hx : (ev s x).elems = some xs) (hy : ev s y = .pv .nils) (hd : dstOk N o.dst = true) (k : ∀ b : Bool, (xs ≠ [] → b = false) → AOpsL P σ0 N ops os K (s.put o.dst (.pv (.bool b)))) : AOpsL P σ0 N ops (o :: os) K s :=
 al_cons hg (aop_sliceEq hty ho hti hk hx hy hd k)

/-- An object is told with less. -/
theorem Inv.setTell (h : Inv g σ L w) {i : Nat} {ob ob' : AObj} (hi : σ.objs[i]? = some ob) (hk : ∀ b, RObj g σ.toks w b ob → RObj g σ.toks w b ob') : Inv g { σ with objs := σ.objs.set i ob' } L w := by
 refine ⟨by simp [h.lio], h.llam, h.ltb, h.glob, h.nodup, h.low, h.kept, h.base, h.cells, fun j ob2 c ho hio => ?_, h.priv, h.toks⟩
 simp only [List.getElem?_set] at ho
 split at ho
 ·subst_vars
  split at ho
  ·cases ho; exact hk c (h.objs _ ob c hi hio)
  ·cases ho
 ·exact h.objs j ob2 c ho hio
theorem RelG.setTell (r : RelG g0 σ0 w0 N g s a w) {i : Nat} {ob ob' : AObj} (hi : s.σ.objs[i]? = some ob) (hk : ∀ b, RObj g s.σ.toks w b ob → RObj g s.σ.toks w b ob') : RelG g0 σ0 w0 N g { s with σ := { s.σ with objs := s.σ.objs.set i ob' } } a w :=
 r.later (σ' := { s.σ with objs := s.σ.objs.set i ob' }) (L' := s.L) (Le.refl _ _ _) (fun _ _ h => h) (r.2.1.setTell hi hk) rfl rfl (fun _ _ => rfl) (Nat.le_refl _) rfl rfl rfl
theorem robj_boxArr {tk : List Tok} {b : Nat} {cs : List AV} (h : RObj g tk w b (.box cs)) : RObj g tk w b (.arr cs) := by
 obtain ⟨h0, vs, e, h1, h2, h3, h4⟩ := h
 exact ⟨h0, vs, [], e, by simpa using h1, h2, h3, h4⟩
theorem robj_rowArr {tk : List Tok} {b sz cap : Nat} {e : TypeId} {xs : List PV} (h : RObj g tk w b (.row e sz cap xs)) : RObj g tk w b (.arr ((flat xs).map .pv)) := by
 obtain ⟨h1, h2, h3, us, rest, h4, h5, h6, h7, h8⟩ := h
 refine ⟨fun x hx => ?_, us, rest, e, h4, by rw [h5, List.length_map, flat_length h1], h7, fun i x v hx hv => ?_⟩
 ·obtain ⟨p, _, rfl⟩ := List.mem_map.1 hx; rfl
 ·rw [List.getElem?_map] at hx
  obtain ⟨p, hp, rfl⟩ := Option.map_eq_some_iff.1 hx
  exact .pv (h8 i p v hp hv)
/-- A box is a row that may be written to. -/
theorem awp_boxArr {c : Code} {Q : Exit → St → Prop} (i : Nat) (cs : List AV) (hi : s.σ.objs[i]? = some (.box cs)) (k : AWpR ρ P σ0 N c Q { s with σ := { s.σ with objs := s.σ.objs.set i (.arr cs) } }) : AWpR ρ P σ0 N c Q s := by
 rintro g0 w0 a w ⟨g, r⟩
 exact k g0 w0 a w ⟨g, r.setTell hi fun b => robj_boxArr⟩
/-- Appended to nothing: a row of its own, that may be written to. -/
theorem aop_appendArr (hty : TyOk P ty) {p q : Operand} {t e : TypeId} {ti te : TyI} {ys : List PV} (ho : o.op = .call { callee := .builtin .append, args := #[p, q], argTypes := #[t, t] }) (hti : ty t = some ti) (hk : ti.kind = .slice e) (hte : ty e = some te)
  (hp : ev s p = .full []) (hq : (ev s q).elems = some ys) (hy0 : ys ≠ []) (hys : allSz te.size ys = true) (hb0 : 0 < te.bytes) (hbytes : ys.length * te.bytes ≤ 140737488355328) {d : Tmp} (hdst : o.dst = some d) (hd : dstOk N o.dst = true)
  (hnx : next (({ s with σ := { s.σ with objs := s.σ.objs ++ [.arr ((flat ys).map .pv)] } } : St).put o.dst (.sl s.σ.objs.length 0 ys.length))) : AOp P σ0 N o next s := by
 rintro g0 w0 a w nx Q hr hnext
 refine aop_appendRow (next := fun s1 => ∃ cap, ys.length ≤ cap ∧ s1 = ({ s with σ := { s.σ with objs := s.σ.objs ++ [.row e te.size cap ys] } } : St).put o.dst (.scr s.σ.objs.length ys.length cap)) hty ho hti hk hte hp hq hy0 hys hb0 hbytes hd (fun cap hc => ⟨cap, hc, rfl⟩) g0 w0 a w nx Q hr ?_
 rintro s' a' w' ⟨cap, hc, rfl⟩ ⟨g, r⟩
 refine hnext _ _ _ hnx ⟨g, ?_⟩
 rw [hdst] at r ⊢
 have r2 := r.setTell (i := s.σ.objs.length) (ob := .row e te.size cap ys) (ob' := .arr ((flat ys).map .pv)) (by simp [St.put]) (fun b => robj_rowArr)
 have e1 : (s.σ.objs ++ [AObj.row e te.size cap ys]).set s.σ.objs.length (.arr ((flat ys).map .pv)) = s.σ.objs ++ [.arr ((flat ys).map .pv)] := by simp
 simp only [St.put, e1] at r2 ⊢
 refine ⟨r2.1, r2.2.1, r2.2.2.1, r2.2.2.2.1, fun t => ?_⟩
 have h := r2.2.2.2.2 t
 simp only [get] at h ⊢
 split
 ·subst_vars
  rw [if_pos rfl] at h
  generalize a'.tmps.getD _ undef = v at h ⊢
  have hyn : ys.length ≠ 0 := fun e => hy0 (List.eq_nil_of_length_eq_zero e)
  generalize ys.length = nn at h hyn ⊢
  cases h with
  | scr h1 h2 h3 => exact .sl h1 h2
  | scrnil => exact (hyn rfl).elim
 ·rw [if_neg ‹_›] at h; exact h
theorem al_appendArr (hty : TyOk P ty) {p q : Operand} {t e : TypeId} {ti te : TyI} {ys : List PV} (hg : o.guard = none) (ho : o.op = .call { callee := .builtin .append, args := #[p, q], argTypes := #[t, t] }) (hti : ty t = some ti) (hk : ti.kind = .slice e) (hte : ty e = some te)
  (hp : ev s p = .full []) (hq : (ev s q).elems = some ys) (hy0 : ys ≠ []) (hys : allSz te.size ys = true) (hb0 : 0 < te.bytes) (hbytes : ys.length * te.bytes ≤ 140737488355328) {d : Tmp} (hdst : o.dst = some d) (hd : dstOk N o.dst = true)
  (k : AOpsL P σ0 N ops os K (({ s with σ := { s.σ with objs := s.σ.objs ++ [.arr ((flat ys).map .pv)] } } : St).put o.dst (.sl s.σ.objs.length 0 ys.length))) : AOpsL P σ0 N ops (o :: os) K s :=
 al_cons hg (aop_appendArr hty ho hti hk hte hp hq hy0 hys hb0 hbytes hdst hd k)
end
end Go.Aw

namespace Go.Aw
open Go
mutual
/-- How many rows a copy has. -/
def msz : D → Nat
 | .mk _ _ _ l => bif l.isEmpty then 0 else 1 + mszs l
def mszs : List D → Nat
 | [] => 0
 | d :: l => msz d + mszs l
end
mutual
/-- A copy whose rows are numbered from m on, each ahead of those in it. -/
def lay (m : Nat) : D → AD
 | .mk k n t l => .mk k n t m (lays (m + 1) l)
def lays (m : Nat) : List D → List AD
 | [] => []
 | d :: l => lay m d :: lays (m + msz d) l
end
theorem msz_eq (d : D) : msz d = if d.kids = [] then 0 else 1 + mszs d.kids := by
 cases d with
 | mk k n t l => cases l <;> simp [msz, D.kids]
theorem lay_eq (m : Nat) (d : D) : lay m d = .mk d.kind d.num d.text m (lays (m + 1) d.kids) := by cases d; rfl
theorem lays_len : ∀ (l : List D) (m : Nat), (lays m l).length = l.length
 | [], m => rfl
 | d :: l, m => by simp [lays, lays_len l]
theorem lays_append : ∀ (l r : List D) (m : Nat), lays m (l ++ r) = lays m l ++ lays (m + mszs l) r
 | [], r, m => by simp [lays, mszs]
 | d :: l, r, m => by simp [lays, mszs, lays_append l r, Nat.add_assoc]
theorem mszs_append : ∀ (l r : List D), mszs (l ++ r) = mszs l + mszs r
 | [], r => by simp [mszs]
 | d :: l, r => by simp [mszs, mszs_append l r, Nat.add_assoc]
theorem lay_dat : ∀ (d : D) (m : Nat), (lay m d).dat = d := by
 intro d
 induction d using D.ind with
 | _ k n t l ih =>
  intro m
  have key : ∀ (l : List D) (m : Nat), (∀ d, d ∈ l → ∀ m, (lay m d).dat = d) → AD.dats (lays m l) = l := by
   intro l
   induction l with
   | nil => intro m _; rfl
   | cons d l ihl => intro m h; rw [lays, AD.dats, h d (by simp), ihl _ (fun x hx => h x (by simp [hx]))]
  rw [lay, AD.dat, key l _ ih]
theorem kvOf_lays (o m : Nat) (l : List D) : kvOf o (lays m l) = if l = [] then .pv (.slice []) else .sl o 0 l.length := by
 cases l with
 | nil => rfl
 | cons d l => simp [lays, kvOf, lays_len]
/-- The rows of a copy, in their order. -/
def lobjs (m : Nat) (d : D) : List AObj := (lay m d).arrs.map (·.2)
def lobjss (m : Nat) (l : List D) : List AObj := (AD.arrss (lays m l)).map (·.2)
theorem lobjss_append (l r : List D) (m : Nat) : lobjss m (l ++ r) = lobjss m l ++ lobjss (m + mszs l) r := by
 unfold lobjss
 rw [lays_append, AD.arrss_flat, AD.arrss_flat, AD.arrss_flat, List.flatMap_append, List.map_append]
theorem lobjs_eq (m : Nat) (d : D) : lobjs m d = if d.kids = [] then [] else .arr ((lays (m + 1) d.kids).flatMap AD.cells) :: lobjss (m + 1) d.kids := by
 unfold lobjs lobjss
 rw [lay_eq, AD.arrs]
 cases hk : d.kids with
 | nil => rfl
 | cons x l => simp [lays, rowOf]
theorem lobjss_one (m : Nat) (d : D) : lobjss m [d] = lobjs m d := by simp [lobjss, lobjs, lays, AD.arrss]
theorem lobjs_len : ∀ (d : D) (m : Nat), (lobjs m d).length = msz d := by
 intro d
 induction d using D.ind with
 | _ k n t l ih =>
  intro m
  have key : ∀ (l : List D) (m : Nat), (∀ d, d ∈ l → ∀ m, (lobjs m d).length = msz d) → (lobjss m l).length = mszs l := by
   intro l
   induction l with
   | nil => intro m _; rfl
   | cons d l ihl =>
    intro m h
    rw [show d :: l = [d] ++ l from rfl, lobjss_append, lobjss_one, List.length_append, h d (by simp), ihl _ (fun x hx => h x (by simp [hx])), mszs_append]
    simp [mszs]
  rw [lobjs_eq, msz_eq]
  show (if l = [] then _ else _ : List AObj).length = if l = [] then 0 else 1 + mszs l
  split
  ·rfl
  ·rw [List.length_cons]
   show (lobjss (m + 1) l).length + 1 = _
   rw [key l _ ih]; omega
theorem lobjss_len (l : List D) (m : Nat) : (lobjss m l).length = mszs l := by
 induction l generalizing m with
 | nil => rfl
 | cons d l ih => rw [show d :: l = [d] ++ l from rfl, lobjss_append, lobjss_one, List.length_append, lobjs_len, ih, mszs_append]; simp [mszs]
/-- The numbers are those from m on. -/
theorem lay_keys : ∀ (d : D) (m : Nat), (lay m d).arrs.map (·.1) = List.range' m (msz d) := by
 intro d
 induction d using D.ind with
 | _ k n t l ih =>
  intro m
  have key : ∀ (l : List D) (m : Nat), (∀ d, d ∈ l → ∀ m, (lay m d).arrs.map (·.1) = List.range' m (msz d)) → (AD.arrss (lays m l)).map (·.1) = List.range' m (mszs l) := by
   intro l
   induction l with
   | nil => intro m _; rfl
   | cons d l ihl =>
    intro m h
    rw [lays, AD.arrss, List.map_append, h d (by simp), ihl _ (fun x hx => h x (by simp [hx])), mszs, List.range'_append_1]
  rw [lay, AD.arrs, List.map_append, key l _ ih, msz_eq]
  show _ = List.range' m (if l = [] then 0 else 1 + mszs l)
  cases l with
  | nil => rfl
  | cons x l => simp [lays, rowOf, Nat.add_comm 1, List.range'_succ]
theorem hasU_range {σ : Store} {U : List (Nat × AObj)} {A C : List AObj} (h : σ.objs = A ++ U.map (·.2) ++ C) (hk : U.map (·.1) = List.range' A.length U.length) : HasU σ U := by
 intro q hq
 obtain ⟨i, hi, rfl⟩ := List.getElem_of_mem hq
 have h1 : (U.map (·.1))[i]? = some U[i].1 := by rw [List.getElem?_map, List.getElem?_eq_getElem hi]; rfl
 rw [hk, List.getElem?_range' (by simpa using hi)] at h1
 simp only [Option.some.injEq] at h1
 rw [← h1, h, List.append_assoc, List.getElem?_append_right (by omega), List.getElem?_append_left (by simp; omega)]
 rw [show A.length + 1 * i - A.length = i by omega, List.getElem?_map, List.getElem?_eq_getElem hi]; rfl
theorem lay_has {σ : Store} {A C : List AObj} {d : D} (h : σ.objs = A ++ lobjs A.length d ++ C) : HasU σ (lay A.length d).arrs := by
 refine hasU_range (A := A) (C := C) h ?_
 rw [lay_keys]
 congr 1
 have := congrArg List.length (lay_keys d A.length)
 simpa using this.symm
theorem lay_nodup (d : D) (m : Nat) : ((lay m d).arrs.map (·.1)).Nodup := by rw [lay_keys]; exact List.nodup_range'
theorem lay_ge {d : D} {m : Nat} {q : Nat × AObj} (h : q ∈ (lay m d).arrs) : m ≤ q.1 ∧ q.1 < m + msz d := by
 have : q.1 ∈ (lay m d).arrs.map (·.1) := List.mem_map.2 ⟨q, h, rfl⟩
 rw [lay_keys, List.mem_range'_1] at this
 exact this

/-! ### the loop that copies the parts -/
/-- The cells of the row in which the first k parts are copies. -/
def clC (n : Nat) (l : List D) (k : Nat) : List AV := (lays (n + 1) (l.take k)).flatMap AD.cells ++ (flat ((l.drop k).map enc)).map .pv
def clS (σ : Store) (l : List D) (k : Nat) : Store := ⟨σ.gl, σ.objs ++ .arr (clC σ.objs.length l k) :: lobjss (σ.objs.length + 1) (l.take k), σ.toks⟩
theorem clC_zero (n : Nat) (l : List D) : clC n l 0 = (flat (l.map enc)).map .pv := by simp [clC, lays]
theorem clC_all (n : Nat) (l : List D) : clC n l l.length = (lays (n + 1) l).flatMap AD.cells := by simp [clC, flat]
theorem clS_get (σ : Store) (l : List D) (k : Nat) : (clS σ l k).objs[σ.objs.length]? = some (.arr (clC σ.objs.length l k)) := by simp [clS]
theorem clS_len (σ : Store) (l : List D) (k : Nat) : (clS σ l k).objs.length = σ.objs.length + 1 + mszs (l.take k) := by simp [clS, lobjss_len]; omega
theorem clC_drop {n k : Nat} {l : List D} {x : D} (h : l[k]? = some x) : (clC n l k).drop (k * 4) = (enc x).cells.map .pv ++ (flat ((l.drop (k + 1)).map enc)).map .pv := by
 have hk : k < l.length := (List.getElem?_eq_some_iff.1 h).1
 unfold clC
 rw [List.drop_append_of_le_length (by rw [flatCells_len, lays_len, List.length_take]; omega), List.drop_of_length_le (by rw [flatCells_len, lays_len, List.length_take]; omega), List.nil_append]
 have : l.drop k = x :: l.drop (k + 1) := by rw [List.drop_eq_getElem_cons hk]; congr 1; exact (List.getElem?_eq_some_iff.1 h).2
 rw [this]
 simp [flat]
theorem clC_put {n k : Nat} {l : List D} {x : D} (h : l[k]? = some x) : overlay (clC n l k) (k * 4) (lay (n + 1 + mszs (l.take k)) x).cells = clC n l (k + 1) := by
 have hk : k < l.length := (List.getElem?_eq_some_iff.1 h).1
 have hd := clC_drop (n := n) h
 unfold overlay
 rw [AD.cells_len]
 have h1 : (clC n l k).take (k * 4) = (lays (n + 1) (l.take k)).flatMap AD.cells := by
  unfold clC
  rw [List.take_append_of_le_length (by rw [flatCells_len, lays_len, List.length_take]; omega), List.take_of_length_le (by rw [flatCells_len, lays_len, List.length_take]; omega)]
 have h2 : (clC n l k).drop (k * 4 + 4) = (flat ((l.drop (k + 1)).map enc)).map .pv := by
  rw [← List.drop_drop, hd, List.drop_append_of_le_length (by rw [List.length_map, enc_cells]; simp), List.drop_of_length_le (by rw [List.length_map, enc_cells]; simp), List.nil_append]
 rw [h1, h2]
 unfold clC
 rw [take_next h, lays_append]
 simp [lays]
theorem clS_next {σ : Store} {k : Nat} {l : List D} {x : D} (h : l[k]? = some x) :
  (⟨(clS σ l k).gl, ((clS σ l k).objs ++ lobjs (clS σ l k).objs.length x).set σ.objs.length (.arr (overlay (clC σ.objs.length l k) (k * 4) (lay (clS σ l k).objs.length x).cells)), (clS σ l k).toks⟩ : Store) = clS σ l (k + 1) := by
 rw [clS_len, clC_put h]
 unfold clS
 simp only [List.append_assoc, List.cons_append]
 rw [List.set_append_right _ _ (Nat.le_refl _), Nat.sub_self, List.set_cons_zero, take_next h, lobjss_append, lobjss_one]
theorem clS_all {σ : Store} {d : D} (h : d.kids ≠ []) : clS σ d.kids d.kids.length = ⟨σ.gl, σ.objs ++ lobjs σ.objs.length d, σ.toks⟩ := by
 unfold clS
 rw [clC_all, List.take_length, lobjs_eq, if_neg h]
theorem clC_len (n : Nat) (l : List D) (k : Nat) : (clC n l k).length = 4 * l.length := by
 unfold clC
 rw [List.length_append, List.length_map, flatCells_len, lays_len, List.length_take, flat_length (sz := 4) (fun x hx => by obtain ⟨d, _, rfl⟩ := List.mem_map.1 hx; rw [enc_cells]; rfl), List.length_map, List.length_drop]
 omega
section
variable {P : Program} {ty : TyT} {σ0 : Store} {N : Nat} {s : St} {o : Oper} {ops : Array Oper} {os : List Oper} {K : St → Prop} {σ : Store}
/-- The next part's copy is laid in its place. -/
theorem al_cloneStore (hty : TyOk P ty) {t : TypeId} {p y : Operand} {ti : TyI} {l : List D} {k : Nat} {x : D} (hx : l[k]? = some x) (hg : o.guard = none) (ho : o.op = .store t p y) (hdst : o.dst = none) (hti : ty t = some ti) (h4 : ti.size = 4)
  (hp : ev s p = .ptr σ.objs.length (k * 4)) (hy : ev s y = (lay (clS σ l k).objs.length x).av) (hs : s.σ = ⟨(clS σ l k).gl, (clS σ l k).objs ++ lobjs (clS σ l k).objs.length x, (clS σ l k).toks⟩)
  (h : AOpsL P σ0 N ops os K ⟨s.T, s.L, clS σ l (k + 1)⟩) : AOpsL P σ0 N ops (o :: os) K s := by
 have hk : k < l.length := (List.getElem?_eq_some_iff.1 hx).1
 obtain ⟨T, L, σs⟩ := s
 simp only at hs
 subst hs
 refine al_cons hg (aop_storeA hty (i := σ.objs.length) (off := k * 4) (cs := clC σ.objs.length l k) (ds := (lay (clS σ l k).objs.length x).cells) ho hp hti ?_ (by rw [hy]; exact AD.av_cells _) (AV.noLs_iff.2 (AD.noL_cells _)) (by rw [AD.cells_len, h4]) (by rw [AD.cells_len, clC_len]; omega) (by rw [hdst]; rfl) ?_)
 ·exact (List.getElem?_append_left (by rw [clS_len]; omega)).trans (clS_get _ _ _)
 ·rw [hdst]
  simp only [St.put]
  rw [clS_next hx]
  exact h
end
theorem lay_av_node {m : Nat} {d : D} (h : d.kids ≠ []) : (lay m d).av = .agg [.pv (.int .i64 d.kind), .pv (.int .i64 d.num), .pv (.str d.text), .sl m 0 d.kids.length] := by
 rw [AD.av_node (by rw [lay_eq]; intro e; apply h; have := congrArg List.length e; simp only [AD.kids, lays_len] at this; exact List.eq_nil_of_length_eq_zero this), lay_eq, AD.cells, kvOf_lays, if_neg h]
theorem lay_av_leaf {m : Nat} {d : D} (h : d.kids = []) : (lay m d).av = .pv (enc d) := by
 have e : (lay m d).kids = [] := by rw [lay_eq, h]; rfl
 rw [AD.av_leaf e, lay_dat]
theorem lay_cells_noL (m : Nat) (d : D) : AV.noLs (lay m d).cells = true := AV.noLs_iff.2 (AD.noL_cells _)
end Go.Aw

namespace Go.Aw
open Go
/-- The tree at a path. -/
def AD.sub : AD → List Int → Option AD
 | t, [] => some t
 | t, i :: p => if 0 ≤ i then (t.kids[i.toNat]?).bind fun k => AD.sub k p else none
/-- Where it lies, if the whole lies at a place. -/
def AD.loc : Nat × Nat → AD → List Int → Nat × Nat
 | l, _, [] => l
 | l, t, i :: p => match t.kids[i.toNat]? with
  | some k => AD.loc (t.o, i.toNat * 4) k p
  | none => l
def AD.setText : AD → List Int → ByteArray → AD
 | .mk k n _ o l, [], s => .mk k n s o l
 | .mk k n t o l, i :: p, s => match l[i.toNat]? with
  | some c => .mk k n t o (l.set i.toNat (AD.setText c p s))
  | none => .mk k n t o l
def D.sub : D → List Int → Option D
 | d, [] => some d
 | d, i :: p => if 0 ≤ i then (d.kids[i.toNat]?).bind fun k => D.sub k p else none
def D.setText : D → List Int → ByteArray → D
 | .mk k n _ l, [], s => .mk k n s l
 | .mk k n t l, i :: p, s => match l[i.toNat]? with
  | some c => .mk k n t (l.set i.toNat (D.setText c p s))
  | none => .mk k n t l
theorem AD.sub_dat : ∀ (p : List Int) (t : AD), t.dat.sub p = (t.sub p).map AD.dat
 | [], t => rfl
 | i :: p, t => by
  simp only [D.sub, AD.sub, AD.dat_kids]
  split
  ·rw [List.getElem?_map]
   cases t.kids[i.toNat]? with
   | none => rfl
   | some k => exact AD.sub_dat p k
  ·rfl
theorem AD.loc_snoc : ∀ (p : List Int) (l : Nat × Nat) (t u k : AD) (i : Int), t.sub p = some u → u.kids[i.toNat]? = some k → AD.loc l t (p ++ [i]) = (u.o, i.toNat * 4)
 | [], l, t, u, k, i, h, hk => by
  cases h
  simp only [List.nil_append, AD.loc, hk]
 | j :: p, l, t, u, k, i, h, hk => by
  simp only [AD.sub] at h
  split at h
  ·obtain ⟨c, hc, h⟩ := Option.bind_eq_some_iff.1 h
   simp only [List.cons_append, AD.loc, hc]
   exact AD.loc_snoc p _ c u k i h hk
  ·cases h
theorem AD.sub_append : ∀ (p q : List Int) (t : AD), t.sub (p ++ q) = (t.sub p).bind fun u => u.sub q
 | [], q, t => rfl
 | j :: p, q, t => by
  simp only [List.cons_append, AD.sub]
  split
  ·cases t.kids[j.toNat]? with
   | none => rfl
   | some k => exact AD.sub_append p q k
  ·rfl
theorem D.sub_append : ∀ (p q : List Int) (t : D), t.sub (p ++ q) = (t.sub p).bind fun u => u.sub q
 | [], q, t => rfl
 | j :: p, q, t => by
  simp only [List.cons_append, D.sub]
  split
  ·cases t.kids[j.toNat]? with
   | none => rfl
   | some k => exact D.sub_append p q k
  ·rfl
theorem set_split {α : Type} {l : List α} {j : Nat} {c c' : α} (h : l[j]? = some c) : l = l.take j ++ c :: l.drop (j + 1) ∧ l.set j c' = l.take j ++ c' :: l.drop (j + 1) := by
 have hj : j < l.length := (List.getElem?_eq_some_iff.1 h).1
 have hc : l[j] = c := (List.getElem?_eq_some_iff.1 h).2
 refine ⟨?_, ?_⟩
 ·conv => lhs; rw [← List.take_append_drop j l]
  rw [List.drop_eq_getElem_cons hj, hc]
 ·rw [List.set_eq_take_append_cons_drop, if_pos hj]
theorem rowOf_ne {o : Nat} {l : List AD} (h : l ≠ []) : rowOf o l = [(o, .arr (l.flatMap AD.cells))] := by
 cases l with
 | nil => exact (h rfl).elim
 | cons a l => rfl
theorem kvOf_len {o : Nat} {l r : List AD} (h : l.length = r.length) : kvOf o l = kvOf o r := by
 cases l with
 | nil => cases r with
  | nil => rfl
  | cons b r => simp at h
 | cons a l => cases r with
  | nil => simp at h
  | cons b r => simp only [kvOf, h]
/-- The numbers of the rows do not change. -/
theorem AD.setText_keys : ∀ (p : List Int) (t : AD) (s : ByteArray), (t.setText p s).arrs.map (·.1) = t.arrs.map (·.1)
 | [], .mk k n tx o l, s => rfl
 | i :: p, .mk k n tx o l, s => by
  simp only [AD.setText]
  cases h : l[i.toNat]? with
  | none => rfl
  | some c =>
   obtain ⟨h1, h2⟩ := set_split (c' := c.setText p s) h
   simp only [AD.arrs, List.map_append, AD.arrss_flat]
   have hne : l ≠ [] := by intro e; rw [e] at h; simp at h
   have hne2 : l.set i.toNat (c.setText p s) ≠ [] := by intro e; have := congrArg List.length e; simp at this; exact hne (by simpa using this)
   rw [rowOf_ne hne, rowOf_ne hne2, h2]
   conv => rhs; rw [h1]
   simp only [List.map_cons, List.map_nil, List.flatMap_append, List.flatMap_cons, List.map_append, AD.setText_keys p c s]
/-- What lies in a row, and in the rows below. -/
def slotU (o : Nat) (pre post : List AV) (t : AD) : List (Nat × AObj) := (o, .arr (pre ++ t.cells ++ post)) :: t.arrs
theorem AD.loc_at {σ : Store} : ∀ (p : List Int) (t u : AD) (o : Nat) (pre post : List AV), HasU σ (slotU o pre post t) → t.sub p = some u →
  ∃ cells rest, σ.objs[(AD.loc (o, pre.length) t p).1]? = some (.arr cells) ∧ cells.drop (AD.loc (o, pre.length) t p).2 = u.cells ++ rest
 | [], t, u, o, pre, post, h, hu => by
  cases hu
  refine ⟨_, post, h _ (List.mem_cons_self), ?_⟩
  simp [AD.loc]
 | i :: p, t, u, o, pre, post, h, hu => by
  simp only [AD.sub] at hu
  split at hu
  ·obtain ⟨c, hc, hu⟩ := Option.bind_eq_some_iff.1 hu
   obtain ⟨h1, _⟩ := set_split (c' := c) hc
   have hne : t.kids ≠ [] := by intro e; rw [e] at hc; simp at hc
   have hl : ((t.kids.take i.toNat).flatMap AD.cells).length = i.toNat * 4 := by
    rw [flatCells_len, List.length_take, Nat.min_eq_left (Nat.le_of_lt (List.getElem?_eq_some_iff.1 hc).1)]; omega
   have := AD.loc_at (σ := σ) p c u t.o ((t.kids.take i.toNat).flatMap AD.cells) ((t.kids.drop (i.toNat + 1)).flatMap AD.cells) (by
    intro q hq
    refine h q (List.mem_cons_of_mem _ ?_)
    rw [AD.arrs_eq, rowOf_ne hne]
    rcases List.mem_cons.1 hq with rfl | hq
    ·refine List.mem_append_left _ ?_
     rw [List.mem_singleton]
     conv => rhs; rw [h1]
     simp
    ·refine List.mem_append_right _ (List.mem_flatMap.2 ⟨c, List.mem_of_getElem? hc, hq⟩)) hu
   rw [hl] at this
   simpa only [AD.loc, hc] using this
  ·cases hu
theorem slot_keys {o : Nat} {pre post : List AV} {t : AD} : (slotU o pre post t).map (·.1) = o :: t.arrs.map (·.1) := rfl
/-- A text that is written at a place. -/
theorem AD.write {σ : Store} (s : ByteArray) : ∀ (p : List Int) (t u : AD) (o : Nat) (pre post : List AV), HasU σ (slotU o pre post t) → ((slotU o pre post t).map (·.1)).Nodup → t.sub p = some u →
  ∃ cells, σ.objs[(AD.loc (o, pre.length) t p).1]? = some (.arr cells) ∧ (AD.loc (o, pre.length) t p).2 + 4 ≤ cells.length ∧
   ({ σ with objs := σ.objs.set (AD.loc (o, pre.length) t p).1 (.arr (overlay cells ((AD.loc (o, pre.length) t p).2 + 2) [.pv (.str s)])) } : Store) = updS σ (slotU o pre post (t.setText p s))
 | [], .mk k n tx o' l, u, o, pre, post, h, hn, hu => by
  refine ⟨_, h _ (List.mem_cons_self), by simp [AD.loc, AD.cells_len], ?_⟩
  have hself : ∀ (X : AObj), setAll (σ.objs.set o X) (AD.mk k n tx o' l).arrs = σ.objs.set o X := fun X => by
   refine setAll_self fun q hq => ?_
   rw [List.getElem?_set_ne]
   ·exact h q (List.mem_cons_of_mem _ hq)
   ·rintro rfl
    rw [slot_keys] at hn
    exact (List.nodup_cons.1 hn).1 (List.mem_map.2 ⟨q, hq, rfl⟩)
  unfold updS slotU
  simp only [AD.loc, setAll, AD.setText]
  rw [show (AD.mk k n s o' l).arrs = (AD.mk k n tx o' l).arrs from rfl, hself]
  congr 3
  simp [overlay, AD.cells, List.take_append, List.drop_append]
  rw [List.take_of_length_le (by omega), List.drop_of_length_le (by omega), show pre.length + 2 + 1 - pre.length = 3 by omega]; rfl
 | i :: p, .mk k n tx o' l, u, o, pre, post, h, hn, hu => by
  simp only [AD.sub] at hu
  split at hu
  ·obtain ⟨c, hc, hu⟩ := Option.bind_eq_some_iff.1 hu
   simp only [AD.kids] at hc
   obtain ⟨h1, h2⟩ := set_split (c' := c.setText p s) hc
   have hne : l ≠ [] := by intro e; rw [e] at hc; simp at hc
   have hl : ((l.take i.toNat).flatMap AD.cells).length = i.toNat * 4 := by
    rw [flatCells_len, List.length_take, Nat.min_eq_left (Nat.le_of_lt (List.getElem?_eq_some_iff.1 hc).1)]; omega
   generalize hA : l.take i.toNat = A at *
   generalize hB : l.drop (i.toNat + 1) = B at *
   have hrow : (AD.mk k n tx o' l).arrs = (o', .arr (A.flatMap AD.cells ++ c.cells ++ B.flatMap AD.cells)) :: (A.flatMap AD.arrs ++ c.arrs ++ B.flatMap AD.arrs) := by
    rw [AD.arrs, rowOf_ne hne, AD.arrss_flat, h1]; simp
   have hset : (AD.mk k n tx o' l).setText (i :: p) s = .mk k n tx o' (A ++ c.setText p s :: B) := by
    simp only [AD.setText, hc, h2]
   have hrow' : ((AD.mk k n tx o' l).setText (i :: p) s).arrs = (o', .arr (A.flatMap AD.cells ++ (c.setText p s).cells ++ B.flatMap AD.cells)) :: (A.flatMap AD.arrs ++ (c.setText p s).arrs ++ B.flatMap AD.arrs) := by
    rw [hset, AD.arrs, rowOf_ne (by simp), AD.arrss_flat]; simp
   have hcells : ((AD.mk k n tx o' l).setText (i :: p) s).cells = (AD.mk k n tx o' l).cells := by
    rw [hset, AD.cells, AD.cells, kvOf_len (l := A ++ c.setText p s :: B) (r := l)]
    rw [h1]; simp
   have hsub : ∀ q, q ∈ slotU o' (A.flatMap AD.cells) (B.flatMap AD.cells) c → q ∈ slotU o pre post (AD.mk k n tx o' l) := by
    intro q hq
    refine List.mem_cons_of_mem _ ?_
    rw [hrow]
    rcases List.mem_cons.1 hq with rfl | hq
    ·exact List.mem_cons_self
    ·exact List.mem_cons_of_mem _ (List.mem_append_left _ (List.mem_append_right _ hq))
   have hkeys : (slotU o pre post (AD.mk k n tx o' l)).map (·.1) = o :: o' :: ((A.flatMap AD.arrs).map (·.1) ++ c.arrs.map (·.1) ++ (B.flatMap AD.arrs).map (·.1)) := by
    rw [slot_keys, hrow]; simp
   rw [hkeys] at hn
   have hn1 := List.nodup_cons.1 hn
   have hn2 := List.nodup_cons.1 hn1.2
   have hn3 := List.nodup_append.1 hn2.2
   have hn4 := List.nodup_append.1 hn3.1
   have hnc : ((slotU o' (A.flatMap AD.cells) (B.flatMap AD.cells) c).map (·.1)).Nodup := by
    rw [slot_keys]
    exact List.nodup_cons.2 ⟨fun hm => hn2.1 (List.mem_append_left _ (List.mem_append_right _ hm)), hn4.2.1⟩
   obtain ⟨cells, k1, k2, k3⟩ := AD.write s p c u o' (A.flatMap AD.cells) (B.flatMap AD.cells) (fun q hq => h q (hsub q hq)) hnc hu
   rw [hl] at k1 k2 k3
   simp only [AD.loc, AD.kids, hc, AD.o]
   refine ⟨cells, k1, k2, k3.trans ?_⟩
   -- the rest is as it was
   have hkc : (slotU o' (A.flatMap AD.cells) (B.flatMap AD.cells) (c.setText p s)).map (·.1) = o' :: c.arrs.map (·.1) := by rw [slot_keys, AD.setText_keys]
   have hnc' : ((slotU o' (A.flatMap AD.cells) (B.flatMap AD.cells) (c.setText p s)).map (·.1)).Nodup := by rw [hkc, ← slot_keys (pre := A.flatMap AD.cells) (post := B.flatMap AD.cells)]; exact hnc
   have hkt : (slotU o pre post ((AD.mk k n tx o' l).setText (i :: p) s)).map (·.1) = o :: o' :: ((A.flatMap AD.arrs).map (·.1) ++ c.arrs.map (·.1) ++ (B.flatMap AD.arrs).map (·.1)) := by
    rw [slot_keys, AD.setText_keys, ← slot_keys (pre := pre) (post := post), hkeys]
   unfold updS
   congr 1
   refine (setAll_ext (by rw [hkt]; exact hn) (by rw [setAll_length]) (fun q hq => ?_) (fun j hj => ?_)).symm
   ·have old : q ∈ slotU o pre post (AD.mk k n tx o' l) → q.1 ∉ (slotU o' (A.flatMap AD.cells) (B.flatMap AD.cells) (c.setText p s)).map (·.1) → (setAll σ.objs (slotU o' (A.flatMap AD.cells) (B.flatMap AD.cells) (c.setText p s)))[q.1]? = some q.2 := fun h3 h4 => by
     rw [setAll_out h4]; exact h q h3
    have new : q ∈ slotU o' (A.flatMap AD.cells) (B.flatMap AD.cells) (c.setText p s) → (setAll σ.objs (slotU o' (A.flatMap AD.cells) (B.flatMap AD.cells) (c.setText p s)))[q.1]? = some q.2 := fun h3 => by
     refine setAll_in hnc' h3 ?_
     have hm : q.1 ∈ (slotU o' (A.flatMap AD.cells) (B.flatMap AD.cells) c).map (·.1) := by rw [slot_keys, ← hkc]; exact List.mem_map.2 ⟨q, h3, rfl⟩
     obtain ⟨q', hq', e⟩ := List.mem_map.1 hm
     rw [← e]
     exact (List.getElem?_eq_some_iff.1 (h q' (hsub q' hq'))).1
    unfold slotU at hq
    rw [hrow', hcells] at hq
    rcases List.mem_cons.1 hq with rfl | hq
    ·refine old (List.mem_cons_self) ?_
     rw [hkc]
     intro hm
     refine hn1.1 ?_
     rcases List.mem_cons.1 hm with e | hm
     ·rw [show o = o' from e]; exact List.mem_cons_self
     ·exact List.mem_cons_of_mem _ (List.mem_append_left _ (List.mem_append_right _ hm))
    ·rcases List.mem_cons.1 hq with rfl | hq
     ·exact new List.mem_cons_self
     ·rcases List.mem_append.1 hq with hq | hq
      ·rcases List.mem_append.1 hq with hq | hq
       ·have hm1 : q.1 ∈ (A.flatMap AD.arrs).map (·.1) := List.mem_map.2 ⟨q, hq, rfl⟩
        refine old (List.mem_cons_of_mem _ (by rw [hrow]; exact List.mem_cons_of_mem _ (List.mem_append_left _ (List.mem_append_left _ hq)))) ?_
        rw [hkc]
        intro hm
        rcases List.mem_cons.1 hm with e | hm
        ·exact hn2.1 (by rw [← e]; exact List.mem_append_left _ (List.mem_append_left _ hm1))
        ·exact hn4.2.2 _ hm1 _ hm rfl
       ·exact new (List.mem_cons_of_mem _ hq)
      ·have hm1 : q.1 ∈ (B.flatMap AD.arrs).map (·.1) := List.mem_map.2 ⟨q, hq, rfl⟩
       refine old (List.mem_cons_of_mem _ (by rw [hrow]; exact List.mem_cons_of_mem _ (List.mem_append_right _ hq))) ?_
       rw [hkc]
       intro hm
       rcases List.mem_cons.1 hm with e | hm
       ·exact hn2.1 (by rw [← e]; exact List.mem_append_right _ hm1)
       ·exact hn3.2.2 _ (List.mem_append_right _ hm) _ hm1 rfl
   ·rw [hkt] at hj
    rw [setAll_out]
    rw [hkc]
    intro hm
    apply hj
    rcases List.mem_cons.1 hm with e | hm
    ·rw [e]; exact List.mem_cons_of_mem _ List.mem_cons_self
    ·exact List.mem_cons_of_mem _ (List.mem_cons_of_mem _ (List.mem_append_left _ (List.mem_append_right _ hm)))
  ·cases hu
/-- A tree whose root lies in a row of its own. -/
def rootU (ob : Nat) (t : AD) : List (Nat × AObj) := (ob, .arr t.cells) :: t.arrs
theorem rootU_slot (ob : Nat) (t : AD) : rootU ob t = slotU ob [] [] t := by simp [rootU, slotU]
theorem rootU_keys (ob : Nat) (t : AD) : (rootU ob t).map (·.1) = ob :: t.arrs.map (·.1) := rfl
end Go.Aw

namespace Go.Aw
open Go
section
variable {β : Type} {S : Type} (eb : β → PV)
/-- A scope: the names with what they are bound to, the nearest first. -/
def encScG : List (ByteArray × β) → PV
 | [] => .nilp
 | q :: r => .ptr (.str q.1 :: (eb q.2).cells ++ [encScG r])
theorem encScG_at {l : List (ByteArray × β)} {k : Nat} {x : ByteArray × β} (h : l[k]? = some x) : encScG eb (l.drop k) = .ptr (.str x.1 :: (eb x.2).cells ++ [encScG eb (l.drop (k + 1))]) := by
 obtain ⟨hk, rfl⟩ := List.getElem?_eq_some_iff.1 h
 rw [List.drop_eq_getElem_cons hk]; rfl
theorem encScG_ne (l : List (ByteArray × β)) (k : Nat) : (AV.pv (encScG eb (l.drop k)) = .pv .nilp ∧ decide (k < l.length) = false) ∨ ∃ ps, AV.pv (encScG eb (l.drop k)) = .pv (.ptr ps) ∧ decide (k < l.length) = true := by
 by_cases h : k < l.length
 ·refine .inr ⟨_, congrArg AV.pv (encScG_at eb (x := l[k]) (by simp [h])), by simpa using h⟩
 ·refine .inl ⟨?_, by simpa using h⟩
  rw [List.drop_of_length_le (by omega)]; rfl
@[go_sem] theorem encScG_cells (l : List (ByteArray × β)) : (AV.pv (encScG eb l)).cells = some [.pv (encScG eb l)] := by cases l <;> rfl
@[go_sem] theorem encScG_nrm (l : List (ByteArray × β)) : PV.nrm (encScG eb l) = encScG eb l := by cases l <;> rfl
@[go_sem] theorem encScG_pc (l : List (ByteArray × β)) : (encScG eb l).cells = [encScG eb l] := by cases l <;> rfl
/-- What a name is bound to. -/
def lookSc (sc : List (ByteArray × β)) (x : ByteArray) : Option β := (sc.find? fun q => decide (q.1 = x)).map (·.2)
/-- A scope with names in it, the last one the nearest. -/
def wthSc (sc : List (ByteArray × β)) (ns : List ByteArray) (bs : List β) : List (ByteArray × β) := (ns.zip bs).reverse ++ sc
theorem wthSc_next {ns : List ByteArray} {bs : List β} {sc : List (ByteArray × β)} {k : Nat} {x : ByteArray} {b : β} (h : ns[k]? = some x) (hb : bs[k]? = some b) :
  PV.ptr (.str x :: (eb b).cells ++ [encScG eb (wthSc sc (ns.take k) (bs.take k))]) = encScG eb (wthSc sc (ns.take (k + 1)) (bs.take (k + 1))) := by
 have hl : (ns.take k).length = (bs.take k).length := by
  have h1 := (List.getElem?_eq_some_iff.1 h).1
  have h2 := (List.getElem?_eq_some_iff.1 hb).1
  simp; omega
 unfold wthSc
 rw [take_next h, take_next hb, List.zip_append hl, List.reverse_append]; rfl

variable (nam : D → List Int → List ByteArray → Int → S → List β × S) (vari : D → List Int → Option β → S → S)
/-- The walk: what is bound at names, what is done at variables, in preorder. -/
def wk : D → List Int → List (ByteArray × β) → S → S :=
 scata (fun d rs p sc s =>
  if (synKind d == 2) = true then vari d p (lookSc sc d.text) s
  else if (synKind d == 5 || synKind d == 9) = true then
   match rs with
   | [q] => let r := nam d p (ownS d) 0 s; q.2 (p ++ q.1.p) (wthSc sc (ownS d) r.1) r.2
   | _ => s
  else if (synKind d == 6) = true then
   match rs with
   | [q, q'] => let r := nam d p (ownS d) 0 s; q'.2 (p ++ q'.1.p) (wthSc sc (ownS d) r.1) (q.2 (p ++ q.1.p) sc r.2)
   | _ => s
  else if (synKind d == 7) = true then
   let r := nam d p (ownS d) 0 s
   let inn := wthSc sc (ownS d) r.1
   let s' := ((d1 d.kids).kids.zip rs).zipIdx.foldl (fun s q =>
    let r2 := nam d p (parS q.1.1) (fromS (d1 d.kids).kids q.2) s
    q.1.2.2 (p ++ q.1.2.1.p) (wthSc inn (parS q.1.1) r2.1) r2.2) r.2
   match rs.getLast? with
   | some q => q.2 (p ++ q.1.p) inn s'
   | none => s'
  else rs.foldl (fun s q => q.2 (p ++ q.1.p) sc s) s)
theorem wk_eq (d : D) (p : List Int) (sc : List (ByteArray × β)) (s : S) : wk nam vari d p sc s =
  if (synKind d == 2) = true then vari d p (lookSc sc d.text) s
  else if (synKind d == 5 || synKind d == 9) = true then
   match (subs d).map fun q => (q.1, wk nam vari q.2) with
   | [q] => let r := nam d p (ownS d) 0 s; q.2 (p ++ q.1.p) (wthSc sc (ownS d) r.1) r.2
   | _ => s
  else if (synKind d == 6) = true then
   match (subs d).map fun q => (q.1, wk nam vari q.2) with
   | [q, q'] => let r := nam d p (ownS d) 0 s; q'.2 (p ++ q'.1.p) (wthSc sc (ownS d) r.1) (q.2 (p ++ q.1.p) sc r.2)
   | _ => s
  else if (synKind d == 7) = true then
   let r := nam d p (ownS d) 0 s
   let inn := wthSc sc (ownS d) r.1
   let s' := ((d1 d.kids).kids.zip ((subs d).map fun q => (q.1, wk nam vari q.2))).zipIdx.foldl (fun s q =>
    let r2 := nam d p (parS q.1.1) (fromS (d1 d.kids).kids q.2) s
    q.1.2.2 (p ++ q.1.2.1.p) (wthSc inn (parS q.1.1) r2.1) r2.2) r.2
   match ((subs d).map fun q => (q.1, wk nam vari q.2)).getLast? with
   | some q => q.2 (p ++ q.1.p) inn s'
   | none => s'
  else ((subs d).map fun q => (q.1, wk nam vari q.2)).foldl (fun s q => q.2 (p ++ q.1.p) sc s) s := by
 show scata (β := List Int → List (ByteArray × β) → S → S) _ d p sc s = _
 rw [scata_eq]; rfl
theorem wk_name {d : D} {p : List Int} {sc : List (ByteArray × β)} {s : S} (h : synKind d = 2) : wk nam vari d p sc s = vari d p (lookSc sc d.text) s := by
 rw [wk_eq, if_pos (by simpa using h)]
theorem wk_fn {d : D} {p : List Int} {sc : List (ByteArray × β)} {s : S} (h : synKind d = 5 ∨ synKind d = 9) :
  wk nam vari d p sc s = wk nam vari (d2 d.kids) (p ++ [2]) (wthSc sc (ownS d) (nam d p (ownS d) 0 s).1) (nam d p (ownS d) 0 s).2 := by
 rw [wk_eq, if_neg (by simp; omega), if_pos (by simpa using h), subs_of_fn h]; rfl
theorem wk_let {d : D} {p : List Int} {sc : List (ByteArray × β)} {s : S} (h : synKind d = 6) :
  wk nam vari d p sc s = wk nam vari (d.kids.getD 3 dnone) (p ++ [3]) (wthSc sc (ownS d) (nam d p (ownS d) 0 s).1) (wk nam vari (d2 d.kids) (p ++ [2]) sc (nam d p (ownS d) 0 s).2) := by
 rw [wk_eq, if_neg (by simp; omega), if_neg (by simp; omega), if_pos (by simpa using h), subs_of_let h]; rfl
/-- What the first definitions of a rec leave. -/
def wkd (d : D) (p : List Int) (inn : List (ByteArray × β)) (k : Nat) (s : S) : S :=
 ((d1 d.kids).kids.take k).zipIdx.foldl (fun s q =>
  let r := nam d p (parS q.1) (fromS (d1 d.kids).kids q.2) s
  wk nam vari (d2 q.1.kids) (p ++ [1, (q.2 : Int), 2]) (wthSc inn (parS q.1) r.1) r.2) s
theorem wkd_next {d : D} {p : List Int} {inn : List (ByteArray × β)} {k : Nat} {s : S} {x : D} (h : (d1 d.kids).kids[k]? = some x) :
  wkd nam vari d p inn (k + 1) s = wk nam vari (d2 x.kids) (p ++ [1, (k : Int), 2]) (wthSc inn (parS x) (nam d p (parS x) (fromS (d1 d.kids).kids k) (wkd nam vari d p inn k s)).1) (nam d p (parS x) (fromS (d1 d.kids).kids k) (wkd nam vari d p inn k s)).2 := by
 have hk := (List.getElem?_eq_some_iff.1 h).1
 unfold wkd
 rw [take_next h, List.zipIdx_append, List.foldl_append]
 have e : ([x] : List D).zipIdx (0 + ((d1 d.kids).kids.take k).length) = [(x, k)] := by simp; omega
 rw [e]; rfl
theorem zip_zipIdx {γ : Type} (f : D → Nat → γ) : ∀ (l : List D) (n : Nat) (r : List γ), (l.zip ((l.zipIdx n).map (fun q => f q.1 q.2) ++ r)) = (l.zipIdx n).map fun q => (q.1, f q.1 q.2)
 | [], n, r => by simp
 | x :: l, n, r => by simp [List.zipIdx_cons, zip_zipIdx f l (n + 1) r]
theorem zipIdx_map2 {γ : Type} (g : D × Nat → γ) : ∀ (l : List D) (n : Nat), ((l.zipIdx n).map g).zipIdx n = (l.zipIdx n).map fun q => (g q, q.2)
 | [], n => by simp
 | x :: l, n => by simp [List.zipIdx_cons, zipIdx_map2 g l (n + 1)]
theorem mapI_zipIdx {γ : Type} (f : Nat → D → γ) (l : List D) : mapI f l = (l.zipIdx 0).map fun q => f q.2 q.1 := by
 apply List.ext_getElem?
 intro i
 rw [mapI_get, List.getElem?_map, List.getElem?_zipIdx]
 cases l[i]? <;> simp
theorem wk_rec {d : D} {p : List Int} {sc : List (ByteArray × β)} {s : S} (h : synKind d = 7) :
  wk nam vari d p sc s = wk nam vari (d2 d.kids) (p ++ [2]) (wthSc sc (ownS d) (nam d p (ownS d) 0 s).1) (wkd nam vari d p (wthSc sc (ownS d) (nam d p (ownS d) 0 s).1) (d1 d.kids).kids.length (nam d p (ownS d) 0 s).2) := by
 rw [wk_eq, if_neg (by simp; omega), if_neg (by simp; omega), if_neg (by simp; omega), if_pos (by simpa using h), subs_of_rec h]
 simp only [List.map_append, List.map_cons, List.map_nil, List.getLast?_append, List.getLast?_singleton, Option.or_some, Option.some_or, mapI_zipIdx, List.map_map]
 rw [show ((fun (q : Sub × D) => (q.1, wk nam vari q.2)) ∘ fun (q : D × Nat) => subR d q.2 q.1) = fun q => ((fun (x : D) (i : Nat) => ((subR d i x).1, wk nam vari (subR d i x).2)) q.1 q.2) from rfl]
 rw [zip_zipIdx (fun (x : D) (i : Nat) => ((subR d i x).1, wk nam vari (subR d i x).2)), zipIdx_map2, List.foldl_map]
 unfold wkd
 rw [List.take_length]; rfl
/-- What the first parts leave, where nothing is bound. -/
def wks (d : D) (p : List Int) (sc : List (ByteArray × β)) (k : Nat) (s : S) : S := ((subs d).take k).foldl (fun s q => wk nam vari q.2 (p ++ q.1.p) sc s) s
theorem wks_next {d : D} {p : List Int} {sc : List (ByteArray × β)} {k : Nat} {s : S} {q : Sub × D} (h : (subs d)[k]? = some q) : wks nam vari d p sc (k + 1) s = wk nam vari q.2 (p ++ q.1.p) sc (wks nam vari d p sc k s) := by
 unfold wks
 rw [take_next h, List.foldl_append]; rfl
theorem wks_all {d : D} {p : List Int} {sc : List (ByteArray × β)} {s : S} (h : synKind d ≠ 2 ∧ synKind d ≠ 5 ∧ synKind d ≠ 9 ∧ synKind d ≠ 6 ∧ synKind d ≠ 7) : wks nam vari d p sc (subs d).length s = wk nam vari d p sc s := by
 rw [wk_eq, if_neg (by simp; omega), if_neg (by simp; omega), if_neg (by simp; omega), if_neg (by simp; omega), List.foldl_map]
 unfold wks
 rw [List.take_length]
end
/-- The names that an expression has bound when the walk asks for them. -/
inductive NmOk (d : D) : List ByteArray → Int → Prop where
 | own (h : synKind d = 5 ∨ synKind d = 9 ∨ synKind d = 6 ∨ synKind d = 7) : NmOk d (ownS d) 0
 | par (h : synKind d = 7) {k : Nat} {x : D} (hx : (d1 d.kids).kids[k]? = some x) : NmOk d (parS x) (fromS (d1 d.kids).kids k)
theorem updS_updS' {σ : Store} {U V : List (Nat × AObj)} {ks : List Nat} (hu : U.map (·.1) = ks) (hv : V.map (·.1) = ks) (hn : ks.Nodup) : updS (updS σ U) V = updS σ V :=
 updS_upd (by rw [hv]; exact hn) (by rw [hu, hv]; exact fun _ h => h)
theorem lookSc_found {β : Type} {l : List (ByteArray × β)} {x : ByteArray} {k : Nat} {y : ByteArray × β} (hn : NotYet (fun y : ByteArray × β => decide (y.1 = x)) l k) (hy : l[k]? = some y) (h : decide (y.1 = x) = true) : lookSc l x = some y.2 := by
 unfold lookSc
 obtain ⟨hk, he⟩ := List.getElem?_eq_some_iff.1 hy
 have : l.find? (fun q => decide (q.1 = x)) = some y := by
  rw [List.find?_eq_some_iff_getElem]
  refine ⟨h, k, hk, he, fun j hj => ?_⟩
  have := hn j l[j] hj (by simp)
  simpa using this
 rw [this]; rfl
theorem lookSc_none {β : Type} {l : List (ByteArray × β)} {x : ByteArray} (h : l.any (fun y => decide (y.1 = x)) = false) : lookSc l x = none := by
 unfold lookSc
 have : l.find? (fun q => decide (q.1 = x)) = none := by
  rw [List.find?_eq_none]
  intro y hy
  rw [List.any_eq_false] at h
  exact h y hy
 rw [this]; rfl
theorem fromS_next {l : List D} {k : Nat} {x : D} (h : l[k]? = some x) : fromS l (k + 1) = fromS l k + ((parS x).length : Int) := by
 unfold fromS parS
 rw [take_next h, List.map_append, List.sum_append]
 simp; omega
theorem fromS_zero (l : List D) : fromS l 0 = (l.length : Int) := by simp [fromS]
theorem par_len (x : D) : (parS x).length ≤ x.size := by
 unfold parS
 rw [List.length_map]
 have h1 := D.kids_length_lt (d1 x.kids)
 by_cases h : 1 < x.kids.length
 ·have h2 : (d1 x.kids).size < x.size := D.size_kid_lt (getD_mem (n := 1) h)
  omega
 ·have h2 : d1 x.kids = dnone := by
   show x.kids.getD 1 dnone = dnone
   rw [List.getD_eq_getElem?_getD, List.getElem?_eq_none (by omega)]; rfl
  rw [h2]; simp [dnone, D.kids]
theorem fromS_le (l : List D) : ∀ k, k ≤ l.length → 0 ≤ fromS l k ∧ fromS l k ≤ (l.length : Int) + (D.sizes l : Int) := by
 intro k hk
 have key : ∀ (l : List D), 0 ≤ (l.map fun x => ((d1 x.kids).kids.length : Int)).sum ∧ (l.map fun x => ((d1 x.kids).kids.length : Int)).sum ≤ (D.sizes l : Int) := by
  intro l
  induction l with
  | nil => simp [D.sizes]
  | cons x l ih =>
   have := par_len x
   unfold parS at this
   rw [List.length_map] at this
   simp only [List.map_cons, List.sum_cons, D.sizes]
   omega
 have h1 := key (l.take k)
 have h2 : ∀ (l : List D) (k : Nat), D.sizes (l.take k) ≤ D.sizes l := by
  intro l
  induction l with
  | nil => intro k; simp
  | cons x l ih =>
   intro k
   cases k with
   | zero => simp [D.sizes]
   | succ k => have := ih k; simp [D.sizes]; omega
 have h3 := h2 l k
 unfold fromS
 omega
/-- How many names are bound in an expression. -/
def ncnt : D → Nat := scata (fun d rs => (ownS d).length + (if (synKind d == 7) = true then ((d1 d.kids).kids.map fun x => (parS x).length).sum else 0) + (rs.map (·.2)).sum)
theorem ncnt_eq (d : D) : ncnt d = (ownS d).length + (if (synKind d == 7) = true then ((d1 d.kids).kids.map fun x => (parS x).length).sum else 0) + ((subs d).map fun q => ncnt q.2).sum := by
 show scata (β := Nat) _ d = _
 rw [scata_eq, List.map_map]; rfl
def ncd (d : D) (k : Nat) : Nat := (((d1 d.kids).kids.take k).map fun x => (parS x).length + ncnt (d2 x.kids)).sum
def ncs (d : D) (k : Nat) : Nat := (((subs d).take k).map fun q => ncnt q.2).sum
theorem ncd_next {d : D} {k : Nat} {x : D} (h : (d1 d.kids).kids[k]? = some x) : ncd d (k + 1) = ncd d k + (parS x).length + ncnt (d2 x.kids) := by
 unfold ncd
 rw [take_next h, List.map_append, List.sum_append]; simp; omega
theorem ncs_next {d : D} {k : Nat} {q : Sub × D} (h : (subs d)[k]? = some q) : ncs d (k + 1) = ncs d k + ncnt q.2 := by
 unfold ncs
 rw [take_next h, List.map_append, List.sum_append]; simp
theorem sum_take_mono {α : Type} (f : α → Nat) (l : List α) (k : Nat) : ((l.take k).map f).sum ≤ (l.map f).sum := by
 conv => rhs; rw [← List.take_append_drop k l, List.map_append, List.sum_append]
 omega
theorem ncd_mono (d : D) (k : Nat) : ncd d k ≤ ncd d (d1 d.kids).kids.length := by unfold ncd; rw [List.take_length]; exact sum_take_mono _ _ _
theorem ncs_mono (d : D) (k : Nat) : ncs d k ≤ ncs d (subs d).length := by unfold ncs; rw [List.take_length]; exact sum_take_mono _ _ _
theorem ncnt_fn {d : D} (h : synKind d = 5 ∨ synKind d = 9) : ncnt d = (ownS d).length + ncnt (d2 d.kids) := by
 rw [ncnt_eq, if_neg (by simp; omega), subs_of_fn h]; simp [subL]
theorem ncnt_let {d : D} (h : synKind d = 6) : ncnt d = (ownS d).length + ncnt (d2 d.kids) + ncnt (d.kids.getD 3 dnone) := by
 rw [ncnt_eq, if_neg (by simp; omega), subs_of_let h]; simp [subL]; omega
theorem sum_map_add {α : Type} (f g : α → Nat) (l : List α) : (l.map fun x => f x + g x).sum = (l.map f).sum + (l.map g).sum := by
 induction l with
 | nil => rfl
 | cons a l ih => simp [ih]; omega
theorem mapI_sum {α : Type} (f : Nat → α → Sub × D) (g : α → Nat) (hf : ∀ i x, ncnt (f i x).2 = g x) (l : List α) : ((mapI f l).map fun q => ncnt q.2).sum = (l.map g).sum := by
 have : ((mapI f l).map fun q => ncnt q.2) = l.map g := by
  apply List.ext_getElem?
  intro i
  rw [List.getElem?_map, mapI_get, List.getElem?_map]
  cases l[i]? with
  | none => rfl
  | some x => simp [hf]
 rw [this]
theorem ncnt_rec {d : D} (h : synKind d = 7) : ncnt d = (ownS d).length + ncd d (d1 d.kids).kids.length + ncnt (d2 d.kids) := by
 rw [ncnt_eq, if_pos (by simpa using h), subs_of_rec h, List.map_append, List.sum_append, mapI_sum (subR d) (fun x => ncnt (d2 x.kids)) (fun _ _ => rfl)]
 unfold ncd
 rw [List.take_length, sum_map_add]
 simp [subL]; omega
theorem ncnt_rest {d : D} (h : synKind d ≠ 5 ∧ synKind d ≠ 9 ∧ synKind d ≠ 6 ∧ synKind d ≠ 7) : ncnt d = ncs d (subs d).length := by
 rw [ncnt_eq, if_neg (by simp; omega)]
 have : ownS d = [] := by unfold ownS; rw [if_neg (by simp; omega), if_neg (by simp; omega), if_neg (by simp; omega), if_neg (by simp; omega)]
 rw [this]
 unfold ncs
 rw [List.take_length]; simp
/-- What is known of the functions that a walk calls, and of the objects that they change. -/
structure WkH (P : Program) (G : List (Nat × PV)) {β S : Type} (eb : β → PV) (zero : PV) (U : S → List (Nat × AObj)) (ks : List Nat) (X : List (Nat × AObj)) (ow : Nat) (nf : FuncId) (nc : List AV) (vf : FuncId) (vc : List AV)
  (nam : D → List Int → List ByteArray → Int → S → List β × S) (vari : D → List Int → Option β → S → S) (Ok : D → List Int → Prop) (Good : Nat → S → Prop) : Prop where
 hks : ∀ s, (U s).map (·.1) = ks
 hnd : ks.Nodup
 hX : ∀ q, q ∈ X → q.1 ∉ ks
 hw : (ow, .box [.func (.func nf) nc, .func (.func vf) vc]) ∈ X
 cn : Callable P nf
 cv : Callable P vf
 nln : AV.noLs nc = true
 nlv : AV.noLs vc = true
 hcl : ∀ s no nt, (∀ i, i ∈ ks → i < no) → ∀ q, q ∈ U s → q.2.clo no nt 0 = true
 hOk : ∀ d p q, Ok d p → q ∈ subs d → Ok q.2 (p ++ q.1.p)
 gl : ∀ d p ns n s, (nam d p ns n s).1.length = ns.length
 gn : ∀ d p ns n m s, Ok d p → Good m s → NmOk d ns n → Good (m + ns.length) (nam d p ns n s).2
 gv : ∀ d p b m s, Ok d p → Good m s → synKind d = 2 → Good m (vari d p b s)
 hn : ∀ d p ns n m s σ, d.size ≤ 100000000 → p.length ≤ 400000000 → Ok d p → Good m s → m + ns.length ≤ 1000000000 → NmOk d ns n → σ.gl = G → HasU σ (U s) → HasU σ X →
  ACalls P nf ([.pv (enc d), .pv (wPV p), .pv (.slice (ns.map .str)), .pv (.int .i64 n)] ++ nc) σ fun r σ' => r = .pv (.slice ((nam d p ns n s).1.map eb)) ∧ σ' = updS σ (U (nam d p ns n s).2)
 hv : ∀ d p b m s σ, d.size ≤ 100000000 → p.length ≤ 400000000 → Ok d p → Good m s → synKind d = 2 → σ.gl = G → HasU σ (U s) → HasU σ X →
  ACalls P vf ([.pv (enc d), .pv (wPV p), .pv ((b.map eb).getD zero), .pv (.bool b.isSome)] ++ vc) σ fun r σ' => r = .tuple [] ∧ σ' = updS σ (U (vari d p b s))
section
variable {P : Program} {G : List (Nat × PV)} {β S : Type} {eb : β → PV} {zero : PV} {U : S → List (Nat × AObj)} {ks : List Nat} {X : List (Nat × AObj)} {ow : Nat} {nf : FuncId} {nc : List AV} {vf : FuncId} {vc : List AV}
 {nam : D → List Int → List ByteArray → Int → S → List β × S} {vari : D → List Int → Option β → S → S} {Ok : D → List Int → Prop} {Good : Nat → S → Prop} (H : WkH P G eb zero U ks X ow nf nc vf vc nam vari Ok Good)
include H
theorem WkH.lt {σ : Store} {s : S} (h : HasU σ (U s)) {i : Nat} (hi : i ∈ ks) : i < σ.objs.length := by
 rw [← H.hks s] at hi
 obtain ⟨q, hq, rfl⟩ := List.mem_map.1 hi
 exact h.lt hq
theorem WkH.has {σ : Store} {s s' : S} (h : HasU σ (U s)) : HasU (updS σ (U s')) (U s') :=
 updS_has (by rw [H.hks]; exact H.hnd) (fun q hq => H.lt h (by rw [← H.hks s']; exact List.mem_map.2 ⟨q, hq, rfl⟩))
theorem WkH.hasX {σ : Store} {s' : S} (h : HasU σ X) : HasU (updS σ (U s')) X := fun q hq => by
 rw [updS_ne (by rw [H.hks]; exact H.hX q hq)]; exact h q hq
theorem WkH.ne {σ : Store} {s' : S} {i : Nat} (h : i ∉ ks) : (updS σ (U s')).objs[i]? = σ.objs[i]? := updS_ne (by rw [H.hks]; exact h)
theorem WkH.upd {σ : Store} {s s' : S} : updS (updS σ (U s)) (U s') = updS σ (U s') := updS_updS' (H.hks s) (H.hks s') H.hnd
theorem WkH.mask {σ : Store} {s' : S} {o : Nat} {ob : AObj} (h : (maskO ks σ.objs)[o]? = some ob) (hb : ob ≠ .box []) : (updS σ (U s')).objs[o]? = some ob := by
 have := maskO_some h hb
 rw [H.ne this.1]; exact this.2
theorem WkH.ltU {σ : Store} {s s' : S} (h : HasU σ (U s)) {q : Nat × AObj} (hq : q ∈ U s') : q.1 < σ.objs.length := H.lt h (by rw [← H.hks s']; exact List.mem_map.2 ⟨q, hq, rfl⟩)
theorem WkH.good : ∀ (d : D) (p : List Int) (sc : List (ByteArray × β)) (m : Nat) (s : S), Ok d p → Good m s → Good (m + ncnt d) (wk nam vari d p sc s) := by
 intro d
 induction d using D.indS with
 | h d ih =>
  intro p sc m s ho hg
  by_cases h2 : synKind d = 2
  ·rw [wk_name _ _ h2, ncnt_rest (by omega), show ncs d (subs d).length = 0 by rw [subs_of_none (by omega)]; rfl]; exact H.gv _ _ _ _ _ ho hg h2
  by_cases h5 : synKind d = 5 ∨ synKind d = 9
  ·rw [wk_fn _ _ h5, ncnt_fn h5, ← Nat.add_assoc]
   have hq : subL d 2 (d2 d.kids) ∈ subs d := by rw [subs_of_fn h5]; simp
   exact ih _ hq _ _ _ _ (H.hOk _ _ _ ho hq) (H.gn _ _ _ _ _ _ ho hg (.own (h5.elim .inl fun h => .inr (.inl h))))
  by_cases h6 : synKind d = 6
  ·rw [wk_let _ _ h6, ncnt_let h6, ← Nat.add_assoc, ← Nat.add_assoc]
   have hq : (⟨[2], []⟩, d2 d.kids) ∈ subs d := by rw [subs_of_let h6]; simp
   have hq3 : subL d 3 (d.kids.getD 3 dnone) ∈ subs d := by rw [subs_of_let h6]; simp
   exact ih _ hq3 _ _ _ _ (H.hOk _ _ _ ho hq3) (ih _ hq _ _ _ _ (H.hOk _ _ _ ho hq) (H.gn _ _ _ _ _ _ ho hg (.own (.inr (.inr (.inl h6))))))
  by_cases h7 : synKind d = 7
  ·rw [wk_rec _ _ h7, ncnt_rec h7, ← Nat.add_assoc, ← Nat.add_assoc]
   have hq : subL d 2 (d2 d.kids) ∈ subs d := by rw [subs_of_rec h7]; simp
   refine ih _ hq _ _ _ _ (H.hOk _ _ _ ho hq) ?_
   have h0 := H.gn _ _ _ _ _ _ ho hg (NmOk.own (.inr (.inr (.inr h7))))
   generalize wthSc sc (ownS d) (nam d p (ownS d) 0 s).1 = inn
   generalize (nam d p (ownS d) 0 s).2 = s0 at h0
   generalize m + (ownS d).length = m0 at h0
   have key : ∀ k, k ≤ (d1 d.kids).kids.length → Good (m0 + ncd d k) (wkd nam vari d p inn k s0) := by
    intro k
    induction k with
    | zero => intro _; exact h0
    | succ k ihk =>
     intro hk
     have hx : (d1 d.kids).kids[k]? = some ((d1 d.kids).kids[k]'(by omega)) := by simp
     rw [wkd_next _ _ hx, ncd_next hx, ← Nat.add_assoc, ← Nat.add_assoc]
     have hqi := List.mem_of_getElem? (subs_rec_at h7 hx)
     exact ih _ hqi _ _ _ _ (H.hOk _ _ _ ho hqi) (H.gn _ _ _ _ _ _ ho (ihk (by omega)) (.par h7 hx))
   exact key _ (Nat.le_refl _)
  ·rw [← wks_all nam vari (d := d) (p := p) (sc := sc) (s := s) ⟨h2, fun h => h5 (.inl h), fun h => h5 (.inr h), h6, h7⟩, ncnt_rest ⟨fun h => h5 (.inl h), fun h => h5 (.inr h), h6, h7⟩]
   have key : ∀ k, k ≤ (subs d).length → Good (m + ncs d k) (wks nam vari d p sc k s) := by
    intro k
    induction k with
    | zero => intro _; exact hg
    | succ k ihk =>
     intro hk
     have hx : (subs d)[k]? = some ((subs d)[k]'(by omega)) := by simp
     rw [wks_next _ _ hx, ncs_next hx, ← Nat.add_assoc]
     have hqi := List.mem_of_getElem? hx
     exact ih _ hqi _ _ _ _ (H.hOk _ _ _ ho hqi) (ihk (by omega))
   exact key _ (Nat.le_refl _)
theorem WkH.goodD {d : D} {p : List Int} {inn : List (ByteArray × β)} {m0 : Nat} {s0 : S} (h7 : synKind d = 7) (ho : Ok d p) (h0 : Good m0 s0) : ∀ k, k ≤ (d1 d.kids).kids.length → Good (m0 + ncd d k) (wkd nam vari d p inn k s0) := by
 intro k
 induction k with
 | zero => intro _; exact h0
 | succ k ihk =>
  intro hk
  have hx : (d1 d.kids).kids[k]? = some ((d1 d.kids).kids[k]'(by omega)) := by simp
  rw [wkd_next _ _ hx, ncd_next hx, ← Nat.add_assoc, ← Nat.add_assoc]
  have hqi := List.mem_of_getElem? (subs_rec_at h7 hx)
  exact H.good _ _ _ _ _ (H.hOk _ _ _ ho hqi) (H.gn _ _ _ _ _ _ ho (ihk (by omega)) (.par h7 hx))
theorem WkH.goodS {d : D} {p : List Int} {sc : List (ByteArray × β)} {m0 : Nat} {s0 : S} (ho : Ok d p) (h0 : Good m0 s0) : ∀ k, k ≤ (subs d).length → Good (m0 + ncs d k) (wks nam vari d p sc k s0) := by
 intro k
 induction k with
 | zero => intro _; exact h0
 | succ k ihk =>
  intro hk
  have hx : (subs d)[k]? = some ((subs d)[k]'(by omega)) := by simp
  rw [wks_next _ _ hx, ncs_next hx, ← Nat.add_assoc]
  exact H.good _ _ _ _ _ (H.hOk _ _ _ ho (List.mem_of_getElem? hx)) (ihk (by omega))
end
theorem hasU_set {σ : Store} {V : List (Nat × AObj)} {ob : AObj} (h : HasU σ V) {i : Nat} (hi : i ∉ V.map (·.1)) : HasU { σ with objs := σ.objs.set i ob } V := fun q hq => by
 show (σ.objs.set i ob)[q.1]? = _
 rw [List.getElem?_set_ne (by rintro rfl; exact hi (List.mem_map.2 ⟨q, hq, rfl⟩))]; exact h q hq
/-- A round's end: the record is as it was. -/
theorem updS_rec {X : Store} {V : List (Nat × AObj)} {r : Nat} {a b : AObj} (h : r ∉ V.map (·.1)) (ha : X.objs[r]? = some a) : { updS { X with objs := X.objs.set r b } V with objs := ((updS { X with objs := X.objs.set r b } V).objs).set r a } = updS X V := by
 have key : (setAll (X.objs.set r b) V).set r a = setAll X.objs V := by
  apply List.ext_getElem?
  intro i
  by_cases hi : i = r
  ·subst hi
   have hl := (List.getElem?_eq_some_iff.1 ha).1
   rw [List.getElem?_set_self (by rw [setAll_length]; simpa using hl), setAll_out h, ha]
  ·rw [List.getElem?_set_ne (fun e => hi e.symm)]
   have : ∀ (V : List (Nat × AObj)) (l m : List AObj), l[i]? = m[i]? → l.length = m.length → (setAll l V)[i]? = (setAll m V)[i]? := by
    intro V
    induction V with
    | nil => intro l m h _; exact h
    | cons q V ih =>
     intro l m h hl
     rw [setAll, setAll]
     refine ih _ _ ?_ (by simp [hl])
     rw [List.getElem?_set, List.getElem?_set, h, hl]
   exact this V _ _ (by rw [List.getElem?_set_ne (fun e => hi e.symm)]) (by simp)
 show (⟨X.gl, (setAll (X.objs.set r b) V).set r a, X.toks⟩ : Store) = ⟨X.gl, setAll X.objs V, X.toks⟩
 rw [key]
theorem cutSet_of {τ σ : Store} {i : Nat} {ob : AObj} {Y : Store} (hi : σ.objs.length ≤ i) (h : τ.cut σ.objs.length σ.toks.length = Y) : (⟨τ.gl, τ.objs.set i ob, τ.toks⟩ : Store).cut σ.objs.length σ.toks.length = Y := by
 rw [← h]
 unfold Store.cut
 simp only
 rw [List.take_set_of_le hi]
/-- What lies behind is let go. -/
theorem updAt_of {P : Program} {f : FuncId} {args : List AV} {σ : Store} {r0 : AV} {V : List (Nat × AObj)} (hV : ∀ q, q ∈ V → q.2.clo σ.objs.length σ.toks.length 0 = true) (hr : cloT σ.objs.length σ.toks.length r0 = true) (hrn : WVt σ.objs.length σ.toks.length 0 r0 r0)
  (h : ACalls P f args σ fun r σ' => r = r0 ∧ σ'.cut σ.objs.length σ.toks.length = updS σ V) : ACalls P f args σ fun r σ' => r = r0 ∧ σ' = updS σ V := by
 refine h.less fun r σ' ⟨h1, h2⟩ => ⟨_, _, r0, by subst h1; exact hrn, Nat.le_refl _, Nat.le_refl _, fun ob hob => ?_, rfl, h2⟩
 have : σ'.objs.take σ.objs.length = (updS σ V).objs := congrArg Store.objs h2
 rw [this] at hob
 rcases setAll_mem hob with h | ⟨q, hq, rfl⟩
 ·exact .inl h
 ·exact .inr (hV q hq)
theorem updAtW {P : Program} {f : FuncId} {args : List AV} {σ : Store} {r0 : AV} {V : List (Nat × AObj)} (hV : ∀ q, q ∈ V → q.2.clo σ.objs.length σ.toks.length 0 = true)
  (h : ACalls P f args σ fun r σ' => WVt σ.objs.length σ.toks.length 0 r r0 ∧ σ'.cut σ.objs.length σ.toks.length = updS σ V) : ACalls P f args σ fun r σ' => r = r0 ∧ σ' = updS σ V := by
 refine h.less fun r σ' ⟨h1, h2⟩ => ⟨_, _, r0, h1, Nat.le_refl _, Nat.le_refl _, fun ob hob => ?_, rfl, h2⟩
 have : σ'.objs.take σ.objs.length = (updS σ V).objs := congrArg Store.objs h2
 rw [this] at hob
 rcases setAll_mem hob with h | ⟨q, hq, rfl⟩
 ·exact .inl h
 ·exact .inr (hV q hq)
end Go.Aw

namespace Go.Aw
open Go
/-! ### the shape of a datum -/
mutual
/-- A datum without its texts. -/
def D.er : D → D
 | .mk k n _ l => .mk k n ⟨#[]⟩ (D.ers l)
def D.ers : List D → List D
 | [] => []
 | d :: l => d.er :: D.ers l
end
theorem D.ers_map : ∀ l : List D, D.ers l = l.map D.er
 | [] => rfl
 | d :: l => by simp [D.ers, D.ers_map l]
theorem D.er_kids (d : D) : d.er.kids = d.kids.map D.er := by cases d; simp [D.er, D.kids, D.ers_map]
theorem D.sub_er : ∀ (p : List Int) (d : D), d.er.sub p = (d.sub p).map D.er
 | [], d => rfl
 | i :: p, d => by
  simp only [D.sub, D.er_kids]
  split
  ·rw [List.getElem?_map]
   cases d.kids[i.toNat]? with
   | none => rfl
   | some k => exact D.sub_er p k
  ·rfl
theorem D.sub_of_er {d e : D} {p : List Int} (h : d.er = e.er) {x : D} (hx : e.sub p = some x) : ∃ y, d.sub p = some y ∧ y.er = x.er := by
 have h1 := D.sub_er p d
 rw [h, D.sub_er p e, hx] at h1
 cases hd : d.sub p with
 | none => rw [hd] at h1; simp at h1
 | some y => rw [hd] at h1; simp at h1; exact ⟨y, rfl, h1.symm⟩
theorem D.er_setText : ∀ (p : List Int) (d : D) (s : ByteArray), (d.setText p s).er = d.er
 | [], .mk k n t l, s => rfl
 | i :: p, .mk k n t l, s => by
  simp only [D.setText]
  cases h : l[i.toNat]? with
  | none => rfl
  | some c =>
   simp only [D.er, D.ers_map, List.map_set, D.er_setText p c s]
   congr 1
   apply List.ext_getElem?
   intro j
   rw [List.getElem?_set]
   split
   ·subst_vars
    obtain ⟨h1, h2⟩ := List.getElem?_eq_some_iff.1 h
    simp [h1, h2]
   ·rfl
theorem msz_er : ∀ (d : D), msz d.er = msz d := by
 intro d
 induction d using D.ind with
 | _ k n t l ih =>
  rw [msz_eq, msz_eq, D.er_kids]
  show (if l.map D.er = [] then 0 else 1 + mszs (l.map D.er)) = if l = [] then 0 else 1 + mszs l
  have : ∀ l : List D, (∀ d, d ∈ l → msz d.er = msz d) → mszs (l.map D.er) = mszs l := by
   intro l
   induction l with
   | nil => intro _; rfl
   | cons d l ihl => intro h; simp only [List.map_cons, mszs]; rw [h d (by simp), ihl fun x hx => h x (by simp [hx])]
  rw [this l ih]
  simp
theorem msz_setText (d : D) (p : List Int) (s : ByteArray) : msz (d.setText p s) = msz d := by rw [← msz_er, D.er_setText, msz_er]
theorem lays_get : ∀ {l : List D} {m i : Nat} {x : D}, l[i]? = some x → (lays m l)[i]? = some (lay (m + mszs (l.take i)) x)
 | [], m, i, x, h => by simp at h
 | d :: l, m, 0, x, h => by simp at h; subst h; simp [lays, mszs]
 | d :: l, m, i + 1, x, h => by
  simp only [List.getElem?_cons_succ] at h
  simp only [lays, List.getElem?_cons_succ, List.take_succ_cons, mszs]
  rw [lays_get h, Nat.add_assoc]
theorem lays_none : ∀ {l : List D} {m i : Nat}, l[i]? = none → (lays m l)[i]? = none := by
 intro l m i h
 rw [List.getElem?_eq_none_iff] at h ⊢
 rw [lays_len]; exact h
theorem lays_set : ∀ {l : List D} {m i : Nat} {x y : D}, l[i]? = some x → msz y = msz x → lays m (l.set i y) = (lays m l).set i (lay (m + mszs (l.take i)) y)
 | [], m, i, x, y, h, _ => by simp at h
 | d :: l, m, 0, x, y, h, hs => by
  simp at h; subst h
  simp [lays, mszs, hs]
 | d :: l, m, i + 1, x, y, h, hs => by
  simp only [List.getElem?_cons_succ] at h
  simp only [List.set_cons_succ, lays, List.take_succ_cons, mszs]
  rw [lays_set h hs, Nat.add_assoc]
/-- A text in a copy is the copy with the text. -/
theorem lay_setText : ∀ (p : List Int) (d : D) (m : Nat) (s : ByteArray), (lay m d).setText p s = lay m (d.setText p s)
 | [], .mk k n t l, m, s => rfl
 | i :: p, .mk k n t l, m, s => by
  simp only [lay, AD.setText, D.setText]
  cases h : l[i.toNat]? with
  | none => rw [lays_none h]; rfl
  | some c =>
   rw [lays_get h]
   simp only [lay]
   rw [lay_setText p c _ s, lays_set h (msz_setText c p s)]
theorem lay_sub : ∀ (p : List Int) (d : D) (m : Nat) {x : D}, d.sub p = some x → ∃ u, (lay m d).sub p = some u ∧ u.dat = x := by
 intro p d m x h
 have := AD.sub_dat p (lay m d)
 rw [lay_dat, h] at this
 cases hu : (lay m d).sub p with
 | none => rw [hu] at this; simp at this
 | some u => rw [hu] at this; simp at this; exact ⟨u, rfl, this.symm⟩
/-! ### the steps along a path -/
theorem AD.sub_take {t u : AD} {p : List Int} (h : t.sub p = some u) {k : Nat} {i : Int} (hi : p[k]? = some i) (ob : Nat × Nat) :
  ∃ v c, t.sub (p.take k) = some v ∧ 0 ≤ i ∧ v.kids[i.toNat]? = some c ∧ i < (v.kids.length : Int) ∧ v.kv = .sl v.o 0 v.kids.length ∧ AD.loc ob t (p.take (k + 1)) = (v.o, i.toNat * 4) := by
 have hp : p = p.take k ++ i :: p.drop (k + 1) := by
  have hk := (List.getElem?_eq_some_iff.1 hi).1
  conv => lhs; rw [← List.take_append_drop k p]
  rw [List.drop_eq_getElem_cons hk, (List.getElem?_eq_some_iff.1 hi).2]
 rw [hp, AD.sub_append, Option.bind_eq_some_iff] at h
 obtain ⟨v, hv, h⟩ := h
 simp only [AD.sub] at h
 split at h
 ·rename_i h0
  obtain ⟨c, hc, _⟩ := Option.bind_eq_some_iff.1 h
  have hlt := (List.getElem?_eq_some_iff.1 hc).1
  refine ⟨v, c, hv, h0, hc, by omega, ?_, ?_⟩
  ·cases v with
   | mk k n tx o l =>
    simp only [AD.kids] at hlt
    cases l with
    | nil => simp at hlt
    | cons a l => rfl
  ·rw [take_next hi]
   exact AD.loc_snoc _ _ _ _ _ _ hv hc
 ·cases h
theorem AD.loc_load {σ : Store} {t u : AD} {ob : Nat} {p : List Int} (h : HasU σ (rootU ob t)) (hu : t.sub p = some u) :
  ∃ cells rest, σ.objs[(AD.loc (ob, 0) t p).1]? = some (.arr cells) ∧ cells.drop ((AD.loc (ob, 0) t p).2 + 3) = u.kv :: rest := by
 rw [rootU_slot] at h
 obtain ⟨cells, rest, h1, h2⟩ := AD.loc_at p t u ob [] [] h hu
 refine ⟨cells, rest, h1, ?_⟩
 rw [← List.drop_drop]
 simp only [List.length_nil] at h2
 rw [h2, AD.cells_eq]; rfl
/-! ### objects of several kinds -/
theorem updS_extra {σ : Store} {A B : List (Nat × AObj)} (hn : ((A ++ B).map (·.1)).Nodup) (hl : ∀ q, q ∈ A → q.1 < σ.objs.length) (hB : HasU σ B) : updS σ A = updS σ (A ++ B) := by
 unfold updS
 congr 1
 rw [List.map_append] at hn
 have hd := List.nodup_append.1 hn
 refine (setAll_ext (by rw [List.map_append]; exact hn) (by rw [setAll_length]) (fun q hq => ?_) (fun i hi => ?_)).symm
 ·rcases List.mem_append.1 hq with h | h
  ·exact setAll_in hd.1 h (hl q h)
  ·rw [setAll_out (fun hm => hd.2.2 _ hm _ (List.mem_map.2 ⟨q, h, rfl⟩) rfl)]
   exact hB q h
 ·rw [List.map_append, List.mem_append, not_or] at hi
  rw [setAll_out hi.1]
theorem updS_extraL {σ : Store} {A B : List (Nat × AObj)} (hn : ((A ++ B).map (·.1)).Nodup) (hl : ∀ q, q ∈ B → q.1 < σ.objs.length) (hA : HasU σ A) : updS σ B = updS σ (A ++ B) := by
 unfold updS
 congr 1
 rw [List.map_append] at hn
 have hd := List.nodup_append.1 hn
 refine (setAll_ext (by rw [List.map_append]; exact hn) (by rw [setAll_length]) (fun q hq => ?_) (fun i hi => ?_)).symm
 ·rcases List.mem_append.1 hq with h | h
  ·rw [setAll_out (fun hm => hd.2.2 _ (List.mem_map.2 ⟨q, h, rfl⟩) _ hm rfl)]
   exact hA q h
  ·exact setAll_in hd.2.1 h (hl q h)
 ·rw [List.map_append, List.mem_append, not_or] at hi
  rw [setAll_out hi.2]
theorem rootU_clo {ob : Nat} {t : AD} {no nt : Nat} (h : ∀ i, i ∈ (rootU ob t).map (·.1) → i < no) : ∀ q, q ∈ rootU ob t → q.2.clo no nt 0 = true := by
 have hkv : ∀ (u : AD), (∀ q, q ∈ u.arrs → q.1 < no) → AV.clos no nt 0 u.cells = true := by
  intro u hu
  cases u with
  | mk k n tx o l =>
   cases l with
   | nil => rfl
   | cons a l =>
    have := hu (o, .arr ((a :: l).flatMap AD.cells)) (by simp [AD.arrs, rowOf])
    simp only [AD.cells, kvOf, AV.clos, AV.clo, Bool.and_true, Bool.true_and, decide_eq_true_eq]
    exact this
 have hrow : ∀ (u : AD), (∀ q, q ∈ u.arrs → q.1 < no) → ∀ q, q ∈ u.arrs → q.2.clo no nt 0 = true := by
  intro u
  induction u using AD.ind with
  | _ k n tx o l ih =>
   intro hu q hq
   rw [AD.arrs, AD.arrss_flat] at hq hu
   rcases List.mem_append.1 hq with hq | hq
   ·cases l with
    | nil => simp [rowOf] at hq
    | cons a l =>
     simp only [rowOf, List.mem_singleton] at hq
     subst hq
     simp only [AObj.clo, AV.clos_iff]
     intro x hx
     obtain ⟨c, hc, hx⟩ := List.mem_flatMap.1 hx
     exact AV.clos_iff.1 (hkv c fun q hq2 => hu q (List.mem_append_right _ (List.mem_flatMap.2 ⟨c, hc, hq2⟩))) x hx
   ·obtain ⟨c, hc, hq⟩ := List.mem_flatMap.1 hq
    exact ih c hc (fun q hq2 => hu q (List.mem_append_right _ (List.mem_flatMap.2 ⟨c, hc, hq2⟩))) q hq
 intro q hq
 have ht : ∀ q, q ∈ t.arrs → q.1 < no := fun q hq => h q.1 (List.mem_map.2 ⟨q, List.mem_cons_of_mem _ hq, rfl⟩)
 rcases List.mem_cons.1 hq with rfl | hq
 ·exact hkv t ht
 ·exact hrow t ht q hq
/-! ### places of expressions and names -/
theorem D.sub_subs {d : D} {q : Sub × D} (h : q ∈ subs d) : d.sub q.1.p = some q.2 := by
 have one : ∀ (l : List D) (i : Nat) (x : D), l[i]? = some x → ∀ k n t, D.sub (.mk k n t l) [(i : Int)] = some x := by
  intro l i x hx k n t
  simp only [D.sub, D.kids]
  rw [if_pos (by omega), Int.toNat_natCast, hx]; rfl
 obtain ⟨k, n, t, l⟩ := d
 generalize hd : D.mk k n t l = d at *
 have hl : d.kids = l := by rw [← hd]; rfl
 have hone : ∀ (i : Nat) (x : D), l[i]? = some x → d.sub [(i : Int)] = some x := fun i x hx => by rw [← hd]; exact one l i x hx _ _ _
 by_cases h4 : synKind d = 4 ∨ synKind d = 8
 ·rw [subs_of_rest h4] at h
  obtain ⟨i, x, hx, rfl⟩ := mapI_mem h
  rw [List.getElem?_drop, hl] at hx
  have := hone (1 + i) x hx
  rw [show sub1 i x = (⟨[((1 + i : Nat) : Int)], []⟩, x) by unfold sub1; congr 3; omega]
  exact this
 by_cases h5 : synKind d = 5 ∨ synKind d = 9
 ·rw [subs_of_fn h5, List.mem_singleton] at h
  subst h
  have hlen := (syn_len d).1 (h5.elim .inl fun h => .inr (.inl h))
  rw [hl] at hlen
  have := hone 2 (d2 d.kids) (by rw [hl]; unfold d2; rw [List.getD_eq_getElem?_getD, List.getElem?_eq_getElem (by omega)]; rfl)
  exact this
 by_cases h6 : synKind d = 6
 ·rw [subs_of_let h6] at h
  have hlen := (syn_len d).2.1 h6
  rw [hl] at hlen
  simp only [List.mem_cons, List.not_mem_nil, or_false] at h
  rcases h with rfl | rfl
  ·exact hone 2 (d2 d.kids) (by rw [hl]; unfold d2; rw [List.getD_eq_getElem?_getD, List.getElem?_eq_getElem (by omega)]; rfl)
  ·exact hone 3 (d.kids.getD 3 dnone) (by rw [hl]; rw [List.getD_eq_getElem?_getD, List.getElem?_eq_getElem (by omega)]; rfl)
 by_cases h7 : synKind d = 7
 ·have hlen := (syn_len d).1 (.inr (.inr h7))
  rw [hl] at hlen
  rw [subs_of_rec h7, List.mem_append, List.mem_singleton] at h
  rcases h with h | rfl
  ·obtain ⟨i, x, hx, rfl⟩ := mapI_mem h
   have h3 := (syn_len d).2.2 h7 x (List.mem_of_getElem? hx)
   have hd1 : l[1]? = some (d1 d.kids) := by rw [hl]; unfold d1; rw [List.getD_eq_getElem?_getD, List.getElem?_eq_getElem (by omega)]; rfl
   have hd2 : x.kids[2]? = some (d2 x.kids) := by unfold d2; rw [List.getD_eq_getElem?_getD, List.getElem?_eq_getElem (by omega)]; rfl
   show d.sub [1, (i : Int), 2] = some (d2 x.kids)
   have e1 := hone 1 _ hd1
   rw [show ([1, (i : Int), 2] : List Int) = [((1 : Nat) : Int)] ++ [(i : Int), 2] from rfl, D.sub_append, e1]
   simp only [Option.bind_some, D.sub]
   rw [if_pos (by omega), Int.toNat_natCast, hx]
   simp only [Option.bind_some]
   rw [if_pos (by decide), show (2 : Int).toNat = 2 from rfl, hd2]; rfl
  ·exact hone 2 (d2 d.kids) (by rw [hl]; unfold d2; rw [List.getD_eq_getElem?_getD, List.getElem?_eq_getElem (by omega)]; rfl)
 by_cases h10 : synKind d = 10
 ·rw [subs_of_app h10] at h
  obtain ⟨i, x, hx, rfl⟩ := mapI_mem h
  rw [hl] at hx
  exact hone i x hx
 ·exfalso
  have hs : subs d = [] := subs_of_none (by cases shape d <;> omega)
  rw [hs] at h; simp at h
/-- The rest of the place of a name that a definition binds. -/
def whrL : List D → Int → Nat → List Int
 | [], n, _ => [1, n]
 | x :: l, n, i => if ((parS x).length : Int) ≤ n then whrL l (n - ((parS x).length : Int)) (i + 1) else [1, (i : Int), 1, n]
/-- The place of one of the names that an expression binds. -/
def whereP (d : D) (n : Int) : List Int :=
 if (synKind d == 6) = true then [1] else if (synKind d == 7) = true then (if n < ((d1 d.kids).kids.length : Int) then [1, n, 0] else whrL (d1 d.kids).kids (n - ((d1 d.kids).kids.length : Int)) 0) else [1, n]
theorem whrL_par : ∀ {l : List D} {k : Nat} {x : D} {j : Nat} (i : Nat), l[k]? = some x → j < (parS x).length → whrL l ((((l.take k).map fun x => ((d1 x.kids).kids.length : Int)).sum) + (j : Int)) i = [1, ((i + k : Nat) : Int), 1, (j : Int)]
 | [], k, x, j, i, h, _ => by simp at h
 | y :: l, 0, x, j, i, h, hj => by
  simp at h; subst h
  simp only [whrL, List.take_zero, List.map_nil, List.sum_nil, Int.zero_add, Nat.add_zero]
  rw [if_neg (by omega)]
 | y :: l, k + 1, x, j, i, h, hj => by
  simp only [List.getElem?_cons_succ] at h
  have ih := whrL_par (i + 1) h hj
  simp only [whrL, List.take_succ_cons, List.map_cons, List.sum_cons]
  have hp : ((parS y).length : Int) = ((d1 y.kids).kids.length : Int) := by unfold parS; rw [List.length_map]
  have hnn : 0 ≤ ((l.take k).map fun x => ((d1 x.kids).kids.length : Int)).sum := by
   generalize l.take k = r
   induction r with
   | nil => simp
   | cons z r ih => simp only [List.map_cons, List.sum_cons]; omega
  rw [if_pos (by rw [hp]; omega), hp, show ((d1 y.kids).kids.length : Int) + ((l.take k).map fun x => ((d1 x.kids).kids.length : Int)).sum + (j : Int) - ((d1 y.kids).kids.length : Int) = ((l.take k).map fun x => ((d1 x.kids).kids.length : Int)).sum + (j : Int) by omega, ih]
  congr 2; omega
/-- At such a place the name stands. -/
theorem where_sub {d : D} {ns : List ByteArray} {n : Int} (h : NmOk d ns n) {j : Nat} {x : ByteArray} (hj : ns[j]? = some x) : 1 ≤ (whereP d (n + (j : Int))).length ∧ (whereP d (n + (j : Int))).length ≤ 4 ∧ ∃ u, d.sub (whereP d (n + (j : Int))) = some u ∧ u.text = x := by
 have hone : ∀ (d : D) (i : Nat) (x : D), d.kids[i]? = some x → ∀ p, d.sub ((i : Int) :: p) = x.sub p := by
  intro d i x hx p
  simp only [D.sub]
  rw [if_pos (by omega), Int.toNat_natCast, hx]; rfl
 have hd1 : 1 < d.kids.length → d.kids[1]? = some (d1 d.kids) := fun h => by unfold d1; rw [List.getD_eq_getElem?_getD, List.getElem?_eq_getElem h]; rfl
 have h1 : ∀ p, 1 < d.kids.length → d.sub (1 :: p) = (d1 d.kids).sub p := fun p h => hone d 1 _ (hd1 h) p
 cases h with
 | own hk =>
  rw [Int.zero_add]
  rcases hk with hk | hk | hk | hk
  ·have hl := (syn_len d).1 (.inl hk)
   have ho : ownS d = (d1 d.kids).kids.map D.text := by unfold ownS; rw [hk]; rfl
   rw [ho, List.getElem?_map] at hj
   obtain ⟨u, hu, rfl⟩ := Option.map_eq_some_iff.1 hj
   have hw : whereP d (j : Int) = [1, (j : Int)] := by unfold whereP; rw [hk]; rfl
   rw [hw]
   exact ⟨by simp, by simp, u, by rw [h1 _ (by omega), hone _ _ _ hu]; rfl, rfl⟩
  ·have hl := (syn_len d).1 (.inr (.inl hk))
   have ho : ownS d = (d1 d.kids).kids.map D.text := by unfold ownS; rw [hk]; rfl
   rw [ho, List.getElem?_map] at hj
   obtain ⟨u, hu, rfl⟩ := Option.map_eq_some_iff.1 hj
   have hw : whereP d (j : Int) = [1, (j : Int)] := by unfold whereP; rw [hk]; rfl
   rw [hw]
   exact ⟨by simp, by simp, u, by rw [h1 _ (by omega), hone _ _ _ hu]; rfl, rfl⟩
  ·have hl := (syn_len d).2.1 hk
   have ho : ownS d = [(d1 d.kids).text] := by unfold ownS; rw [hk]; rfl
   rw [ho] at hj
   have hw : whereP d (j : Int) = [1] := by unfold whereP; rw [hk]; rfl
   rw [hw]
   refine ⟨by simp, by simp, d1 d.kids, by rw [h1 _ (by omega)]; rfl, ?_⟩
   match j, hj with
   | 0, hj => simpa using hj
  ·have hl := (syn_len d).1 (.inr (.inr hk))
   have ho : ownS d = (d1 d.kids).kids.map fun x => x.head.text := by unfold ownS; rw [hk]; rfl
   rw [ho, List.getElem?_map] at hj
   obtain ⟨y, hy, rfl⟩ := Option.map_eq_some_iff.1 hj
   have h3 := (syn_len d).2.2 hk y (List.mem_of_getElem? hy)
   have hjl := (List.getElem?_eq_some_iff.1 hy).1
   have hw : whereP d (j : Int) = [1, (j : Int), 0] := by
    unfold whereP
    rw [hk, if_neg (by decide), if_pos (by decide), if_pos (by omega)]
   rw [hw]
   have hy0 : y.kids[0]? = some (y.kids[0]'(by omega)) := by simp
   refine ⟨by simp, by simp, y.head, ?_, rfl⟩
   rw [h1 _ (by omega), hone _ _ _ hy, show ([0] : List Int) = ((0 : Nat) : Int) :: [] from rfl, hone _ _ _ hy0, head_get hy0]; rfl
 | @par hk k y hy =>
  have hl := (syn_len d).1 (.inr (.inr hk))
  have h3 := (syn_len d).2.2 hk y (List.mem_of_getElem? hy)
  have hjl : j < (parS y).length := (List.getElem?_eq_some_iff.1 hj).1
  have hw : whereP d (fromS (d1 d.kids).kids k + (j : Int)) = [1, (k : Int), 1, (j : Int)] := by
   have h4 := fromS_le (d1 d.kids).kids k (Nat.le_of_lt (List.getElem?_eq_some_iff.1 hy).1)
   have hnn : 0 ≤ (((d1 d.kids).kids.take k).map fun x => ((d1 x.kids).kids.length : Int)).sum := by
    generalize (d1 d.kids).kids.take k = r
    induction r with
    | nil => simp
    | cons z r ih => simp only [List.map_cons, List.sum_cons]; omega
   unfold whereP
   rw [hk, if_neg (by decide), if_pos (by decide), if_neg (by unfold fromS; omega)]
   have := whrL_par 0 hy hjl
   rw [Nat.zero_add] at this
   rw [← this]
   congr 1
   unfold fromS; omega
  rw [hw]
  have hy1 : y.kids[1]? = some (d1 y.kids) := by unfold d1; rw [List.getD_eq_getElem?_getD, List.getElem?_eq_getElem (by omega)]; rfl
  unfold parS at hj
  rw [List.getElem?_map] at hj
  obtain ⟨u, hu, rfl⟩ := Option.map_eq_some_iff.1 hj
  refine ⟨by simp, by simp, u, ?_, rfl⟩
  rw [h1 _ (by omega), hone _ _ _ hy, show ([1, (j : Int)] : List Int) = ((1 : Nat) : Int) :: [(j : Int)] from rfl, hone _ _ _ hy1, hone _ _ _ hu]; rfl
/-! ### the renaming -/
section
variable {St : Type} (to : List Int → Int → ByteArray → St → ByteArray × St)
def nmStep (d : D) (p : List Int) (n : Int) (acc : List ByteArray × (D × St)) (q : ByteArray × Nat) : List ByteArray × (D × St) :=
 (acc.1 ++ [(to p (n + (q.2 : Int)) q.1 acc.2.2).1], (acc.2.1.setText (p ++ whereP d (n + (q.2 : Int))) (to p (n + (q.2 : Int)) q.1 acc.2.2).1, (to p (n + (q.2 : Int)) q.1 acc.2.2).2))
/-- New names, one after the other, each written in its place. -/
def nmK (d : D) (p : List Int) (ns : List ByteArray) (n : Int) (s : D × St) (k : Nat) : List ByteArray × (D × St) := ((ns.take k).zipIdx).foldl (nmStep to d p n) ([], s)
def namR (d : D) (p : List Int) (ns : List ByteArray) (n : Int) (s : D × St) : List ByteArray × (D × St) := nmK to d p ns n s ns.length
def varR (_d : D) (p : List Int) (b : Option ByteArray) (s : D × St) : D × St := match b with
 | some x => (s.1.setText p x, s.2)
 | none => s
theorem nmK_zero (d : D) (p : List Int) (ns : List ByteArray) (n : Int) (s : D × St) : nmK to d p ns n s 0 = ([], s) := rfl
theorem nmK_next {d : D} {p : List Int} {ns : List ByteArray} {n : Int} {s : D × St} {k : Nat} {x : ByteArray} (h : ns[k]? = some x) : nmK to d p ns n s (k + 1) = nmStep to d p n (nmK to d p ns n s k) (x, k) := by
 have hk := (List.getElem?_eq_some_iff.1 h).1
 unfold nmK
 rw [take_next h, List.zipIdx_append, List.foldl_append]
 have e : ([x] : List ByteArray).zipIdx (0 + (ns.take k).length) = [(x, k)] := by simp; omega
 rw [e]; rfl
theorem nmK_len (d : D) (p : List Int) (ns : List ByteArray) (n : Int) (s : D × St) : ∀ k, k ≤ ns.length → (nmK to d p ns n s k).1.length = k := by
 intro k
 induction k with
 | zero => intro _; rfl
 | succ k ih =>
  intro hk
  have hx : ns[k]? = some (ns[k]'(by omega)) := by simp
  rw [nmK_next to hx, nmStep]
  simp [ih (by omega)]
theorem nmK_er (d : D) (p : List Int) (ns : List ByteArray) (n : Int) (s : D × St) : ∀ k, k ≤ ns.length → (nmK to d p ns n s k).2.1.er = s.1.er := by
 intro k
 induction k with
 | zero => intro _; rfl
 | succ k ih =>
  intro hk
  have hx : ns[k]? = some (ns[k]'(by omega)) := by simp
  rw [nmK_next to hx, nmStep]
  simp only [D.er_setText]
  exact ih (by omega)
theorem nmK_snd (d : D) (p : List Int) (ns : List ByteArray) (n : Int) (s : D × St) (GT : Nat → St → Prop) (hg : ∀ p i x m s, GT m s → GT (m + 1) (to p i x s).2) (m : Nat) (h : GT m s.2) : ∀ k, k ≤ ns.length → GT (m + k) (nmK to d p ns n s k).2.2 := by
 intro k
 induction k with
 | zero => intro _; exact h
 | succ k ih =>
  intro hk
  have hx : ns[k]? = some (ns[k]'(by omega)) := by simp
  rw [nmK_next to hx, nmStep]
  exact hg _ _ _ _ _ (ih (by omega))
end
/-- What stands in a path is small. -/
theorem sub_pth : ∀ {p : List Int} {e d : D}, e.size ≤ 100000000 → e.sub p = some d → ∀ j, j ∈ p → 0 ≤ j ∧ j ≤ 1000000000
 | [], e, d, _, _, j, hj => by simp at hj
 | i :: p, e, d, he, h, j, hj => by
  simp only [D.sub] at h
  split at h
  ·rename_i hi
   cases hx : e.kids[i.toNat]? with
   | none => rw [hx] at h; cases h
   | some x =>
    rw [hx] at h
    simp only [Option.bind_some] at h
    have hm := List.mem_of_getElem? hx
    have h1 := D.size_kid_lt hm
    have h2 := (List.getElem?_eq_some_iff.1 hx).1
    have h3 := D.kids_length_lt e
    rcases List.mem_cons.1 hj with rfl | hj
    ·exact ⟨hi, by omega⟩
    ·exact sub_pth (by omega) h j hj
  ·cases h
/-- What is known of the function that makes new names. -/
structure ToH (P : Program) (G : List (Nat × PV)) {St : Type} (ms : St → List (Nat × AObj)) (mk : List Nat) (X : List (Nat × AObj)) (tf : FuncId) (tc : List AV) (to : List Int → Int → ByteArray → St → ByteArray × St) (GT : Nat → St → Prop) : Prop where
 hmk : ∀ s, (ms s).map (·.1) = mk
 hnd : mk.Nodup
 hX : ∀ q, q ∈ X → q.1 ∉ mk
 ct : Callable P tf
 nlt : AV.noLs tc = true
 hcl : ∀ s no nt, (∀ i, i ∈ mk → i < no) → ∀ q, q ∈ ms s → q.2.clo no nt 0 = true
 gt : ∀ p i x m s, GT m s → GT (m + 1) (to p i x s).2
 ht : ∀ p i x m s σ, p.length ≤ 400000000 → (∀ j, j ∈ p → 0 ≤ j ∧ j ≤ 1000000000) → 0 ≤ i → i ≤ 1000000000 → GT m s → m + 1 ≤ 1000000000 → σ.gl = G → HasU σ (ms s) → HasU σ X →
  ACalls P tf ([.pv (wPV p), .pv (.int .i64 i), .pv (.str x)] ++ tc) σ fun r σ' => r = .pv (.str (to p i x s).1) ∧ σ' = updS σ (ms (to p i x s).2)
/-- The copy, and what the new names are made of. -/
def UR {St : Type} (ob m0 : Nat) (ms : St → List (Nat × AObj)) (s : D × St) : List (Nat × AObj) := rootU ob (lay m0 s.1) ++ ms s.2
theorem UR_keys {St : Type} {ob m0 : Nat} {ms : St → List (Nat × AObj)} {mk : List Nat} (h : ∀ s, (ms s).map (·.1) = mk) (s : D × St) : (UR ob m0 ms s).map (·.1) = ob :: List.range' m0 (msz s.1) ++ mk := by
 unfold UR
 rw [List.map_append, h, rootU_keys, lay_keys]
section
variable {St : Type} {ob m0 : Nat} {ms : St → List (Nat × AObj)} {mk : List Nat} {σ : Store} {s : D × St}
theorem UR_tree (h : HasU σ (UR ob m0 ms s)) : HasU σ (rootU ob (lay m0 s.1)) := fun q hq => h q (List.mem_append_left _ hq)
theorem UR_nodup (hmk : ∀ s, (ms s).map (·.1) = mk) (hn : (ob :: List.range' m0 (msz s.1) ++ mk).Nodup) (t : D) (st : St) (he : t.er = s.1.er) : ((UR ob m0 ms (t, st)).map (·.1)).Nodup := by
 rw [UR_keys hmk]
 show (ob :: List.range' m0 (msz t) ++ mk).Nodup
 rw [← msz_er, he, msz_er]; exact hn
theorem UR_lt (hmk : ∀ s, (ms s).map (·.1) = mk) (h : HasU σ (UR ob m0 ms s)) (t : D) (st : St) (he : t.er = s.1.er) : ∀ q, q ∈ UR ob m0 ms (t, st) → q.1 < σ.objs.length := by
 intro q hq
 have hm : q.1 ∈ (UR ob m0 ms (t, st)).map (·.1) := List.mem_map.2 ⟨q, hq, rfl⟩
 have e : (UR ob m0 ms (t, st)).map (·.1) = (UR ob m0 ms s).map (·.1) := by
  rw [UR_keys hmk, UR_keys hmk]
  show ob :: List.range' m0 (msz t) ++ mk = _
  rw [← msz_er, he, msz_er]
 rw [e] at hm
 obtain ⟨q', h', e'⟩ := List.mem_map.1 hm
 rw [← e']; exact h.lt h'
/-- Something else than the copy turns. -/
theorem UR_updSt (hmk : ∀ s, (ms s).map (·.1) = mk) (hn : (ob :: List.range' m0 (msz s.1) ++ mk).Nodup) (h : HasU σ (UR ob m0 ms s)) (st : St) : updS σ (ms st) = updS σ (UR ob m0 ms (s.1, st)) :=
 updS_extraL (UR_nodup hmk hn s.1 st rfl) (fun q hq => UR_lt hmk h s.1 st rfl q (List.mem_append_right _ hq)) (fun q hq => h q (List.mem_append_left _ hq))
/-- The copy turns. -/
theorem UR_updT (hmk : ∀ s, (ms s).map (·.1) = mk) (hn : (ob :: List.range' m0 (msz s.1) ++ mk).Nodup) (h : HasU σ (UR ob m0 ms s)) (t : D) (he : t.er = s.1.er) : updS σ (rootU ob (lay m0 t)) = updS σ (UR ob m0 ms (t, s.2)) :=
 updS_extra (UR_nodup hmk hn t s.2 he) (fun q hq => UR_lt hmk h t s.2 he q (List.mem_append_left _ hq)) (fun q hq => h q (List.mem_append_right _ hq))
end
section
variable {P : Program} {ty : TyT} {σ0 : Store} {N : Nat} {s : St} {o : Oper} {ops : Array Oper} {os : List Oper} {K : St → Prop} {σ : Store}
/-- A text is written at a place of the copy. -/
theorem al_textStore {Sg : Type} {ob m0 : Nat} {ms : Sg → List (Nat × AObj)} {mk : List Nat} {x : D × Sg} {p : List Int} {u : D} {b : ByteArray} (hmk : ∀ s, (ms s).map (·.1) = mk) (hn : (ob :: List.range' m0 (msz x.1) ++ mk).Nodup) (hU : HasU s.σ (UR ob m0 ms x)) (hu : x.1.sub p = some u)
  (hty : TyOk P ty) {t : TypeId} {pp y : Operand} {ti : TyI} (hg : o.guard = none) (ho : o.op = .store t pp y) (hdst : o.dst = none) (hti : ty t = some ti) (h1 : ti.size = 1)
  (hp : ev s pp = .ptr (AD.loc (ob, 0) (lay m0 x.1) p).1 ((AD.loc (ob, 0) (lay m0 x.1) p).2 + 2)) (hy : ev s y = .pv (.str b)) (k : AOpsL P σ0 N ops os K ⟨s.T, s.L, updS s.σ (UR ob m0 ms (x.1.setText p b, x.2))⟩) : AOpsL P σ0 N ops (o :: os) K s := by
 obtain ⟨v, hv, _⟩ := lay_sub p x.1 m0 hu
 have hUt := UR_tree hU
 have hnt := UR_nodup hmk hn x.1 x.2 rfl
 unfold UR at hnt
 rw [List.map_append] at hnt
 have hw := AD.write b p (lay m0 x.1) v ob [] [] (by rw [← rootU_slot]; exact hUt) (by rw [← rootU_slot]; exact (List.nodup_append.1 hnt).1) hv
 obtain ⟨cells, k1, k2, k3⟩ := hw
 simp only [List.length_nil] at k1 k2 k3
 refine al_cons hg (aop_storeA hty (i := (AD.loc (ob, 0) (lay m0 x.1) p).1) (off := (AD.loc (ob, 0) (lay m0 x.1) p).2 + 2) (cs := cells) (ds := [.pv (.str b)]) ho hp hti k1 (by rw [hy]; rfl) rfl (by rw [h1]; rfl) (by simp; omega) (by rw [hdst]; rfl) ?_)
 rw [hdst]
 simp only [St.put]
 rw [k3, ← rootU_slot, lay_setText, UR_updT hmk hn hU _ (D.er_setText _ _ _)]
 exact k
end
theorem nmok_bound {d : D} {ns : List ByteArray} {n : Int} (h : NmOk d ns n) : 0 ≤ n ∧ n + (ns.length : Int) ≤ 2 * (d.size : Int) := by
 cases h with
 | own hk => have := ownS_len d; omega
 | @par hk k x hx =>
  have hl := (syn_len d).1 (.inr (.inr hk))
  have h1 := fromS_le (d1 d.kids).kids k (Nat.le_of_lt (List.getElem?_eq_some_iff.1 hx).1)
  have h2 := fromS_le (d1 d.kids).kids (k + 1) (by have := (List.getElem?_eq_some_iff.1 hx).1; omega)
  have h3 := fromS_next hx
  have hm : d1 d.kids ∈ d.kids := getD_mem (n := 1) (by omega)
  have h4 := D.size_kid_lt hm
  have h5 := D.kids_length_lt (d1 d.kids)
  have h6 := D.size_kids (d1 d.kids)
  omega
theorem updS_toks {g : List (Nat × PV)} {tk : List Tok} {σ : Store} {U V : List (Nat × AObj)} {ks : List Nat} (hu : U.map (·.1) = ks) (hv : V.map (·.1) = ks) (hn : ks.Nodup) : updS ⟨g, (updS σ U).objs, tk⟩ V = updS ⟨g, σ.objs, tk⟩ V := by
 unfold updS
 simp only
 rw [setAll_setAll (by rw [hv]; exact hn) (by rw [hu, hv]; exact fun _ h => h)]
/-- What a renaming knows: the datum, where the copy lies, the boxes of the functions. -/
structure RnH (P : Program) (G : List (Nat × PV)) {Sg : Type} (atf : FuncId) (e : D) (ob m0 oto oat : Nat) (XR : List (Nat × AObj)) (ms : Sg → List (Nat × AObj)) (mk : List Nat) (X : List (Nat × AObj)) (tf : FuncId) (tc : List AV) (to : List Int → Int → ByteArray → Sg → ByteArray × Sg) (GT : Nat → Sg → Prop) : Prop where
 T : ToH P G ms mk X tf tc to GT
 hn : (ob :: List.range' m0 (msz e) ++ mk).Nodup
 hX : ∀ q, q ∈ XR → q.1 ∉ ob :: List.range' m0 (msz e) ++ mk
 hXX : ∀ q, q ∈ X → q ∈ XR
 hto : (oto, .box [.func (.func tf) tc]) ∈ XR
 hat : (oat, .box [.func (.func atf) [.ptr ob 0]]) ∈ XR
 hes : e.size ≤ 100000000
section
variable {P : Program} {G : List (Nat × PV)} {Sg : Type} {atf : FuncId} {e : D} {ob m0 oto oat : Nat} {XR : List (Nat × AObj)} {ms : Sg → List (Nat × AObj)} {mk : List Nat} {X : List (Nat × AObj)} {tf : FuncId} {tc : List AV} {to : List Int → Int → ByteArray → Sg → ByteArray × Sg} {GT : Nat → Sg → Prop} (H : RnH P G atf e ob m0 oto oat XR ms mk X tf tc to GT)
include H
theorem RnH.keys {t : D} (he : t.er = e.er) (st : Sg) : (UR ob m0 ms (t, st)).map (·.1) = ob :: List.range' m0 (msz e) ++ mk := by
 rw [UR_keys H.T.hmk]
 show ob :: List.range' m0 (msz t) ++ mk = _
 rw [← msz_er, he, msz_er]
theorem RnH.nd {t : D} (he : t.er = e.er) : (ob :: List.range' m0 (msz t) ++ mk).Nodup := by rw [← msz_er, he, msz_er]; exact H.hn
theorem RnH.keys' {s : D × Sg} (he : s.1.er = e.er) : (UR ob m0 ms s).map (·.1) = ob :: List.range' m0 (msz e) ++ mk := H.keys he s.2
theorem RnH.lt {σ : Store} {s : D × Sg} (he : s.1.er = e.er) (h : HasU σ (UR ob m0 ms s)) {i : Nat} (hi : i ∈ ob :: List.range' m0 (msz e) ++ mk) : i < σ.objs.length := by
 rw [← H.keys' he] at hi
 obtain ⟨q, hq, rfl⟩ := List.mem_map.1 hi
 exact h.lt hq
theorem RnH.has {σ : Store} {s s' : D × Sg} (he : s.1.er = e.er) (he' : s'.1.er = e.er) (h : HasU σ (UR ob m0 ms s)) : HasU (updS σ (UR ob m0 ms s')) (UR ob m0 ms s') :=
 updS_has (by rw [H.keys' he']; exact H.hn) (fun q hq => H.lt he h (by rw [← H.keys' he']; exact List.mem_map.2 ⟨q, hq, rfl⟩))
theorem RnH.ne {σ : Store} {s' : D × Sg} (he' : s'.1.er = e.er) {i : Nat} (h : i ∉ ob :: List.range' m0 (msz e) ++ mk) : (updS σ (UR ob m0 ms s')).objs[i]? = σ.objs[i]? := updS_ne (by rw [H.keys' he']; exact h)
theorem RnH.hasX {σ : Store} {s' : D × Sg} (he' : s'.1.er = e.er) (h : HasU σ XR) : HasU (updS σ (UR ob m0 ms s')) XR := fun q hq => by
 rw [H.ne he' (H.hX q hq)]; exact h q hq
theorem RnH.clo {s : D × Sg} (he : s.1.er = e.er) {no nt : Nat} (h : ∀ i, i ∈ ob :: List.range' m0 (msz e) ++ mk → i < no) : ∀ q, q ∈ UR ob m0 ms s → q.2.clo no nt 0 = true := by
 have hk := H.keys' he
 unfold UR at hk
 rw [List.map_append, H.T.hmk] at hk
 have hk := List.append_cancel_right hk
 intro q hq
 rcases List.mem_append.1 hq with hq | hq
 ·refine rootU_clo (fun i hi => h i ?_) q hq
  rw [hk] at hi; exact List.mem_append_left _ hi
 ·exact H.T.hcl _ _ _ (fun i hi => h i (List.mem_append_right _ hi)) q hq
/-- After a new name was made. -/
theorem RnH.afterTo {σ : Store} {s0 s : D × Sg} (he : s0.1.er = e.er) (hs : s.1.er = e.er) (h : HasU σ (UR ob m0 ms s0)) (st : Sg) : updS (updS σ (UR ob m0 ms s)) (ms st) = updS σ (UR ob m0 ms (s.1, st)) := by
 rw [UR_updSt H.T.hmk (H.nd hs) (H.has he hs h) st]
 exact updS_updS' (H.keys' hs) (H.keys hs st) H.hn
end
open Classical in
/-- The same, whatever the shape. -/
noncomputable def UE {Sg : Type} (e : D) (ob m0 : Nat) (ms : Sg → List (Nat × AObj)) (s : D × Sg) : List (Nat × AObj) := if s.1.er = e.er then UR ob m0 ms s else UR ob m0 ms (e, s.2)
theorem UE_eq {Sg : Type} {e : D} {ob m0 : Nat} {ms : Sg → List (Nat × AObj)} {s : D × Sg} (h : s.1.er = e.er) : UE e ob m0 ms s = UR ob m0 ms s := by unfold UE; rw [if_pos h]
/-- What a renaming leaves. -/
def rnRes {Sg : Type} (to : List Int → Int → ByteArray → Sg → ByteArray × Sg) (e : D) (st : Sg) : D × Sg := wk (namR to) varR e [] [] (e, st)
section
variable {P : Program} {G : List (Nat × PV)} {Sg : Type} {atf nf vf : FuncId} {e : D} {ob m0 oto oat ow : Nat} {XR : List (Nat × AObj)} {ms : Sg → List (Nat × AObj)} {mk : List Nat} {X : List (Nat × AObj)} {tf : FuncId} {tc : List AV} {to : List Int → Int → ByteArray → Sg → ByteArray × Sg} {GT : Nat → Sg → Prop} (H : RnH P G atf e ob m0 oto oat XR ms mk X tf tc to GT)
include H
theorem RnH.walk (hw : (ow, .box [.func (.func nf) [.ptr oto 0, .ptr oat 0], .func (.func vf) [.ptr oat 0]]) ∈ XR) (cn : Callable P nf) (cv : Callable P vf)
  (hn : ∀ (d : D) (p : List Int) (ns : List ByteArray) (n : Int) (m : Nat) (s : D × Sg) (σ : Store), d.size ≤ 100000000 → p.length ≤ 400000000 → s.1.er = e.er → GT m s.2 → m + ns.length ≤ 1000000000 → e.sub p = some d → NmOk d ns n → σ.gl = G → HasU σ (UR ob m0 ms s) → HasU σ XR →
   ACalls P nf [.pv (enc d), .pv (wPV p), .pv (.slice (ns.map .str)), .pv (.int .i64 n), .ptr oto 0, .ptr oat 0] σ fun r σ' => r = .pv (.slice ((namR to d p ns n s).1.map .str)) ∧ σ' = updS σ (UR ob m0 ms (namR to d p ns n s).2))
  (hv : ∀ (d : D) (p : List Int) (s : D × Sg) (σ : Store), d.size ≤ 100000000 → p.length ≤ 400000000 → s.1.er = e.er → e.sub p = some d → σ.gl = G → HasU σ (UR ob m0 ms s) → HasU σ XR → ∀ b : Option ByteArray,
   ACalls P vf [.pv (enc d), .pv (wPV p), .pv ((b.map PV.str).getD (.str ⟨#[]⟩)), .pv (.bool b.isSome), .ptr oat 0] σ fun r σ' => r = .tuple [] ∧ σ' = updS σ (UR ob m0 ms (varR d p b s))) :
  WkH P G PV.str (.str ⟨#[]⟩) (UE e ob m0 ms) (ob :: List.range' m0 (msz e) ++ mk) XR ow nf [.ptr oto 0, .ptr oat 0] vf [.ptr oat 0] (namR to) varR (fun d p => e.sub p = some d) (fun m s => s.1.er = e.er ∧ GT m s.2) := by
 have hvE : ∀ (d : D) (p : List Int) (b : Option ByteArray) (s : D × Sg), s.1.er = e.er → (varR d p b s).1.er = e.er := by
  intro d p b s hs
  cases b with
  | none => exact hs
  | some b => exact (D.er_setText _ _ _).trans hs
 have hnE : ∀ (d : D) (p : List Int) (ns : List ByteArray) (n : Int) (s : D × Sg), s.1.er = e.er → (namR to d p ns n s).2.1.er = e.er := fun d p ns n s hs => (nmK_er to d p ns n s ns.length (Nat.le_refl _)).trans hs
 refine ⟨fun s => ?_, H.hn, H.hX, hw, cn, cv, rfl, rfl, fun s no nt h q hq => ?_, fun d p q ho hq => ?_, fun d p ns n s => nmK_len to d p ns n s ns.length (Nat.le_refl _), fun d p ns n m s ho hg hm => ⟨hnE d p ns n s hg.1, nmK_snd to d p ns n s GT H.T.gt m hg.2 ns.length (Nat.le_refl _)⟩, fun d p b m s ho hg h2 => ⟨hvE d p b s hg.1, ?_⟩, fun d p ns n m s σ h1 h2 ho hg hm hnm hgl hU hX => ?_, fun d p b m s σ h1 h2 ho hg hk hgl hU hX => ?_⟩
 ·unfold UE
  split
  ·exact H.keys' ‹_›
  ·exact H.keys' (s := (e, s.2)) rfl
 ·unfold UE at hq
  split at hq
  ·exact H.clo ‹_› h q hq
  ·exact H.clo (s := (e, s.2)) rfl h q hq
 ·rw [D.sub_append, ho]; exact D.sub_subs hq
 ·cases b <;> exact hg.2
 ·rw [UE_eq hg.1] at hU
  rw [UE_eq (hnE d p ns n s hg.1)]
  exact hn d p ns n m s σ h1 h2 hg.1 hg.2 hm ho hnm hgl hU hX
 ·rw [UE_eq hg.1] at hU
  rw [UE_eq (hvE d p b s hg.1)]
  exact hv d p s σ h1 h2 hg.1 ho hgl hU hX b
end
/-- Another state that tells less. -/
theorem awp_weakJL {ρ : Option Nat} {P : Program} {σ0 : Store} {N : Nat} {s : St} {Q : Exit → St → Prop} {c : Code} (nl : Nat) (s2 : St) (h : WeakJL nl s s2) (k : AWpR ρ P σ0 N c Q s2) : AWpR ρ P σ0 N c Q s := by
 rintro g0 w0 a w ⟨g, r⟩
 exact k g0 w0 a w (h.rel r)
theorem set_snoc {α : Type} (l : List α) (x y : α) : (l ++ [x]).set l.length y = l ++ [y] := by simp
/-- Objects up to a number are kept, what lies behind is let go. -/
theorem ACalls.keepTo {P : Program} {f : FuncId} {args : List AV} {σ : Store} {r0 : AV} {Y : Store} (no : Nat) (h0 : σ.objs.length ≤ no) (hc : ∀ ob, ob ∈ Y.objs → ob ∈ σ.objs ∨ ob.clo no σ.toks.length 0 = true)
  (h : ACalls P f args σ fun r σ' => WVt no σ.toks.length 0 r r0 ∧ σ'.cut no σ.toks.length = Y) : ACalls P f args σ fun r σ' => r = r0 ∧ σ' = Y := by
 refine h.less fun r σ' ⟨h1, h2⟩ => ⟨_, _, r0, h1, h0, Nat.le_refl _, fun ob hob => ?_, rfl, h2⟩
 have : σ'.objs.take no = Y.objs := congrArg Store.objs h2
 rw [this] at hob
 exact hc ob hob
theorem get_mid {α : Type} {X Y : List α} {b : α} {n : Nat} (h : X.length = n) : (X ++ b :: Y)[n]? = some b := by subst h; simp
theorem rn_objs {σ : Store} {A : List AObj} {bx : AObj} {e : D} {Sg : Type} {ms : Sg → List (Nat × AObj)} {mk : List Nat} (hA : A = σ.objs ++ bx :: lobjs (σ.objs.length + 1) e) (hmk : ∀ s, (ms s).map (·.1) = mk) (hnd : mk.Nodup) {st : Sg} (hms : HasU σ (ms st)) (B : List AObj) (tk : List Tok) (s : D × Sg) (hs : s.1.er = e.er) (C : List AV) :
  updS ⟨σ.gl, A ++ AObj.arr C :: B, tk⟩ (UR A.length (σ.objs.length + 1) ms s) = ⟨σ.gl, ((updS σ (ms s.2)).objs ++ bx :: lobjs (σ.objs.length + 1) s.1) ++ AObj.arr (lay (σ.objs.length + 1) s.1).cells :: B, tk⟩ := by
 have hl : A.length = σ.objs.length + 1 + msz e := by rw [hA]; simp [lobjs_len]; omega
 have hsz : msz s.1 = msz e := by rw [← msz_er, hs, msz_er]
 have hlt : ∀ i, i ∈ mk → i < σ.objs.length := by
  intro i hi
  rw [← hmk st] at hi
  obtain ⟨q, hq, rfl⟩ := List.mem_map.1 hi
  exact hms.lt hq
 have hk := UR_keys (ob := A.length) (m0 := σ.objs.length + 1) hmk s
 have hn : (A.length :: List.range' (σ.objs.length + 1) (msz s.1) ++ mk).Nodup := by
  refine List.nodup_append.2 ⟨List.nodup_cons.2 ⟨?_, List.nodup_range'⟩, hnd, ?_⟩
  ·rw [List.mem_range'_1]; omega
  ·intro a ha b hb e2
   subst e2
   have := hlt a hb
   rcases List.mem_cons.1 ha with h | h
   ·omega
   ·rw [List.mem_range'_1] at h; omega
 have hlen : (updS σ (ms s.2)).objs.length = σ.objs.length := updS_len
 have hl2 : ((updS σ (ms s.2)).objs ++ bx :: lobjs (σ.objs.length + 1) s.1).length = A.length := by simp [hlen, lobjs_len, hl, hsz]; omega
 have key : setAll (A ++ AObj.arr C :: B) (UR A.length (σ.objs.length + 1) ms s) = ((updS σ (ms s.2)).objs ++ bx :: lobjs (σ.objs.length + 1) s.1) ++ AObj.arr (lay (σ.objs.length + 1) s.1).cells :: B := by
  refine setAll_ext (by rw [hk]; exact hn) (by rw [List.length_append, List.length_append, hl2]; rfl) (fun q hq => ?_) (fun i hi => ?_)
  ·unfold UR at hq
   rcases List.mem_append.1 hq with hq | hq
   ·rcases List.mem_cons.1 hq with rfl | hq
    ·rw [List.getElem?_append_right (by rw [hl2]; exact Nat.le_refl _), hl2]; simp
    ·have h3 := lay_has (σ := ⟨σ.gl, ((updS σ (ms s.2)).objs ++ bx :: lobjs (σ.objs.length + 1) s.1) ++ AObj.arr (lay (σ.objs.length + 1) s.1).cells :: B, tk⟩) (A := (updS σ (ms s.2)).objs ++ [bx]) (C := AObj.arr (lay (σ.objs.length + 1) s.1).cells :: B) (d := s.1) (by simp [hlen])
     have e3 : ((updS σ (ms s.2)).objs ++ [bx]).length = σ.objs.length + 1 := by simp [hlen]
     rw [e3] at h3
     exact h3 q hq
   ·have hqm : q.1 ∈ mk := by rw [← hmk s.2]; exact List.mem_map.2 ⟨q, hq, rfl⟩
    have := hlt _ hqm
    rw [List.append_assoc, List.getElem?_append_left (by rw [hlen]; exact this)]
    exact setAll_in (by rw [hmk]; exact hnd) hq this
  ·rw [hk, List.mem_append, not_or] at hi
   obtain ⟨hi1, hi2⟩ := hi
   simp only [List.mem_cons, List.mem_range'_1, not_or] at hi1
   rcases Nat.lt_trichotomy i σ.objs.length with h | h | h
   ·rw [hA, List.append_assoc, List.append_assoc, List.getElem?_append_left h, List.getElem?_append_left (by rw [hlen]; exact h)]
    exact (setAll_out (by rw [hmk]; exact hi2)).symm
   ·subst h
    rw [hA, List.append_assoc, List.append_assoc, List.cons_append, List.cons_append, get_mid rfl, get_mid hlen]
   ·have h5 : A.length < i := by omega
    rw [List.getElem?_append_right (by omega), List.getElem?_append_right (by rw [hl2]; omega), hl2]
    obtain ⟨j, hj⟩ : ∃ j, i - A.length = j + 1 := ⟨i - A.length - 1, by omega⟩
    rw [hj]; rfl
 unfold updS at key ⊢
 simp only at key ⊢
 rw [key]
theorem lay_arrs_clo {m : Nat} {d : D} {no nt : Nat} (h : m + msz d ≤ no) : (∀ ob, ob ∈ lobjs m d → ob.clo no nt 0 = true) ∧ WVt no nt 0 (lay m d).av (lay m d).av := by
 have hk := rootU_clo (ob := m + msz d) (t := lay m d) (no := no + 1) (nt := nt) (fun i hi => by
  rw [rootU_keys, lay_keys] at hi
  rcases List.mem_cons.1 hi with rfl | hi
  ·omega
  ·rw [List.mem_range'_1] at hi; omega)
 have hlt : ∀ q, q ∈ (lay m d).arrs → q.1 < no := fun q hq => by have := lay_ge hq; omega
 have hcs : ∀ u : AD, (∀ q, q ∈ u.arrs → q.1 < no) → AV.clos no nt 0 u.cells = true := by
  intro u hu
  cases u with
  | mk k n tx o l =>
   cases l with
   | nil => rfl
   | cons a l =>
    have := hu (o, .arr ((a :: l).flatMap AD.cells)) (by simp [AD.arrs, rowOf])
    simp only [AD.cells, kvOf, AV.clos, AV.clo, Bool.and_true, Bool.true_and, decide_eq_true_eq]
    exact this
 have hrow : ∀ (u : AD), (∀ q, q ∈ u.arrs → q.1 < no) → ∀ q, q ∈ u.arrs → q.2.clo no nt 0 = true := by
  intro u
  induction u using AD.ind with
  | _ k n tx o l ih =>
   intro hu q hq
   rw [AD.arrs, AD.arrss_flat] at hq hu
   rcases List.mem_append.1 hq with hq | hq
   ·cases l with
    | nil => simp [rowOf] at hq
    | cons a l =>
     simp only [rowOf, List.mem_singleton] at hq
     subst hq
     simp only [AObj.clo, AV.clos_iff]
     intro x hx
     obtain ⟨c, hc, hx⟩ := List.mem_flatMap.1 hx
     exact AV.clos_iff.1 (hcs c fun q hq2 => hu q (List.mem_append_right _ (List.mem_flatMap.2 ⟨c, hc, hq2⟩))) x hx
   ·obtain ⟨c, hc, hq⟩ := List.mem_flatMap.1 hq
    exact ih c hc (fun q hq2 => hu q (List.mem_append_right _ (List.mem_flatMap.2 ⟨c, hc, hq2⟩))) q hq
 refine ⟨fun ob hob => ?_, ?_⟩
 ·obtain ⟨q, hq, rfl⟩ := List.mem_map.1 hob
  exact hrow _ hlt q hq
 ·have hc := hcs _ hlt
  by_cases h0 : (lay m d).kids = []
  ·rw [AD.av_leaf h0]; exact .same rfl
  ·rw [AD.av_node h0]; exact .same hc
section
variable {P : Program} {ty : TyT} {σ0 : Store} {N : Nat} {s : St} {o : Oper} {ops : Array Oper} {os : List Oper} {K : St → Prop} {σ : Store}
/-- A datum is looked at where it lies in a row. -/
theorem al_loadAv (hty : TyOk P ty) {t : TypeId} {p : Operand} {ti : TyI} {i off : Nat} {cells rest : List AV} {u : AD} (hg : o.guard = none) (ho : o.op = .load t p) (hti : ty t = some ti) (hk : ti.kind.agg = true) (h4 : ti.size = 4)
  (hp : ev s p = .ptr i off) (hi : s.σ.objs[i]? = some (.arr cells)) (hc : cells.drop off = u.cells ++ rest) (hd : dstOk N o.dst = true) (h : AOpsL P σ0 N ops os K (s.put o.dst u.av)) : AOpsL P σ0 N ops (o :: os) K s := by
 refine al_cons hg (aop_pure hty ?_ hd h)
 rw [ho]
 simp only [pureOp, hti, hp, loadAV, hi, hc, takeCells, hk, if_true, h4]
 rw [if_pos (by rw [List.length_append, AD.cells_len]; omega), List.take_append_of_le_length (by rw [AD.cells_len]; exact Nat.le_refl _), List.take_of_length_le (by rw [AD.cells_len]; exact Nat.le_refl _)]
 rfl
end
theorem take4_cells (u : AD) : u.cells.take 4 = u.cells := List.take_of_length_le (by rw [AD.cells_len]; exact Nat.le_refl _)
/-- What every action keeps, the walk keeps. -/
theorem wk_inv {β S : Type} {nam : D → List Int → List ByteArray → Int → S → List β × S} {vari : D → List Int → Option β → S → S} (I : S → Prop) (hn : ∀ d p ns n s, I s → I (nam d p ns n s).2) (hv : ∀ d p b s, I s → I (vari d p b s)) :
  ∀ (d : D) (p : List Int) (sc : List (ByteArray × β)) (s : S), I s → I (wk nam vari d p sc s) := by
 intro d
 induction d using D.indS with
 | h d ih =>
  intro p sc s hg
  by_cases h2 : synKind d = 2
  ·rw [wk_name _ _ h2]; exact hv _ _ _ _ hg
  by_cases h5 : synKind d = 5 ∨ synKind d = 9
  ·rw [wk_fn _ _ h5]
   have hq : subL d 2 (d2 d.kids) ∈ subs d := by rw [subs_of_fn h5]; simp
   exact ih _ hq _ _ _ (hn _ _ _ _ _ hg)
  by_cases h6 : synKind d = 6
  ·rw [wk_let _ _ h6]
   have hq : (⟨[2], []⟩, d2 d.kids) ∈ subs d := by rw [subs_of_let h6]; simp
   have hq3 : subL d 3 (d.kids.getD 3 dnone) ∈ subs d := by rw [subs_of_let h6]; simp
   exact ih _ hq3 _ _ _ (ih _ hq _ _ _ (hn _ _ _ _ _ hg))
  by_cases h7 : synKind d = 7
  ·rw [wk_rec _ _ h7]
   have hq : subL d 2 (d2 d.kids) ∈ subs d := by rw [subs_of_rec h7]; simp
   refine ih _ hq _ _ _ ?_
   have h0 := hn d p (ownS d) 0 s hg
   generalize wthSc sc (ownS d) (nam d p (ownS d) 0 s).1 = inn
   generalize (nam d p (ownS d) 0 s).2 = s0 at h0
   have key : ∀ k, k ≤ (d1 d.kids).kids.length → I (wkd nam vari d p inn k s0) := by
    intro k
    induction k with
    | zero => intro _; exact h0
    | succ k ihk =>
     intro hk
     have hx : (d1 d.kids).kids[k]? = some ((d1 d.kids).kids[k]'(by omega)) := by simp
     rw [wkd_next _ _ hx]
     exact ih _ (List.mem_of_getElem? (subs_rec_at h7 hx)) _ _ _ (hn _ _ _ _ _ (ihk (by omega)))
   exact key _ (Nat.le_refl _)
  ·rw [← wks_all nam vari (d := d) (p := p) (sc := sc) (s := s) ⟨h2, fun h => h5 (.inl h), fun h => h5 (.inr h), h6, h7⟩]
   have key : ∀ k, k ≤ (subs d).length → I (wks nam vari d p sc k s) := by
    intro k
    induction k with
    | zero => intro _; exact hg
    | succ k ihk =>
     intro hk
     have hx : (subs d)[k]? = some ((subs d)[k]'(by omega)) := by simp
     rw [wks_next _ _ hx]
     exact ih _ (List.mem_of_getElem? hx) _ _ _ (ihk (by omega))
   exact key _ (Nat.le_refl _)
theorem rnRes_er {Sg : Type} (to : List Int → Int → ByteArray → Sg → ByteArray × Sg) (e : D) (st : Sg) : (rnRes to e st).1.er = e.er :=
 wk_inv (fun s : D × Sg => s.1.er = e.er) (fun d p ns n s hs => (nmK_er to d p ns n s ns.length (Nat.le_refl _)).trans hs) (fun d p b s hs => by
  cases b with
  | none => exact hs
  | some b => exact (D.er_setText _ _ _).trans hs) e [] [] (e, st) rfl
theorem take_av (u : AD) : takeCells true 4 u.cells = some u.av := by
 unfold takeCells
 rw [if_pos rfl, if_pos (by rw [AD.cells_len]; exact Nat.le_refl _), take4_cells]; rfl
theorem resAV_cell {ty : TyT} {s : St} {c : Tmp} {t : TypeId} {ti : TyI} {i : Nat} {u : AD} (hti : ty t = some ti) (hk : ti.kind.agg = true) (h4 : ti.size = 4) (hp : get s.T c = .lptr i 0) (hL : s.L[i]? = some u.cells) : resAV ty s [.cell c t] = some [u.av] := by
 simp only [resAV, hti, hp, loadAV, hL, Option.bind_some, List.drop_zero, hk, h4, take_av, Option.map_some]
theorem av_noL (u : AD) : AV.noLs [u.av] = true := by
 by_cases h : u.kids = []
 ·rw [AD.av_leaf h]; rfl
 ·rw [AD.av_node h]
  simp only [AV.noLs, AV.noL, Bool.and_true]
  exact AV.noLs_iff.2 (AD.noL_cells u)
end Go.Aw

namespace Go.Aw
open Go Go.ChangeShapes Go.WideShapes Go.ChangeAt Go.WideMaps Go.WideElems Go.RowKit
theorem exists_list {α : Type} {Q : Nat → α → Prop} : ∀ n : Nat, (∀ i, i < n → ∃ d, Q i d) → ∃ l : List α, l.length = n ∧ ∀ i x, l[i]? = some x → Q i x
 | 0, _ => ⟨[], rfl, fun i x h => by simp at h⟩
 | n + 1, h => by
  obtain ⟨l, h1, h2⟩ := exists_list n (fun i hi => h i (by omega))
  obtain ⟨d, hd⟩ := h n (by omega)
  refine ⟨l ++ [d], by simp [h1], fun i x hx => ?_⟩
  rcases getElem?_snoc hx with hx | ⟨rfl, rfl⟩
  ·exact h2 i x hx
  ·rw [h1]; exact hd

theorem rp_slice_of {B : Nat} {S : Nat → Nat → Prop} {w : World} {a : Addr} {len cap sz : Nat} {xs : List PV} (hlen : xs.length = len) (hcap : len ≤ cap) (hb : a.block < B) (h0 : 0 < sz) (hsz : ∀ x, x ∈ xs → x.cells.length = sz)
  (h : ∀ (q : Nat) x, xs[q]? = some x → ∃ cs : List Value, cs.length = sz ∧ (∀ r, r < sz → w.cell? ((a.add (q * sz)).add r) = cs[r]?) ∧ (∀ v, v ∈ cs → v.oneCell' = true) ∧ ∀ (r : Nat) y v, x.cells[r]? = some y → cs[r]? = some v → RP B S w y v) :
  RP B S w (.slice xs) (.slice (some a) len cap) := by
 by_cases hl : xs = []
 ·subst hl; simp at hlen; subst hlen; exact .empty
 have hspot : a.spot = none := by
  obtain ⟨x, r, hx⟩ := kids_cons hl
  obtain ⟨cs, h1, h2, _⟩ := h 0 x (by rw [hx]; rfl)
  have h3 := h2 0 h0
  rw [Nat.zero_mul, Addr.add, if_pos rfl, Addr.add, if_pos rfl] at h3
  have h4 : cs[0]? = some cs[0] := by simp
  rw [h4] at h3
  unfold World.cell? at h3
  cases hs : a.spot with
  | none => rfl
  | some s =>
   rw [hs] at h3
   split at h3 <;> simp at h3
 have hadd : ∀ n, a.add n = ⟨a.block, a.off + n, none⟩ := by
  intro n
  unfold Addr.add
  split
  ·subst_vars; cases a; simp only at hspot; subst hspot; rfl
  ·rfl
 have hadd2 : ∀ n m, (a.add n).add m = ⟨a.block, a.off + (n + m), none⟩ := by
  intro n m
  rw [hadd]
  unfold Addr.add
  split
  ·subst_vars; rfl
  ·show (⟨a.block, a.off + n + m, none⟩ : Addr) = _
   rw [Nat.add_assoc]
 have ha : a = ⟨a.block, a.off, none⟩ := by cases a; simp only at hspot; subst hspot; rfl
 have hall : ∀ i, i < len * sz → ∃ (q r : Nat) (x : PV) (cs : List Value), i = q * sz + r ∧ r < sz ∧ xs[q]? = some x ∧ cs.length = sz ∧ w.cell? ⟨a.block, a.off + i, none⟩ = cs[r]? ∧ (∀ v, v ∈ cs → v.oneCell' = true) ∧ ∀ (r : Nat) y v, x.cells[r]? = some y → cs[r]? = some v → RP B S w y v := by
  intro i hi
  have hq : i / sz < len := Nat.div_lt_of_lt_mul (by rw [Nat.mul_comm]; exact hi)
  have hr : i % sz < sz := Nat.mod_lt _ h0
  have hx : xs[i / sz]? = some xs[i / sz] := by simp [hlen, hq]
  obtain ⟨cs, h1, h2, h3, h4⟩ := h _ _ hx
  have h5 := h2 (i % sz) hr
  have he : i / sz * sz + i % sz = i := by rw [Nat.mul_comm]; exact Nat.div_add_mod i sz
  rw [hadd2, he] at h5
  exact ⟨i / sz, i % sz, _, cs, he.symm, hr, hx, h1, h5, h3, h4⟩
 rw [ha, ← hlen]
 refine RP.slice (sz := sz) (vs := (List.range (len * sz)).map fun j => (w.cell? ⟨a.block, a.off + j, none⟩).getD (.int .i64 0)) hsz (by simp [hlen]) (by omega) (fun i v hv => ?_) (fun i y v hy hv => ?_)
 ·have hi : i < len * sz := by have := (List.getElem?_eq_some_iff.1 hv).1; simpa using this
  obtain ⟨q, r, x, cs, h1, h2, h3, h4, h5, h6, h7⟩ := hall i hi
  have h8 : cs[r]? = some cs[r] := by simp [h4, h2]
  rw [h8] at h5
  simp only [List.getElem?_map, List.getElem?_range hi, Option.map_some, Option.some.injEq, h5, Option.getD_some] at hv
  subst hv
  exact ⟨.inl hb, h5, h6 _ (List.getElem_mem _)⟩
 ·have hi : i < len * sz := by have := (List.getElem?_eq_some_iff.1 hv).1; simpa using this
  obtain ⟨q, r, x, cs, h1, h2, h3, h4, h5, h6, h7⟩ := hall i hi
  have h8 : cs[r]? = some cs[r] := by simp [h4, h2]
  rw [h8] at h5
  simp only [List.getElem?_map, List.getElem?_range hi, Option.map_some, Option.some.injEq, h5, Option.getD_some] at hv
  subst hv
  rw [h1, flat_get hsz h3 h2] at hy
  exact h7 r y _ hy h8

/-! ### data -/
structure DatumTy (P : Program) (tD tK ti tn ts : TypeId) : Prop where
 und : ∃ f0 f1 f2 f3 : Field, P.underlying tD = some (.struct #[f0, f1, f2, f3]) ∧ f0.type = ti ∧ f0.offset = 0 ∧ f1.type = tn ∧ f1.offset = 1 ∧ f2.type = ts ∧ f2.offset = 2 ∧ f3.type = tK ∧ f3.offset = 3
 i : P.underlying ti = some (.int .i64)
 n : P.underlying tn = some (.int .i64)
 s : P.underlying ts = some .string
 k : P.underlying tK = some (.slice tD)
 cD : P.cellsOf tD = 4
 ci : P.cellsOf ti = 1
 cn : P.cellsOf tn = 1
 cs : P.cellsOf ts = 1
 ck : P.cellsOf tK = 1

theorem one_of {α : Type} {l : List α} {i : Nat} {a : α} (h : (l.drop i).take 1 = [a]) : l[i]? = some a := by
 have h1 : ((l.drop i).take 1)[0]? = some a := by rw [h]; rfl
 rw [List.getElem?_take, List.getElem?_drop] at h1
 simpa using h1

section
variable {H : Type} {enc' : TypeId × Value → H} {P : Program} {w : World} {base : Nat} {spare : Nat → Bool} {held : Bool} {tD tK ti tn ts : TypeId} {S : Nat → Nat → Prop}
theorem open_datum (T : DatumTy P tD tK ti tn ts) : ∀ (fuel : Nat) (cs : List Value) (x : DataW H × List MemPlace), DataW.trod enc' P w base spare held fuel tD cs = some x →
  ∃ (d : D) (v : Value), cs = [.int .i64 d.kind, .int .i64 d.num, .string d.text, v] ∧ v.oneCell' = true ∧ RP w.heap.size S w (.slice (d.kids.map enc)) v := by
 intro fuel
 induction fuel using Nat.strongRecOn with
 | _ fuel ih =>
  intro cs x h
  obtain ⟨f0, f1, f2, f3, hu, t0, o0, t1, o1, t2, o2, t3, o3⟩ := T.und
  obtain ⟨xs, n, rfl, rfl, hl, hlen, hf⟩ := DataW.trod_struct hu h
  have hxl : xs.length = 4 := by simpa using hlen
  have g0 := hf 0 f0 rfl
  have g1 := hf 1 f1 rfl
  have g2 := hf 2 f2 rfl
  have g3 := hf 3 f3 rfl
  rw [t0, o0, T.ci] at g0
  rw [t1, o1, T.cn] at g1
  rw [t2, o2, T.cs] at g2
  rw [t3, o3, T.ck] at g3
  have s0 : xs[0]? = some xs[0] := by simp
  have s1 : xs[1]? = some xs[1] := by simp
  have s2 : xs[2]? = some xs[2] := by simp
  have s3 : xs[3]? = some xs[3] := by simp
  rw [s0] at g0
  rw [s1] at g1
  rw [s2] at g2
  rw [s3] at g3
  obtain ⟨k, e0, _, _⟩ := DataW.trod_int T.i g0
  obtain ⟨m, e1, _, _⟩ := DataW.trod_int T.n g1
  obtain ⟨t, e2, _, _⟩ := DataW.trod_string T.s g2
  have a0 := one_of e0
  have a1 := one_of e1
  have a2 := one_of e2
  rw [T.cD] at hl
  have hcs : ∃ v, cs = [.int .i64 k, .int .i64 m, .string t, v] := by
   match cs, hl, a0, a1, a2 with
   | [c0, c1, c2, c3], _, a0, a1, a2 =>
    simp only [List.getElem?_cons_zero, List.getElem?_cons_succ, Option.some.injEq] at a0 a1 a2
    exact ⟨c3, by rw [a0, a1, a2]⟩
  obtain ⟨v, hcs⟩ := hcs
  rw [hcs] at g3
  have g3' : DataW.trod enc' P w base spare held n tK [v] = some xs[3] := g3
  rcases DataW.trod_slice T.k g3' with ⟨hv, _⟩ | ⟨a, len, cap, elems, rest, m', rfl, hv, _, hb, hlc, hcm, hel, hes, _⟩
  ·cases hv
   exact ⟨.mk k m t [], _, hcs, rfl, by simp only [D.kids, List.map_nil]; exact .empty⟩
  ·cases hv
   rw [T.cD] at hes
   have hex : ∀ i, i < len → ∃ d : D, ∃ v' : Value, (∀ r, r < 4 → w.cell? ((a.add (i * 4)).add r) = ([.int .i64 d.kind, .int .i64 d.num, .string d.text, v'] : List Value)[r]?) ∧ v'.oneCell' = true ∧ RP w.heap.size S w (.slice (d.kids.map enc)) v' := by
    intro i hi
    have h1 := hes i hi
    have h2 : elems[i]? = some elems[i] := by simp [hel, hi]
    rw [h2] at h1
    obtain ⟨cs', hc, ht⟩ := Option.bind_eq_some_iff.1 h1
    obtain ⟨_, _, hc2⟩ := World.cells?_some hc
    obtain ⟨d, v', he, hone, hrp⟩ := ih m' (by omega) cs' _ ht
    subst he
    exact ⟨d, v', hc2, hone, hrp⟩
   obtain ⟨l, hll, hlq⟩ := exists_list len hex
   refine ⟨.mk k m t l, _, hcs, rfl, ?_⟩
   show RP w.heap.size S w (.slice (l.map enc)) (.slice (some a) len cap)
   by_cases hlen0 : len = 0
   ·subst hlen0
    have : l = [] := List.eq_nil_of_length_eq_zero hll
    subst this
    exact .empty
   have hblk : a.block < w.heap.size := by
    obtain ⟨d, v', h1, _⟩ := hex 0 (by omega)
    have h2 := h1 0 (by omega)
    rw [Nat.zero_mul, Addr.add, if_pos rfl, Addr.add, if_pos rfl] at h2
    unfold World.cell? at h2
    by_cases hlt : a.block < w.heap.size
    ·exact hlt
    ·rw [Array.getElem?_eq_none (by omega)] at h2; simp at h2
   refine rp_slice_of (sz := 4) (by simp [hll]) hlc hblk (by omega) (fun x hx => ?_) (fun q x hx => ?_)
   ·obtain ⟨d, _, rfl⟩ := List.mem_map.1 hx
    rw [enc_cells]; rfl
   ·rw [List.getElem?_map] at hx
    obtain ⟨d, hd, rfl⟩ := Option.map_eq_some_iff.1 hx
    obtain ⟨v', h1, h2, h3⟩ := hlq q d hd
    refine ⟨[.int .i64 d.kind, .int .i64 d.num, .string d.text, v'], rfl, h1, fun u hu => ?_, fun r y u hy hu => ?_⟩
    ·simp only [List.mem_cons, List.not_mem_nil, or_false] at hu
     rcases hu with rfl | rfl | rfl | rfl <;> first | rfl | exact h2
    ·rw [enc_cells] at hy
     match r with
     | 0 => simp at hy hu; subst hy hu; exact .int
     | 1 => simp at hy hu; subst hy hu; exact .int
     | 2 => simp at hy hu; subst hy hu; exact .str
     | 3 => simp at hy hu; subst hy hu; exact h3
     | r + 4 => simp at hy
end
end Go.Aw

namespace Go.Aw
open Go Go.ChangeShapes Go.WideShapes Go.ChangeAt Go.WideMaps Go.WideElems Go.RowKit
theorem insert_perm {H : Type} (x : Lit × DataW H) : ∀ l : List (Lit × DataW H), (DataW.insert x l).Perm (x :: l)
 | [] => .refl _
 | y :: r => by
  unfold DataW.insert
  split
  ·exact .refl _
  ·exact ((insert_perm x r).cons y).trans (.swap _ _ _)
theorem foldr_insert_perm {H : Type} : ∀ l : List (Lit × DataW H), (l.foldr DataW.insert []).Perm l
 | [] => .refl _
 | x :: l => (insert_perm x _).trans ((foldr_insert_perm l).cons x)

def litStr : Lit → List UInt8
 | .string s => s
 | _ => []

section
variable {H : Type} {enc' : TypeId × Value → H} {P : Program} {w : World} {base : Nat} {sp : Nat → Bool} {held : Bool} {S : Nat → Nat → Prop} {t k e : TypeId} {fuel : Nat} {cs : List Value} {ps : List MemPlace}
end
/-! ### the beginning and the end of a call -/
def g0 (W : World) : Ghost := { B := W.heap.size, K := fun _ => False, S := fun _ _ => False, io := [], lam := [], tb := [] }
theorem inv0 {W : World} {gl : List (Nat × PV)} (h : ∀ n p, (n, p) ∈ gl → RP W.heap.size (fun _ _ => False) W p (.pointer (some ⟨n, 0, none⟩))) : Inv (g0 W) ⟨gl, [], []⟩ [] W := by
 refine ⟨rfl, rfl, rfl, h, List.nodup_nil, fun b hb => (by simp [g0, Ghost.owned] at hb), fun b hb => (by cases hb), Nat.le_refl _, fun b o hS => (by cases hS), fun o ob b ho => (by simp at ho), fun i cs b hL => (by simp at hL), fun k t tb ht => (by simp at ht)⟩
theorem below_of {W W' : World} {σ σ' : Store} {g' : Ghost} (h : Ext (g0 W) σ W g' σ' W') : Below W.heap.size W W' :=
 ⟨h.os, h.tape, h.output, h.size, fun k hk => h.le.keeps.blk k hk⟩

section
variable {H : Type} {enc' : TypeId × Value → H} {P : Program}
theorem post_of_below {f : Func} {s : ChangeSpec} {apart fresh handsOn again : Bool} {W W' : World} {args : Array Value} {v : Value} {ds gs : List (DataW H)} {before pa pv : List MemPlace}
  (hW : DataW.Whole enc' P f.params.toList s.vars apart W args.toList ds gs before)
  (hres : ∀ (b : Nat) (sp : Nat → Bool) (hd : Bool), DataW.TrodAll enc' P W' b sp hd f.resultTypes.toList (v.resultList f.resultTypes.size) (s.fn H (ds ++ gs)).results [])
  (hargs : ∀ sp : Nat → Bool, (∀ p ∈ before, sp p.block = true) → DataW.TrodAll enc' P W' 0 sp true f.params.toList args.toList (s.fn H (ds ++ gs)).args pa)
  (hvars : ∀ sp : Nat → Bool, (∀ p ∈ before, sp p.block = true) → DataW.TrodVars enc' P W' sp s.vars (s.fn H (ds ++ gs)).vars pv)
  (hps : before = pa ++ pv) (hb : Below W.heap.size W W')
  (hok : ∀ (j : Nat) (t : TypeId) (r : Value), f.resultTypes[j]? = some t → (v.resultList f.resultTypes.size)[j]? = some r → Value.okWide P W' .any 0 t r) :
  s.post enc' P f apart fresh handsOn again W args v W' := by
 have hold : ∀ p ∈ before, (fun b => decide (b < W.heap.size)) p.block = true := fun p hp => by simpa using hW.lt p hp
 refine ⟨ds, gs, before, [], pa, pv, hW, hres _ _ _, hargs _ hold, hvars _ hold, hb.frame _, fun _ => ?_⟩
 have hlt := hW.lt
 obtain ⟨_, _, _, _, _, hz, hn⟩ := hW
 refine ⟨hok, _, _, ([] ++ pa) ++ pv, ⟨[] ++ pa, pv, trodAll_append (hargs _ (fun _ _ => rfl)) (hres _ _ _), hvars _ (fun _ _ => rfl), rfl, ?_, ?_⟩, ?_⟩
 ·intro b off hp
  have hp' : MemPlace.cell b off ∈ before := by rw [hps]; simpa using hp
  have hl := hlt _ hp'
  rw [hb.frozen (p := ⟨b, off, none⟩) hl]
  exact hz b off hp'
 ·intro ha
  have := hn ha
  rw [hps] at this
  simpa using this
 ·intro p hp _
  rw [hps]
  simpa using hp
end
end Go.Aw

namespace Go.Aw
open Go Go.RowKit Go.Sort Go.Proofs Go.Maps Go.WideElems
def bstr (l : List UInt8) : ByteArray := ⟨l.toArray⟩
/-- A call that gives a new row of strings and leaves the world but for new blocks. -/
theorem acalls_strs {P : Program} {f : FuncId} {args : List AV} {σ : Store} {Q : List (List UInt8) → Prop}
  (h : ∀ g w (cargs : List Value), Inv g σ [] w → cargs.length = args.length → (∀ (i : Nat) x v, args[i]? = some x → cargs[i]? = some v → RA g σ.toks w x v) →
   Calls P f cargs.toArray w fun e w' => ∃ (v : Value) (ss : List (List UInt8)) (t : TypeId), e = .returned v ∧ Q ss ∧ w'.ownsRow w.heap.size t 1 v ss.length (ss.map encStr) ∧ Below w.heap.size w w') :
  ACalls P f args σ fun r σ' => ∃ ss : List (List UInt8), r = .pv (.slice (ss.map fun l => .str (bstr l))) ∧ Q ss ∧ σ' = σ := by
 intro g w cargs hinv hlen hargs
 refine (h g w cargs hinv hlen hargs).mono ?_
 rintro e w' ⟨v, ss, t, rfl, hQ, ⟨hxl, hrow⟩, hb⟩
 obtain ⟨h1, h2⟩ := hinv.step hb.size (fun b hlt => hb.block b hlt)
 have hext : Ext g σ w g σ w' := ⟨h2, rfl, fun _ h => h, fun b hK => hb.block b (hinv.kept b hK).1, hb.size, hb.os, hb.tape, hb.output, hinv.lio, hinv.clo⟩
 rcases hrow with ⟨rfl, hn⟩ | ⟨b, cap, cur, rfl, hbase, hbk, hnc, hcm, hsz, htk⟩
 ·have hss : ss = [] := List.eq_nil_of_length_eq_zero hn
  subst hss
  exact ⟨_, _, σ, g, rfl, ⟨[], rfl, hQ, rfl⟩, h1, hext, .pv .empty⟩
 ·have hblt : b < w'.heap.size := by
   by_cases hlt : b < w'.heap.size
   ·exact hlt
   ·rw [Array.getElem?_eq_none (by omega)] at hbk; cases hbk
  have hfr : Fresh g w' b := by
   refine ⟨by have := hinv.base; omega, hblt, fun hK => by have := (hinv.kept b hK).1; omega, fun o hS => by have := (hinv.cells b o hS).2.1; omega, fun hm => by have := (hinv.low b hm).2.1; omega⟩
  obtain ⟨h3, h4⟩ := h1.addS hfr (fun o => o < ss.length)
  have hle := h2.trans h4
  refine ⟨_, _, σ, _, rfl, ⟨ss, rfl, hQ, rfl⟩, h3, ⟨hle, rfl, fun _ h => h, fun b hK => hb.block b (hinv.kept b hK).1, hb.size, hb.os, hb.tape, hb.output, hinv.lio, hinv.clo⟩, .pv ?_⟩
  have hrp : RP g.B (fun c o => g.S c o ∨ (c = b ∧ o < ss.length)) w' (.slice (ss.map fun l => .str (bstr l))) (.slice (some ⟨b, 0, none⟩) (ss.map fun l => PV.str (bstr l)).length cap) := by
   refine .slice (sz := 1) (vs := ss.map encStr) (fun x hx => by obtain ⟨l, _, rfl⟩ := List.mem_map.1 hx; rfl) (by simp) (by simpa using hnc) (fun i u hu => ?_) (fun i x u hx hu => ?_)
   ·have hi : i < ss.length := by have := (List.getElem?_eq_some_iff.1 hu).1; simpa using this
    refine ⟨.inr (.inr ⟨rfl, by omega⟩), ?_, ?_⟩
    ·rw [cell_of_heap hbk, Nat.zero_add]
     have h5 : (cur.toList.take (ss.length * 1))[i]? = some u := by rw [htk]; exact hu
     rw [List.getElem?_take, if_pos (by omega)] at h5
     simpa using h5
    ·rw [List.getElem?_map] at hu
     obtain ⟨l, _, rfl⟩ := Option.map_eq_some_iff.1 hu
     rfl
   ·have hfl : flat (ss.map fun l => PV.str (bstr l)) = ss.map fun l => PV.str (bstr l) := by
     generalize ss = L
     induction L with
     | nil => rfl
     | cons a L ih => simp only [List.map_cons]; show PV.cells _ ++ flat _ = _; rw [ih]; rfl
    rw [hfl, List.getElem?_map] at hx
    rw [List.getElem?_map] at hu
    obtain ⟨l, hl, rfl⟩ := Option.map_eq_some_iff.1 hx
    rw [hl] at hu
    simp only [Option.map_some, Option.some.injEq] at hu
    subst hu
    exact .str
  simpa using hrp
/-- A set in memory, as the kit reads a map. -/
theorem owns_set {P : Program} {g : Ghost} {w : World} {b : Nat} {S : List ByteArray} {kt : TypeId} (hk : P.underlying kt = some .string) (h : RMap g w b (tK S) (tV S)) (hm : S.length ≤ maxLen) (hs : ∀ s, s ∈ S → s.size ≤ maxLen) :
  ∃ D0 : DataW Unit, w.ownsMap P kt (fun _ => some (.nil, [])) b S.length D0 ∧ (strKeys D0).Perm (S.map fun s => s.data.toList) ∧ Maps.size D0 = S.length := by
 obtain ⟨es, clock, h0, h1, h2, h3, h4, h5⟩ := h
 have hkl : (tK S).length = S.length := by simp [tK]
 have hes : ∀ (i : Nat) e, es[i]? = some e → ∃ s, S[i]? = some s ∧ e.key = .string s := by
  intro i e he
  have hi : i < S.length := by have := (List.getElem?_eq_some_iff.1 he).1; omega
  have hsi : S[i]? = some S[i] := by simp
  have hti : (tK S)[i]? = some (.str S[i]) := by unfold tK; rw [List.getElem?_map, hsi]; rfl
  exact ⟨_, hsi, (h3 i _ e hti he).str_inv⟩
 have hrd : ∀ (i : Nat) e, es[i]? = some e → ∃ s, S[i]? = some s ∧ WideElems.rd P kt (fun _ => some ((.nil : DataW Unit), [])) e = some (.string s.data.toList, .nil) := by
  intro i e he
  obtain ⟨s, hsi, hke⟩ := hes i e he
  refine ⟨s, hsi, ?_⟩
  unfold WideElems.rd
  rw [hke, WideMaps.keyOf_string_mk hk (hs s (List.mem_of_getElem? hsi))]
  rfl
 have hrg : es.map (WideElems.rg P kt fun _ => some ((.nil : DataW Unit), [])) = S.map fun s => (Lit.string s.data.toList, (.nil : DataW Unit)) := by
  apply List.ext_getElem?
  intro i
  rw [List.getElem?_map, List.getElem?_map]
  cases he : es[i]? with
  | none =>
   have : S[i]? = none := by rw [List.getElem?_eq_none_iff] at he ⊢; omega
   rw [this]; rfl
  | some e =>
   obtain ⟨s, hsi, hr⟩ := hrd i e he
   rw [hsi]
   simp only [Option.map_some]
   rw [WideElems.rg_of hr]
 refine ⟨_, ⟨es.toArray, clock, h0, ⟨by simp; omega, h5, fun x hx => ?_⟩, by simp; omega, rfl⟩, ?_, ?_⟩
 ·obtain ⟨i, hi⟩ := List.getElem?_of_mem (show x ∈ es by simpa using hx)
  obtain ⟨s, _, hr⟩ := hrd i x hi
  exact ⟨_, hr⟩
 ·have hp := (foldr_insert_perm (es.toArray.toList.map (WideElems.rg P kt fun _ => some ((.nil : DataW Unit), [])))).map fun p => strOf p.1
  rw [show es.toArray.toList = es by simp, hrg] at hp
  show List.Perm (List.map _ _) _
  rw [show es.toArray.toList = es by simp, hrg]
  refine hp.trans ?_
  rw [List.map_map]
  refine List.Perm.of_eq (List.map_congr_left fun s _ => ?_)
  rfl
 ·have hp := (foldr_insert_perm (es.toArray.toList.map (WideElems.rg P kt fun _ => some ((.nil : DataW Unit), []))))
  rw [show es.toArray.toList = es by simp, hrg] at hp
  show List.length _ = _
  rw [show es.toArray.toList = es by simp, hrg, hp.length_eq]
  simp
theorem perm_sorted_eq {α : Type} {r : α → α → Prop} (ha : ∀ a b, r a b → r b a → a = b) : ∀ {l1 l2 : List α}, l1.Perm l2 → l1.Pairwise r → l2.Pairwise r → l1 = l2
 | [], l2, h, _, _ => (List.Perm.nil_eq h)
 | a :: l1, [], h, _, _ => (List.Perm.eq_nil h)
 | a :: l1, b :: l2, h, h1, h2 => by
  have hab : a = b := by
   rcases List.mem_cons.1 (h.mem_iff.1 (List.mem_cons_self (a := a) (l := l1))) with e | e
   ·exact e
   ·rcases List.mem_cons.1 (h.mem_iff.2 (List.mem_cons_self (a := b) (l := l2))) with e2 | e2
    ·exact e2.symm
    ·exact ha a b ((List.pairwise_cons.1 h1).1 b e2) ((List.pairwise_cons.1 h2).1 a e)
  subst hab
  rw [perm_sorted_eq ha (List.Perm.cons_inv h) (List.pairwise_cons.1 h1).2 (List.pairwise_cons.1 h2).2]
/-- Strings, rising. -/
def sortB (S : List ByteArray) : List ByteArray := ((S.map fun s => s.data.toList).mergeSort fun x y => decide (x ≤ y)).map bstr
theorem le_total8 (a b : List UInt8) : (decide (a ≤ b) || decide (b ≤ a)) = true := by
 have := List.le_total a b
 rcases this with h | h <;> simp [h]
theorem le_trans8 (a b c : List UInt8) : decide (a ≤ b) = true → decide (b ≤ c) = true → decide (a ≤ c) = true := by
 simp only [decide_eq_true_eq]
 exact fun h1 h2 => List.le_trans h1 h2
theorem sort_perm {ss tt : List (List UInt8)} (h : ss.Perm tt) : (ss.mergeSort fun x y => decide (x ≤ y)) = tt.mergeSort fun x y => decide (x ≤ y) := by
 refine perm_sorted_eq (r := fun x y => (decide (x ≤ y)) = true) (fun a b h1 h2 => List.le_antisymm (by simpa using h1) (by simpa using h2)) ?_ (List.pairwise_mergeSort (le := fun x y => decide (x ≤ y)) le_trans8 le_total8 ss) (List.pairwise_mergeSort (le := fun x y => decide (x ≤ y)) le_trans8 le_total8 tt)
 exact (List.mergeSort_perm ss _).trans (h.trans (List.mergeSort_perm tt _).symm)
/-- slices.Sorted of maps.Keys' iterator. -/
theorem acalls_sorted {P : Program} {fs fk : FuncId} {kt : TypeId} {n m : Nat} (hk : P.underlying kt = some .string)
  (hseq : ∀ (w : World) (Bm b nn : Nat) (D0 : DataW Unit), Bm < w.heap.size → w.cell? ⟨Bm, 0, none⟩ = some (.map (some b)) → w.ownsMap P kt (fun _ => some ((.nil : DataW Unit), [])) b nn D0 → SeqGives Fence.wide n P fk #[.pointer (some ⟨Bm, 0, none⟩)] encStr (fun ss => ss.Perm (strKeys D0)) (Maps.size D0) w)
  (hsrt : ∀ (Bm N : Nat) (S : List (List UInt8) → Prop) (w : World), N ≤ maxLen → N * 16 ≤ 140737488355328 → SeqGives Fence.wide n P fk #[.pointer (some ⟨Bm, 0, none⟩)] encStr S N w →
   CallsIn Fence.wide m P fs #[.func (.func fk) #[] #[.pointer (some ⟨Bm, 0, none⟩)]] w fun e w' => ∃ (v : Value) (ss : List (List UInt8)) (t : TypeId), e = .returned v ∧ S ss ∧ w'.ownsRow w.heap.size t 1 v ss.length ((ss.mergeSort (fun x y => decide (x ≤ y))).map encStr) ∧ Below w.heap.size w w')
  {σ : Store} {o om : Nat} {S : List ByteArray} (ho : σ.objs[o]? = some (.box [.map om])) (hom : σ.objs[om]? = some (.map (tK S) (tV S))) (hl : S.length ≤ 1000000000) (hs : ∀ s, s ∈ S → s.size ≤ maxLen) :
  ACalls P fs [.func (.func fk) [.ptr o 0]] σ fun r σ' => r = .pv (.slice ((sortB S).map .str)) ∧ σ' = σ := by
 have h := acalls_strs (P := P) (f := fs) (args := [.func (.func fk) [.ptr o 0]]) (σ := σ) (Q := fun ss => ss = (S.map fun s => s.data.toList).mergeSort fun x y => decide (x ≤ y)) (fun g w cargs hinv hlen hargs => ?_)
 ·refine h.mono ?_
  rintro r σ' ⟨ss, rfl, rfl, rfl⟩
  exact ⟨by unfold sortB; rw [List.map_map]; rfl, rfl⟩
 ·match cargs, hlen with
  | [v], hlen1 =>
   have hv := hargs 0 _ v rfl rfl
   cases hv with
   | func hfl hfr =>
    rename_i vs
    match vs, hfl with
    | [p], hpl1 =>
     have hp := hfr 0 _ p rfl rfl
     cases hp with
     | ptr hio =>
      rename_i Bm
      obtain ⟨_, us, e, h6, h7, h8, h9⟩ := hinv.objs o _ Bm ho hio
      match us, h7 with
      | [u], hul1 =>
       have hu := h9 0 _ u rfl rfl
       cases hu with
       | map hio2 =>
        rename_i b
        have hbm := (hinv.low Bm (mem_io hio)).2.1
        obtain ⟨D0, k1, k2, k3⟩ := owns_set hk (hinv.objs om _ b hom hio2) (Nat.le_trans hl (by decide)) hs
        have hcell : w.cell? ⟨Bm, 0, none⟩ = some (.map (some b)) := by rw [cell_of_heap h6]; rfl
        have hsq := hseq w Bm b S.length D0 hbm hcell k1
        refine (callsIn_wide.1 (hsrt Bm (Maps.size D0) _ w (by rw [k3]; exact Nat.le_trans hl (by decide)) (by rw [k3]; omega) hsq)).mono ?_
        rintro e' w' ⟨v, ss, t, rfl, hS, hrow, hb⟩
        refine ⟨v, ss.mergeSort fun x y => decide (x ≤ y), t, rfl, sort_perm (hS.trans k2), ?_, hb⟩
        rw [List.length_mergeSort]
        exact hrow
end Go.Aw

namespace Go.Aw
open Go
def vS (n : Int) : ByteArray := ⟨#[118]⟩ ++ itoaB n
theorem vS_inj {n m : Int} (hn : 0 ≤ n) (hm : 0 ≤ m) (h : vS n = vS m) : n = m := by
 have h1 := congrArg (fun x : ByteArray => x.data.toList) h
 simp [vS] at h1
 exact itoaB_inj hn hm (ByteArray.ext h1)
theorem memB_true {l : List ByteArray} {x : ByteArray} : memB l x = true ↔ x ∈ l := by
 unfold memB
 rw [List.any_eq_true]
 exact ⟨fun ⟨y, hy, e⟩ => by simp at e; rw [e]; exact hy, fun h => ⟨x, h, by simp⟩⟩
/-- Different things among others are no more than these. -/
theorem nodup_sub_len {α : Type} [DecidableEq α] : ∀ {l S : List α}, l.Nodup → (∀ x, x ∈ l → x ∈ S) → l.length ≤ S.length
 | [], S, _, _ => Nat.zero_le _
 | a :: l, S, hn, h => by
  have hn := List.nodup_cons.1 hn
  have ha := h a (by simp)
  have := nodup_sub_len (l := l) (S := S.erase a) hn.2 (fun x hx => (List.mem_erase_of_ne (fun e => hn.1 (by rw [← e]; exact hx))).2 (h x (by simp [hx])))
  rw [List.length_erase_of_mem ha] at this
  have hp := List.length_pos_of_mem ha
  simp only [List.length_cons]; omega
/-- How many of the first names are among others. -/
def hits (S : List ByteArray) (n : Nat) : Nat := ((List.range n).filter fun (j : Nat) => memB S (vS (j : Int))).length
theorem hits_le (S : List ByteArray) (n : Nat) : hits S n ≤ S.length := by
 unfold hits
 rw [← List.length_map (f := fun j : Nat => vS (j : Int))]
 refine nodup_sub_len ?_ (fun x hx => ?_)
 ·rw [List.nodup_iff_pairwise_ne, List.pairwise_map]
  refine List.Pairwise.imp ?_ ((List.nodup_range (n := n)).filter _)
  intro a b h e
  exact h (by have := vS_inj (by omega) (by omega) e; omega)
 ·obtain ⟨j, hj, rfl⟩ := List.mem_map.1 hx
  exact memB_true.1 (List.mem_filter.1 hj).2
theorem hits_succ (S : List ByteArray) (n : Nat) : hits S (n + 1) = hits S n + (if memB S (vS (n : Int)) = true then 1 else 0) := by
 unfold hits
 rw [List.range_succ, List.filter_append, List.length_append]
 congr 1
 by_cases h : memB S (vS (n : Int)) = true
 ·rw [if_pos h]; simp [h]
 ·rw [if_neg h]; simp [h]
theorem hits_all {S : List ByteArray} {n : Nat} : ∀ {k : Nat}, (∀ j, n ≤ j → j < n + k → memB S (vS (j : Int)) = true) → hits S (n + k) = hits S n + k
 | 0, _ => rfl
 | k + 1, h => by
  rw [← Nat.add_assoc, hits_succ, hits_all (fun j h1 h2 => h j h1 (by omega)), if_pos (h (n + k) (by omega) (by omega))]; omega
/-- The next name's number. -/
def nxtF (S : List ByteArray) : Nat → Nat → Nat
 | 0, n => n
 | f + 1, n => if memB S (vS (n : Int)) = true then nxtF S f (n + 1) else n
def nxtV (S : List ByteArray) (n : Nat) : Nat := nxtF S (S.length + 1) n
theorem nxtF_spec (S : List ByteArray) : ∀ (f n : Nat), n ≤ nxtF S f n ∧ nxtF S f n ≤ n + f ∧ (∀ j, n ≤ j → j < nxtF S f n → memB S (vS (j : Int)) = true) ∧ (nxtF S f n < n + f → memB S (vS (nxtF S f n : Int)) = false)
 | 0, n => ⟨Nat.le_refl _, Nat.le_refl _, fun j h1 h2 => by simp only [nxtF] at h2; omega, fun h => by simp only [nxtF] at h; omega⟩
 | f + 1, n => by
  simp only [nxtF]
  split
  ·rename_i hm
   obtain ⟨h1, h2, h3, h4⟩ := nxtF_spec S f (n + 1)
   refine ⟨by omega, by omega, fun j h5 h6 => ?_, fun h => h4 (by omega)⟩
   by_cases hj : j = n
   ·subst hj; exact hm
   ·exact h3 j (by omega) h6
  ·rename_i hm
   exact ⟨Nat.le_refl _, by omega, fun j h1 h2 => by omega, fun _ => by simpa using hm⟩
theorem nxtV_spec (S : List ByteArray) (n : Nat) : n ≤ nxtV S n ∧ nxtV S n ≤ n + S.length ∧ (∀ j, n ≤ j → j < nxtV S n → memB S (vS (j : Int)) = true) ∧ memB S (vS (nxtV S n : Int)) = false := by
 obtain ⟨h1, h2, h3, h4⟩ := nxtF_spec S (S.length + 1) n
 have hb : nxtV S n ≤ n + S.length := by
  have := hits_all (S := S) (n := n) (k := nxtV S n - n) (fun j h5 h6 => h3 j h5 (by unfold nxtV at h6; omega))
  have h5 := hits_le S (n + (nxtV S n - n))
  unfold nxtV at *
  omega
 exact ⟨h1, hb, h3, h4 (by unfold nxtV at hb; omega)⟩
/-- The names of a canonical form: the next number, where names are among others. -/
def canTo (S : List ByteArray) (_p : List Int) (_i : Int) (_x : ByteArray) (n : Nat) : ByteArray × Nat := (vS (nxtV S n : Int), nxtV S n + 1)
def canGT (S : List ByteArray) (m n : Nat) : Prop := n ≤ m + hits S n
theorem canGT_next {S : List ByteArray} {m n : Nat} (h : canGT S m n) : canGT S (m + 1) (nxtV S n + 1) := by
 obtain ⟨h4, _, h5, _⟩ := nxtV_spec S n
 unfold canGT at *
 have := hits_all (S := S) (n := n) (k := nxtV S n - n) (fun j h1 h2 => h5 j h1 (by omega))
 rw [show n + (nxtV S n - n) = nxtV S n by omega] at this
 have h7 := hits_succ S (nxtV S n)
 omega
/-! ### how much is in an expression -/
theorem sizes_take_drop (l : List D) (n : Nat) : D.sizes (l.take n) + D.sizes (l.drop n) = D.sizes l := by
 conv => rhs; rw [← List.take_append_drop n l]
 generalize l.take n = a
 generalize l.drop n = b
 induction a with
 | nil => simp [D.sizes]
 | cons x a ih => simp [D.sizes]; omega
theorem mapI_sizes {f : Nat → D → Sub × D} (hf : ∀ i x, (f i x).2 = x) (l : List D) : ((mapI f l).map fun q => q.2.size).sum = D.sizes l := by
 have : ((mapI f l).map fun q => q.2.size) = l.map D.size := by
  apply List.ext_getElem?
  intro i
  rw [List.getElem?_map, mapI_get, List.getElem?_map]
  cases l[i]? with
  | none => rfl
  | some x => simp [hf]
 rw [this]
 clear this
 induction l with
 | nil => rfl
 | cons x l ih => simp [D.sizes, ih]
theorem kids3 {l : List D} (h : l.length = 3) : D.sizes l = (l.headD dnone).size + (d1 l).size + (d2 l).size := by
 match l, h with
 | [a, b, c], _ => simp [D.sizes, d1, d2]; omega
theorem kids4 {l : List D} (h : l.length = 4) : D.sizes l = (l.headD dnone).size + (d1 l).size + (d2 l).size + (l.getD 3 dnone).size := by
 match l, h with
 | [a, b, c, e], _ => simp [D.sizes, d1, d2]; omega
theorem sub_bound (d : D) : (ownS d).length + (if (synKind d == 7) = true then ((d1 d.kids).kids.map fun x => (parS x).length).sum else 0) + ((subs d).map fun q => q.2.size).sum + (if synKind d = 2 then 1 else 0) ≤ d.size := by
 have hsz := D.size_kids d
 by_cases h4 : synKind d = 4 ∨ synKind d = 8
 ·have ho : ownS d = [] := by unfold ownS; rw [if_neg (by simp; omega), if_neg (by simp; omega), if_neg (by simp; omega), if_neg (by simp; omega)]
  rw [subs_of_rest h4, mapI_sizes (fun _ _ => rfl), ho, if_neg (by simp; omega), if_neg (by omega)]
  have := sizes_take_drop d.kids 1
  simp only [List.length_nil, Nat.zero_add, Nat.add_zero]; omega
 by_cases h10 : synKind d = 10
 ·have ho : ownS d = [] := by unfold ownS; rw [if_neg (by simp; omega), if_neg (by simp; omega), if_neg (by simp; omega), if_neg (by simp; omega)]
  rw [subs_of_app h10, mapI_sizes (fun _ _ => rfl), ho, if_neg (by simp; omega), if_neg (by omega)]
  simp; omega
 by_cases h5 : synKind d = 5 ∨ synKind d = 9
 ·have hl := (syn_len d).1 (h5.elim .inl fun h => .inr (.inl h))
  have ho : ownS d = (d1 d.kids).kids.map D.text := by unfold ownS; rcases h5 with h | h <;> rw [h] <;> rfl
  rw [subs_of_fn h5, ho, if_neg (by simp; omega), if_neg (by omega)]
  have h1 := D.kids_length_lt (d1 d.kids)
  have h2 := kids3 hl
  simp [subL]; omega
 by_cases h6 : synKind d = 6
 ·have hl := (syn_len d).2.1 h6
  have ho : ownS d = [(d1 d.kids).text] := by unfold ownS; rw [h6]; rfl
  rw [subs_of_let h6, ho, if_neg (by simp; omega), if_neg (by omega)]
  have h1 := D.size_pos (d1 d.kids)
  have h2 := kids4 hl
  simp [subL] at h2 ⊢; omega
 by_cases h7 : synKind d = 7
 ·have hl := (syn_len d).1 (.inr (.inr h7))
  have h3 := (syn_len d).2.2 h7
  have ho : ownS d = (d1 d.kids).kids.map fun x => x.head.text := by unfold ownS; rw [h7]; rfl
  have h2 := kids3 hl
  have hs1 := D.size_kids (d1 d.kids)
  have hm : ((mapI (subR d) (d1 d.kids).kids).map fun q => q.2.size).sum = ((d1 d.kids).kids.map fun x => (d2 x.kids).size).sum := by
   have : ((mapI (subR d) (d1 d.kids).kids).map fun q => q.2.size) = (d1 d.kids).kids.map fun x => (d2 x.kids).size := by
    apply List.ext_getElem?
    intro i
    rw [List.getElem?_map, mapI_get, List.getElem?_map]
    cases (d1 d.kids).kids[i]? with
    | none => rfl
    | some x => rfl
   rw [this]
  rw [subs_of_rec h7, ho, if_pos (by simpa using h7), if_neg (by omega), List.map_append, List.sum_append, hm]
  have key : ∀ l : List D, (∀ x, x ∈ l → x.kids.length = 3) → l.length + (l.map fun x => (parS x).length).sum + (l.map fun x => (d2 x.kids).size).sum ≤ D.sizes l := by
   intro l
   induction l with
   | nil => intro _; simp
   | cons x l ih =>
    intro h
    have ih := ih fun y hy => h y (by simp [hy])
    have hx := kids3 (h x (by simp))
    have hsx := D.size_kids x
    have hp : (parS x).length < (d1 x.kids).size := by unfold parS; rw [List.length_map]; exact D.kids_length_lt _
    simp only [List.length_cons, List.map_cons, List.sum_cons, D.sizes]
    omega
  have hk := key _ h3
  simp [subL] at hk ⊢; omega
 ·have hs : subs d = [] := subs_of_none (by cases shape d <;> omega)
  have ho : ownS d = [] := by unfold ownS; rw [if_neg (by simp; omega), if_neg (by simp; omega), if_neg (by simp; omega), if_neg (by simp; omega)]
  rw [hs, ho, if_neg (by simp; omega)]
  have := D.size_pos d
  simp; split <;> omega
theorem ncnt_le : ∀ d : D, ncnt d ≤ d.size := by
 intro d
 induction d using D.indS with
 | h d ih =>
  rw [ncnt_eq]
  have hb := sub_bound d
  have : ((subs d).map fun q => ncnt q.2).sum ≤ ((subs d).map fun q => q.2.size).sum := by
   have : ∀ l : List (Sub × D), (∀ q, q ∈ l → ncnt q.2 ≤ q.2.size) → (l.map fun q => ncnt q.2).sum ≤ (l.map fun q => q.2.size).sum := by
    intro l
    induction l with
    | nil => intro _; simp
    | cons q l ihl => intro h; have h1 := h q (by simp); have h2 := ihl fun x hx => h x (by simp [hx]); simp; omega
   exact this _ ih
  omega
theorem addS_len (S : List ByteArray) (x : ByteArray) : (addS S x).length ≤ S.length + 1 := by unfold addS; split <;> simp
theorem sfree_len : ∀ (d : D) (l S : List ByteArray), (sfree d l S).length ≤ S.length + d.size := by
 intro d
 induction d using D.indS with
 | h d ih =>
  intro l S
  rw [sfree_eq]
  split
  ·have := D.size_pos d
   split
   ·omega
   ·have := addS_len S d.text; omega
  ·have hb := sub_bound d
   have : ∀ (r : List (Sub × D)) (S : List ByteArray), (∀ q, q ∈ r → ∀ l S, (sfree q.2 l S).length ≤ S.length + q.2.size) → (r.foldl (fun S q => sfree q.2 (q.1.ns.map (·.1) ++ l) S) S).length ≤ S.length + (r.map fun q => q.2.size).sum := by
    intro r
    induction r with
    | nil => intro S _; simp
    | cons q r ihr =>
     intro S h
     have h1 := h q (by simp) (q.1.ns.map (·.1) ++ l) S
     have h2 := ihr (sfree q.2 (q.1.ns.map (·.1) ++ l) S) fun x hx => h x (by simp [hx])
     simp only [List.foldl_cons, List.map_cons, List.sum_cons]; omega
   have h3 := this (subs d) S ih
   omega
/-- The canonical form. -/
def sCan (e : D) : D := (rnRes (canTo (sfree e [] [])) e 0).1
end Go.Aw

namespace Go.Aw
open Go
/-- The orders of a list. -/
def perms : Nat → List Nat → List (List Nat)
 | 0, _ => [[]]
 | n + 1, l => l.flatMap fun i => (perms n (l.erase i)).map (i :: ·)

section
variable {ρ : Option Nat} {P : Program} {ty : TyT} {V : View} {ops : Array Oper} {σ0 : Store} {N a m : Nat} {Q : St → Prop}
variable {tl bs : List Nat}
end
end Go.Aw

namespace Go.Aw
open Go
section
variable {ρ : Option Nat} {P : Program} {ty : TyT} {V : View} {ops : Array Oper} {σ0 : Store} {N m : Nat} {Q : St → Prop}
/-- Nothing stands before what it must stand behind. -/
def LinX (ops : Array Oper) : List Nat → Prop
 | [] => True
 | i :: l => (∀ k, k ∈ l → k ∉ precs ops ops.size i) ∧ LinX ops l
/-- Every order that is drawn is one of the orders that may be. -/
theorem draw_lin (hty : TyOk P ty) (hsz : ∀ t ti, ty t = some ti → ti.size ≠ 0) {mode : Region.Mode} (hg : goesOn ops mode = true) {g0 : Ghost} {w0 : World} {nx : Exit → Act → World → Prop} (hgl : V.gl = σ0.gl)
  (hnx : ∀ s' a' w', Q s' → Rel g0 σ0 w0 N s' a' w' → nx .normal a' w') : ∀ (fuel t : Nat) (listed : Array Bool) (acc : List Nat), Listed ops listed → (left ops listed).length = fuel →
   ∃ rest, Region.linearise.go mode ops fuel t listed acc = acc.reverse ++ rest ∧ rest.Perm (left ops listed) ∧ LinX ops rest ∧
    ∀ T L σ a w, DOps P ty V σ0 N ops ops.size Q rest T L σ → Compat V L σ → Rel g0 σ0 w0 N ⟨T, L, σ⟩ a w → opsW P ops nx rest a w := by
 have hself : ∀ {T T' : List (Nat × AV)} {L : List (List AV)} {σ : Store} {a : Act} {w : World}, Same T T' → Rel g0 σ0 w0 N ⟨T, L, σ⟩ a w → Rel g0 σ0 w0 N ⟨T', L, σ⟩ a w := by
  rintro T T' L σ a w hs ⟨g, h1, h2, h3, h4, h5⟩
  refine ⟨g, h1, h2, h3, h4, fun t => ?_⟩
  have := h5 t
  simp only at this ⊢
  rw [← hs t]; exact this
 intro fuel
 induction fuel with
 | zero =>
  intro t listed acc hl hlen
  have he : left ops listed = [] := List.eq_nil_of_length_eq_zero hlen
  refine ⟨[], by simp [Region.linearise.go], by rw [he], trivial, fun T L σ a w hd hc r => ?_⟩
  obtain ⟨T', h1, h2⟩ := hd
  exact hnx _ _ _ h2 (hself h1 r)
 | succ fuel ih =>
  intro t listed acc hl hlen
  have hne : left ops listed ≠ [] := by intro e; rw [e] at hlen; simp at hlen
  obtain ⟨i0, hi0, hp0⟩ := ready_some hg hl hne
  simp only [Region.linearise.go]
  generalize hrs : ((List.range ops.size).filter fun i => !listed.getD i true && ((ops[i]?).map (·.after.all fun e => !Region.binds mode e || listed.getD e.on false)).getD false) = rs
  have hmem : ∀ i, i ∈ rs ↔ i ∈ left ops listed ∧ ∀ k, k ∈ edges ops mode i → listed.getD k false = true := by
   intro i; rw [← hrs]; exact mem_ready hl
  have hpos : 0 < rs.length := List.length_pos_iff.2 (fun e => by have := (hmem i0).2 ⟨hi0, hp0⟩; rw [e] at this; simp at this)
  have hlt : t % rs.length < rs.length := Nat.mod_lt _ hpos
  rw [List.getElem?_eq_getElem hlt]
  simp only
  have hi := (hmem _).1 (List.getElem_mem hlt)
  generalize rs[t % rs.length] = i at hi
  obtain ⟨hl', c1, c2, hc, hc', hc1, hcp⟩ := listed_next hl hi.1 hi.2
  have hilt := ((mem_left hl).1 hi.1).1
  obtain ⟨rest, h1, h2, h3, h4⟩ := ih (t / rs.length) (listed.setIfInBounds i true) (i :: acc) hl' (by rw [hc']; rw [hc] at hlen; simp at hlen ⊢; omega)
  refine ⟨i :: rest, by rw [h1]; simp, ?_, ⟨fun k hk hm => ?_, h3⟩, fun T L σ a w hd hcm r => ?_⟩
  ·rw [hc]
   rw [hc'] at h2
   exact (h2.cons i).trans (List.perm_middle.symm)
  ·have hkl := h2.mem_iff.1 hk
   have hkl' : k ∈ left ops listed := by rw [hc]; rw [hc'] at hkl; simp at hkl ⊢; rcases hkl with h | h <;> simp [h]
   have hpa : ∀ k, k ∈ edges ops .any i → listed.getD k false = true := by
    intro k hk
    refine hi.2 k ?_
    unfold edges at hk ⊢
    split at hk
    ·simp only [List.mem_map, List.mem_filter] at hk ⊢
     obtain ⟨e, ⟨he, hb⟩, rfl⟩ := hk
     exact ⟨e, ⟨he, binds_any hb⟩, rfl⟩
    ·exact hk
   have q1 := precs_listed hl ops.size i hpa k hm
   have q2 := ((mem_left (i := k) hl).1 hkl').2
   rw [q1] at q2; cases q2
  ·obtain ⟨oi, hoi⟩ : ∃ o, ops[i]? = some o := ⟨ops[i], by simp [hilt]⟩
   simp only [DOps, if_pos hilt] at hd
   obtain ⟨o, k1, k2, k3⟩ := hd
   exact ustep_sound hty hsz k1 k2 k3 hcm hgl r fun T' L' σ' a' w' q qc qr => h4 T' L' σ' a' w' q qc qr
/-- A drawn region: every order that may be is to be gone through. -/
theorem awp_regDF {id : Nat} {QQ : Exit → St → Prop} {s : St} (hty : TyOk P ty) (hsz : ∀ t ti, ty t = some ti → ti.size ≠ 0) (V : View) (hg1 : goesOn ops .any = true) (hg2 : goesOn ops .text = true) (hg3 : goesOn ops .gc = true) (hgl : V.gl = s.σ.gl) (hc : (∀ (i : Nat) cs, V.L[i]? = some cs → cs ≠ [] → s.L[i]? = some cs) ∧ ∀ (o : Nat) ob, V.objs[o]? = some ob → ob ≠ .box [] → s.σ.objs[o]? = some ob)
  (h : ∀ l, l.Perm (List.range ops.size) → LinX ops l → DOps P ty V σ0 N ops ops.size (QQ .normal) l s.T s.L s.σ) : AWpR ρ P σ0 N (.region id ops true) QQ s := by
 rintro g0 w0 a w ⟨g, r⟩
 have hgl' : V.gl = σ0.gl := hgl.trans r.1.gl
 refine wpIn_region_draw fun t => opsW.wpIn _ ?_
 have hl0 : Listed ops (Array.replicate ops.size false) := by
  refine ⟨by simp, fun j hj => ?_⟩
  simp only [Array.getD_eq_getD_getElem?, Array.getElem?_replicate] at hj
  split at hj <;> simp at hj
 have hleft : left ops (Array.replicate ops.size false) = List.range ops.size := by
  simp only [left]
  refine List.filter_eq_self.2 (fun i hi => ?_)
  simp only [List.mem_range] at hi
  simp [Array.getD_eq_getD_getElem?, Array.getElem?_replicate, hi]
 have hr : RelG g0 σ0 w0 N g s a { w with drawn := w.drawn + 1 } := by
  have k := r.2.1.drewN (w' := { w with drawn := w.drawn + 1 }) rfl
  exact r.later (σ' := s.σ) (L' := s.L) k.2 (fun _ _ h => h) k.1 rfl rfl (fun _ _ => rfl) (Nat.le_refl _) rfl rfl rfl
 have go : ∀ (mode : Region.Mode) (t : Nat), goesOn ops mode = true → opsW P ops (lift g0 σ0 w0 N QQ) (Region.linearise mode ops t) a { w with drawn := w.drawn + 1 } := by
  intro mode t hg
  obtain ⟨rest, h1, h2, h2', h3⟩ := draw_lin (P := P) (V := V) (σ0 := σ0) (N := N) (Q := QQ .normal) hty hsz (mode := mode) hg (g0 := g0) (w0 := w0) (nx := lift g0 σ0 w0 N QQ) hgl' (fun s' a' w' q r' => ⟨s', q, r'⟩) ops.size t (Array.replicate ops.size false) [] hl0 (by rw [hleft]; simp)
  rw [Region.linearise, h1]
  rw [hleft] at h2
  exact h3 s.T s.L s.σ a _ (h rest h2 h2') ⟨hc.1, hc.2, hgl.symm⟩ ⟨g, hr⟩
 unfold Region.schedule
 split
 ·exact go .any t hg1
 ·split
  ·exact go .text _ hg2
  ·exact go .gc _ hg3
/-- One order tells of another one, where what stands otherwise may be exchanged. -/
theorem dops_canon : ∀ (l c : List Nat), l.Perm c → (∀ i, i ∈ l → i < m) → (∀ c1 i, (∃ c2, c = c1 ++ i :: c2) → ∀ k, k ∈ c1 → (∃ l1 l2, l = l1 ++ i :: l2 ∧ k ∈ l2) → ∃ ok oi, ops[k]? = some ok ∧ ops[i]? = some oi ∧ swapOk ops ok oi = true) →
  ∀ {T : List (Nat × AV)} {L : List (List AV)} {σ : Store}, DOps P ty V σ0 N ops m Q c T L σ → DOps P ty V σ0 N ops m Q l T L σ
 | [], c, hp, _, _, T, L, σ, h => by have := hp.symm.eq_nil; subst this; exact h
 | i :: l, c, hp, hm, hs, T, L, σ, h => by
  have hic : i ∈ c := hp.mem_iff.1 (by simp)
  obtain ⟨c1, c2, rfl⟩ := List.append_of_mem hic
  have hlp : l.Perm (c1 ++ c2) := (hp.trans List.perm_middle).cons_inv
  have hmi := hm i (by simp)
  have hk1 : ∀ k, k ∈ c1 → ∃ ok oi, ops[k]? = some ok ∧ ops[i]? = some oi ∧ swapOk ops ok oi = true := fun k hk =>
   hs c1 i ⟨c2, rfl⟩ k hk ⟨[], l, rfl, hlp.mem_iff.2 (by simp [hk])⟩
  have hfr : DOps P ty V σ0 N ops m Q (i :: (c1 ++ c2)) T L σ := by
   cases c1 with
   | nil => exact h
   | cons k0 c1 =>
    obtain ⟨_, oi, _, hoi, _⟩ := hk1 k0 (by simp)
    refine dops_front hoi hmi (k0 :: c1) (fun k hk => ⟨hm k (by simp; exact .inr (hlp.mem_iff.2 (by simp at hk ⊢; rcases hk with h | h <;> simp [h]))), fun ok hok => ?_⟩) h
    obtain ⟨ok', oi', h1, h2, h3⟩ := hk1 k hk
    rw [hok] at h1; cases h1
    rw [hoi] at h2; cases h2
    exact h3
  simp only [DOps, if_pos hmi] at hfr ⊢
  obtain ⟨o, h1, h2, h3⟩ := hfr
  refine ⟨o, h1, h2, ustep_mono (fun T L σ q => dops_canon l (c1 ++ c2) hlp (fun j hj => hm j (by simp [hj])) (fun d1 j hd k hk hl => ?_) q) h3⟩
  obtain ⟨d2, hd⟩ := hd
  obtain ⟨l1, l2, hl1, hl2⟩ := hl
  rcases List.append_eq_append_iff.1 hd with ⟨a', ha1, ha2⟩ | ⟨a', ha1, ha2⟩
  ·-- c1 = short: d1 = c1 ++ a'
   refine hs (c1 ++ i :: a') j ⟨d2, by rw [ha2]; simp⟩ k (by rw [ha1] at hk; simp at hk ⊢; rcases hk with h | h <;> simp [h]) ⟨i :: l1, l2, by rw [hl1]; rfl, hl2⟩
  ·cases a' with
   | nil =>
    simp at ha1 ha2
    refine hs (c1 ++ [i]) j ⟨d2, by rw [← ha2]; simp⟩ k (by rw [ha1]; simp [hk]) ⟨i :: l1, l2, by rw [hl1]; rfl, hl2⟩
   | cons b a' =>
    simp at ha2
    obtain ⟨rfl, ha3⟩ := ha2
    refine hs d1 j ⟨a' ++ i :: c2, by rw [ha1]; simp⟩ k hk ⟨i :: l1, l2, by rw [hl1]; rfl, hl2⟩
/-- What stands in no order in a list may be exchanged, but for some pairs. -/
def canonOk (ops : Array Oper) (bad : List (Nat × Nat)) : List Nat → Bool
 | [] => true
 | k :: c => (c.all fun i => (precs ops ops.size i).contains k || bad.contains (k, i) || (match ops[k]?, ops[i]? with | some ok, some oi => swapOk ops ok oi | _, _ => false)) && canonOk ops bad c
theorem canonOk_at {bad : List (Nat × Nat)} : ∀ {c : List Nat}, canonOk ops bad c = true → ∀ c1 i c2, c = c1 ++ i :: c2 → ∀ k, k ∈ c1 → k ∈ precs ops ops.size i ∨ (k, i) ∈ bad ∨ ∃ ok oi, ops[k]? = some ok ∧ ops[i]? = some oi ∧ swapOk ops ok oi = true
 | [], _, c1, i, c2, he, k, hk => by simp at he
 | a :: c, h, c1, i, c2, he, k, hk => by
  simp only [canonOk, Bool.and_eq_true, List.all_eq_true] at h
  cases c1 with
  | nil => simp at hk
  | cons b c1 =>
   simp only [List.cons_append, List.cons.injEq] at he
   obtain ⟨rfl, rfl⟩ := he
   rcases List.mem_cons.1 hk with rfl | hk
   ·have := h.1 i (by simp)
    simp only [Bool.or_eq_true, List.contains_eq_mem, decide_eq_true_eq] at this
    rcases this with (h1 | h1) | h1
    ·exact .inl h1
    ·exact .inr (.inl h1)
    ·refine .inr (.inr ?_)
     split at h1
     ·exact ⟨_, _, ‹_›, ‹_›, h1⟩
     ·cases h1
   ·exact canonOk_at h.2 c1 i c2 rfl k hk
theorem linX_at : ∀ {l : List Nat}, LinX ops l → ∀ l1 i l2, l = l1 ++ i :: l2 → ∀ k, k ∈ l2 → k ∉ precs ops ops.size i
 | [], _, l1, i, l2, he => by simp at he
 | a :: l, h, l1, i, l2, he => by
  cases l1 with
  | nil => simp at he; obtain ⟨rfl, rfl⟩ := he; exact h.1
  | cons b l1 => simp at he; exact linX_at h.2 l1 i l2 he.2
theorem idx_lt {l : List Nat} (hn : l.Nodup) {l1 l2 : List Nat} {i k : Nat} (he : l = l1 ++ i :: l2) (hk : k ∈ l2) : l.idxOf i < l.idxOf k := by
 subst he
 have h1 := List.nodup_append.1 hn
 have hi1 : i ∉ l1 := fun h => h1.2.2 i h i (by simp) rfl
 have hk1 : k ∉ l1 := fun h => h1.2.2 k h k (by simp [hk]) rfl
 have hik : i ≠ k := fun e => by subst e; exact (List.nodup_cons.1 h1.2.1).1 hk
 rw [List.idxOf_append, List.idxOf_append, if_neg hi1, if_neg hk1, List.idxOf_cons_self, List.idxOf_cons]
 have : (i == k) = false := by simpa using hik
 rw [this]; simp
theorem map_fm : ∀ l : List Nat, (∀ i, i ∈ l → i < ops.size) → l.map (ops[·]?) = (l.filterMap (ops[·]?)).map some := by
 intro l
 induction l with
 | nil => intro _; rfl
 | cons i l ih =>
  intro hl
  have hi := hl i (by simp)
  have h5 := ih fun a ha => hl a (List.mem_cons_of_mem _ ha)
  rw [List.map_cons, List.filterMap_cons, h5, Array.getElem?_eq_getElem hi]
  rfl
/-- A drawn region with two pairs that do not commute. -/
theorem awp_regDF2 {id : Nat} {QQ : Exit → St → Prop} {s : St} (hty : TyOk P ty) (hsz : ∀ t ti, ty t = some ti → ti.size ≠ 0) (p q p' q' : Nat) (f : Bool → Bool → List Nat)
  (hok : (goesOn ops .any && goesOn ops .text && goesOn ops .gc && [true, false].all fun x => [true, false].all fun y => canonOk ops [if x then (p, q) else (q, p), if y then (p', q') else (q', p')] (f x y) && List.isPerm (f x y) (List.range ops.size)) = true)
  (h : ∀ x y, UL P ty (viewP s) N ops ((f x y).filterMap (ops[·]?)) (QQ .normal) s) : AWpR ρ P σ0 N (.region id ops true) QQ s := by
 simp only [Bool.and_eq_true, List.all_eq_true] at hok
 obtain ⟨⟨⟨g1, g2⟩, g3⟩, hall⟩ := hok
 refine awp_regDF hty hsz (viewP s) g1 g2 g3 rfl ⟨fun i cs h _ => h, fun o ob h _ => h⟩ fun l hp hl => ?_
 have hn : l.Nodup := hp.nodup_iff.2 List.nodup_range
 have hb : ∀ x : Bool, x ∈ [true, false] := fun x => by cases x <;> simp
 have hc := hall (decide (l.idxOf p < l.idxOf q)) (hb _) (decide (l.idxOf p' < l.idxOf q')) (hb _)
 generalize hx : decide (l.idxOf p < l.idxOf q) = x at hc
 generalize hy : decide (l.idxOf p' < l.idxOf q') = y at hc
 have hpc : (f x y).Perm (List.range ops.size) := List.isPerm_iff.1 hc.2
 have hlt : ∀ i, i ∈ f x y → i < ops.size := fun i hi => List.mem_range.1 (hpc.mem_iff.1 hi)
 refine dops_canon l (f x y) (hp.trans hpc.symm) (fun i hi => List.mem_range.1 (hp.mem_iff.1 hi)) (fun c1 i hc1 k hk hl1 => ?_) (dops_full _ (f x y) s (map_fm _ hlt) hlt (h x y))
 obtain ⟨c2, hc1⟩ := hc1
 obtain ⟨l1, l2, e1, e2⟩ := hl1
 rcases canonOk_at hc.1 c1 i c2 hc1 k hk with h1 | h1 | h1
 ·exact absurd h1 (linX_at hl l1 i l2 e1 k e2)
 ·exfalso
  have hlt := idx_lt hn e1 e2
  simp only [List.mem_cons, List.not_mem_nil, or_false] at h1
  rcases h1 with h1 | h1
  ·cases x with
   | true => simp at hx h1; obtain ⟨rfl, rfl⟩ := h1; omega
   | false => simp at hx h1; obtain ⟨rfl, rfl⟩ := h1; omega
  ·cases y with
   | true => simp at hy h1; obtain ⟨rfl, rfl⟩ := h1; omega
   | false => simp at hy h1; obtain ⟨rfl, rfl⟩ := h1; omega
 ·exact h1
theorem mem_perms : ∀ (n : Nat) (l r : List Nat), l.Perm r → r.length = n → l ∈ perms n r
 | 0, l, r, hp, hn => by
  have : r = [] := List.eq_nil_of_length_eq_zero hn
  subst this
  have := hp.eq_nil
  subst this
  simp [perms]
 | n + 1, [], r, hp, hn => by have := hp.length_eq; simp at this; omega
 | n + 1, i :: l, r, hp, hn => by
  have hi : i ∈ r := hp.mem_iff.1 (by simp)
  rw [perms]
  refine List.mem_flatMap.2 ⟨i, hi, List.mem_map.2 ⟨l, mem_perms n l (r.erase i) ?_ ?_, rfl⟩⟩
  ·have := hp.erase i
   simpa using this
  ·rw [List.length_erase_of_mem hi]; omega
def linXb (ops : Array Oper) : List Nat → Bool
 | [] => true
 | i :: l => (l.all fun k => !(precs ops ops.size i).contains k) && linXb ops l
theorem linXb_of : ∀ {l : List Nat}, LinX ops l → linXb ops l = true
 | [], _ => rfl
 | i :: l, h => by
  simp only [linXb, Bool.and_eq_true, List.all_eq_true, Bool.not_eq_true', List.contains_eq_mem, decide_eq_false_iff_not]
  exact ⟨h.1, linXb_of h.2⟩
/-- A small drawn region: every order. -/
theorem awp_regEnum {id : Nat} {QQ : Exit → St → Prop} {s : St} (hty : TyOk P ty) (hsz : ∀ t ti, ty t = some ti → ti.size ≠ 0) (ls : List (List Nat))
  (hok : (goesOn ops .any && goesOn ops .text && goesOn ops .gc && ((perms ops.size (List.range ops.size)).all fun l => !linXb ops l || ls.contains l)) = true)
  (h : ∀ l, l ∈ ls → AOpsL P σ0 N ops (l.filterMap (ops[·]?)) (QQ .normal) s) : AWpR ρ P σ0 N (.region id ops true) QQ s := by
 simp only [Bool.and_eq_true, List.all_eq_true] at hok
 obtain ⟨⟨⟨g1, g2⟩, g3⟩, hall⟩ := hok
 rintro g0 w0 a w ⟨g, r⟩
 refine wpIn_region_draw fun t => opsW.wpIn _ ?_
 have hl0 : Listed ops (Array.replicate ops.size false) := by
  refine ⟨by simp, fun j hj => ?_⟩
  simp only [Array.getD_eq_getD_getElem?, Array.getElem?_replicate] at hj
  split at hj <;> simp at hj
 have hleft : left ops (Array.replicate ops.size false) = List.range ops.size := by
  simp only [left]
  refine List.filter_eq_self.2 (fun i hi => ?_)
  simp only [List.mem_range] at hi
  simp [Array.getD_eq_getD_getElem?, Array.getElem?_replicate, hi]
 have hr : RelG g0 σ0 w0 N g s a { w with drawn := w.drawn + 1 } := by
  have k := r.2.1.drewN (w' := { w with drawn := w.drawn + 1 }) rfl
  exact r.later (σ' := s.σ) (L' := s.L) k.2 (fun _ _ h => h) k.1 rfl rfl (fun _ _ => rfl) (Nat.le_refl _) rfl rfl rfl
 have go : ∀ (mode : Region.Mode) (t : Nat), goesOn ops mode = true → opsW P ops (lift g0 σ0 w0 N QQ) (Region.linearise mode ops t) a { w with drawn := w.drawn + 1 } := by
  intro mode t hg
  obtain ⟨rest, h1, h2, h2', _⟩ := draw_lin (P := P) (V := viewP s) (σ0 := σ0) (N := N) (Q := fun _ => False) hty hsz (mode := mode) hg (g0 := g0) (w0 := w0) (nx := lift g0 σ0 w0 N QQ) r.1.gl (fun s' a' w' q r' => q.elim) ops.size t (Array.replicate ops.size false) [] hl0 (by rw [hleft]; simp)
  rw [Region.linearise, h1]
  rw [hleft] at h2
  have hm := mem_perms ops.size rest (List.range ops.size) h2 (by simp)
  have := hall rest hm
  simp only [linXb_of h2', Bool.not_true, Bool.false_or, List.contains_eq_mem, decide_eq_true_eq] at this
  have hL := h rest this
  refine hL rest ?_ g0 w0 a _ (lift g0 σ0 w0 N QQ) ⟨g, hr⟩ (fun s' a' w' q r' => ⟨s', q, r'⟩)
  have hlt : ∀ i, i ∈ rest → i < ops.size := fun i hi => List.mem_range.1 (h2.mem_iff.1 hi)
  have key : ∀ l : List Nat, (∀ i, i ∈ l → i < ops.size) → l.map (ops[·]?) = (l.filterMap (ops[·]?)).map some := by
   intro l
   induction l with
   | nil => intro _; rfl
   | cons i l ih =>
    intro hl
    have hi := hl i (by simp)
    have h5 := ih fun a ha => hl a (List.mem_cons_of_mem _ ha)
    rw [List.map_cons, List.filterMap_cons, h5, Array.getElem?_eq_getElem hi]
    rfl
  exact key rest hlt
 unfold Region.schedule
 split
 ·exact go .any t g1
 ·split
  ·exact go .text _ g2
  ·exact go .gc _ g3
end
end Go.Aw

namespace Go.Aw
open Go
/-- A number behind a space. -/
def spS (i : Int) : ByteArray := ⟨#[32]⟩ ++ itoaB i
def bkK (p : List Int) (n : Int) (k : Nat) : ByteArray := (p.take k).foldl (fun s i => s ++ spS i) (itoaB n)
/-- A binding as text. -/
def bkS (p : List Int) (n : Int) : ByteArray := bkK p n p.length
theorem bkK_zero (p : List Int) (n : Int) : bkK p n 0 = itoaB n := rfl
theorem bkK_next {p : List Int} {n : Int} {k : Nat} {i : Int} (h : p[k]? = some i) : bkK p n (k + 1) = bkK p n k ++ spS i := by
 unfold bkK
 rw [take_next h, List.foldl_append]; rfl
theorem bkK_size {p : List Int} {n : Int} (hn : -9223372036854775808 ≤ n ∧ n ≤ 9223372036854775807) (hp : ∀ j, j ∈ p → 0 ≤ j ∧ j ≤ 1000000000) : ∀ k, k ≤ p.length → (bkK p n k).size ≤ 21 + 22 * k := by
 intro k
 induction k with
 | zero => intro _; rw [bkK_zero]; have := itoaB_size hn.1 hn.2; omega
 | succ k ih =>
  intro hk
  have hx : p[k]? = some (p[k]'(by omega)) := by simp
  have hj := hp _ (List.mem_of_getElem? hx)
  rw [bkK_next hx]
  have h1 := ih (by omega)
  have h2 := itoaB_size (n := p[k]'(by omega)) (by omega) (by omega)
  have h3 : (spS (p[k]'(by omega))).size = 1 + (itoaB (p[k]'(by omega))).size := by unfold spS; rw [ByteArray.size_append]; rfl
  rw [ByteArray.size_append]; omega
mutual
/-- All symbols in data. -/
def symS : D → List ByteArray → List ByteArray
 | .mk k _ t l, S => symSs l (if k = 2 then addS S t else S)
def symSs : List D → List ByteArray → List ByteArray
 | [], S => S
 | d :: l, S => symSs l (symS d S)
end
theorem symSs_foldl : ∀ (l : List D) (S : List ByteArray), symSs l S = l.foldl (fun S d => symS d S) S
 | [], S => rfl
 | d :: l, S => by rw [symSs, symSs_foldl l]; rfl
theorem symS_eq (d : D) (S : List ByteArray) : symS d S = symSs d.kids (if d.kind = 2 then addS S d.text else S) := by cases d; rfl
theorem symSs_next {l : List D} {k : Nat} {x : D} {S : List ByteArray} (h : l[k]? = some x) : symSs (l.take (k + 1)) S = symSs x.kids (if x.kind = 2 then addS (symSs (l.take k) S) x.text else symSs (l.take k) S) := by
 rw [symSs_foldl, take_next h, List.foldl_append, List.foldl_cons, List.foldl_nil, symS_eq, ← symSs_foldl]
theorem symS_len (d : D) : ∀ S, (symS d S).length ≤ S.length + d.size := by
 induction d using D.ind with
 | _ k n t l ih =>
  intro S
  rw [symS_eq]
  show (symSs l (if k = 2 then addS S t else S)).length ≤ _
  have h0 : (if k = 2 then addS S t else S).length ≤ S.length + 1 := by
   split
   ·exact addS_len _ _
   ·omega
  generalize (if k = 2 then addS S t else S) = R at h0
  have : ∀ l : List D, (∀ x, x ∈ l → ∀ S, (symS x S).length ≤ S.length + x.size) → ∀ R, (symSs l R).length ≤ R.length + D.sizes l := by
   intro l
   induction l with
   | nil => intro _ R; simp [symSs]
   | cons x l ihl =>
    intro h R
    have h1 := h x (by simp) R
    have h2 := ihl (fun y hy => h y (by simp [hy])) (symS x R)
    simp only [symSs, D.sizes]; omega
  have h1 := this l ih R
  simp only [D.size]; omega
theorem symSs_len (l : List D) (S : List ByteArray) : (symSs l S).length ≤ S.length + D.sizes l := by
 have := symS_len (.mk 0 0 ⟨#[]⟩ l) S
 induction l generalizing S with
 | nil => simp [symSs]
 | cons x l ih =>
  have h1 := symS_len x S
  have h2 := ih (symS x S) (symS_len _ _)
  simp only [symSs, D.sizes]; omega
/-- The next name that is not among others; then it is. -/
def frS (S : List ByteArray) (n : Nat) : ByteArray := vS (nxtV S n : Int)
/-- New names of bindings around a place where a name of the other expression would be caught. -/
def sbTo (inn arn : List ByteArray) (p : List Int) (i : Int) (x : ByteArray) (S : List ByteArray) : ByteArray × List ByteArray :=
 if (memB inn x && memB arn (bkS p i)) = true then (frS S 0, addS S (frS S 0)) else (x, S)
theorem sbTo_len (inn arn : List ByteArray) (p : List Int) (i : Int) (x : ByteArray) (S : List ByteArray) : (sbTo inn arn p i x S).2.length ≤ S.length + 1 := by
 unfold sbTo
 split
 ·exact addS_len _ _
 ·exact Nat.le_succ _
end Go.Aw
