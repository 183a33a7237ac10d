/- Part of the proof that the statement holds for every input that its row lets in: the contracts of the program's functions, printed by a program out of annotations; the statement itself stands at the end of the last part. -/
import Derived.Test.YtigideidmcmfbaaGreatDoorZS1
import Derived.Test.YtigideidmcmfbaaGreatDoorZA3
import Derived.Test.YtigideidmcmfbaaGreatDoorZA4
import Derived.Shelf.LaysM
import Derived.Shelf.LaysC
import Derived.Shelf.Strconv.Itoa4
import Derived.Test.YtigideidmcmfbaaGreatDoorZA5
set_option linter.unusedSimpArgs false
set_option linter.unusedVariables false
namespace Go.Proofs.YtigideidmcmfbaaGreatDoor
open Go Go.Aw
variable {kr : KR}
set_option maxHeartbeats 1000000 in
theorem c_ConcatM (p : List Int) (hp : p.length ≤ 1000000000) : Pur Tryz.prog (GL kr) 108 [.pv (.slice [.nils, .slice (ipv p)])] (.pv (.slice (ipv p))) := by
 have hw0 : IntKind.i64.wrap (p.length : Int) = (p.length : Int) := wrap_id (by omega) (by omega)
 have hw1 : IntKind.i64.wrap 1 = 1 := by decide
 have hw2 : IntKind.i64.wrap 2 = 2 := by decide
 have hw00 : IntKind.i64.wrap 0 = 0 := by decide
 have hlp := ipv_len p
 have hb8 : p.length * 8 ≤ 140737488355328 := by omega
 refine pur_of fun σ hgl => ?_
 refine acalls_of tyOk Tryz.func108 rfl (by simp [Tryz.f108]) ?_
 refine sS ?_
 refine sS ?_
 refine awp_seq (sS ?_)
 refine awp_block (awp_loopL (awpL_round ?_))
 refine sS ?_
 refine awp_seq (awp_cond (b := true) (by simp [go_sem]) (fun h => ?_) (fun h => ?_))
 rotate_left
 ·cases h
 refine awp_skip (awp_seq (awp_block (sS ?_)))
 refine sA (by simp [go_sem, hw00] <;> rfl) ?_
 refine sS ?_
 refine awp_cond (by first | rfl | (simp [go_sem, hw0, hw1, hw2, hlp, hb8, hw00, Int.zero_add] <;> rfl)) (fun h0 => ?_) (fun h0 => ?_)
 ·exfalso; first | (have h := h0; simp at h; done) | (have h := h0; simp [hw00, hw0] at h; omega)
 ·refine awp_skip (aR (by simp [go_sem, hw1, Int.zero_add] <;> rfl) ?_)
  refine awpL_round ?_
  refine sS ?_
  refine awp_seq (awp_cond (b := true) (by simp [go_sem]) (fun h => ?_) (fun h => ?_))
  rotate_left
  ·cases h
  refine awp_skip (awp_seq (awp_block (sS ?_)))
  refine sA (by simp [go_sem, hw0, hlp, Int.zero_add] <;> rfl) ?_
  refine sS ?_
  refine awp_cond (by first | rfl | (simp [go_sem, hw0, hw1, hw2, hlp, hb8, hw00, Int.zero_add] <;> rfl)) (fun h1 => ?_) (fun h1 => ?_)
  ·exfalso; first | (have h := h1; simp at h; done) | (have h := h1; simp at h; omega)
  ·refine awp_skip (aR (by simp [go_sem, hw2] <;> rfl) ?_)
   refine awpL_round ?_
   refine sS ?_
   refine awp_seq (awp_cond (b := false) (by simp [go_sem]) (fun h => ?_) (fun h => ?_))
   ·cases h
   refine awp_exit (then_exit (then_exit (inBlock_hit (sG ?_))))
   refine aT 1 ?_
   refine al_callW rfl rfl rfl (by simp [go_sem] <;> rfl) call155 (c_Grow p.length (by omega) σ) (by simp [go_sem] <;> rfl) (by simp [go_sem]) rfl rfl ?_
   rintro r σ' ⟨rfl, rfl⟩
   refine aT 1 ?_
   refine al_nil (awp_seq (sS ?_))
   refine awp_block (awp_loopL (awpL_round ?_))
   refine sS ?_
   refine awp_seq (awp_cond (b := true) (by simp [go_sem]) (fun h => ?_) (fun h => ?_))
   rotate_left
   ·cases h
   refine awp_skip (awp_seq (awp_block (sS ?_)))
   refine aS ?_
   refine aR (by simp [go_sem, hw1, Int.zero_add] <;> rfl) ?_
   refine awpL_round ?_
   refine sS ?_
   refine awp_seq (awp_cond (b := true) (by simp [go_sem]) (fun h => ?_) (fun h => ?_))
   rotate_left
   ·cases h
   refine awp_skip (awp_seq (awp_block (sS ?_)))
   refine aR (by simp [go_sem, hlp, hb8] <;> rfl) ?_
   refine aR (by simp [go_sem, hw2] <;> rfl) ?_
   refine awpL_round ?_
   refine sS ?_
   refine awp_seq (awp_cond (b := false) (by simp [go_sem]) (fun h => ?_) (fun h => ?_))
   ·cases h
   refine awp_exit (then_exit (then_exit (inBlock_hit (sS ?_))))
   refine awp_ret (eR ?_)
   exact ⟨by simp [go_sem], by simp [go_sem]⟩

theorem wConcat (q p : List Int) (hq : q.length ≤ 400000000) (hp : p.length ≤ 100000000) : Pur Tryz.prog (GL kr) 108 [.pv (.slice [wPV q, .slice (ipv p)])] (.pv (.slice (ipv (q ++ p)))) := by
  by_cases h : q = []
  · subst h
    exact c_ConcatM p (by omega)
  · have e : wPV q = .slice (ipv q) := by unfold wPV; rw [if_neg h]; rfl
    have hf : q ++ p = [q, p].flatten := by simp
    rw [e, hf]
    exact c_Concat [q, p] (by simp) (by simp; omega)

set_option maxHeartbeats 1000000 in
theorem c_joinW (p q : List Int) (hp : p.length ≤ 400000000) (hq : q.length ≤ 100000000) (h1 : 1 ≤ q.length) : Pur Tryz.prog (GL kr) 101 [.pv (wPV p), .pv (.slice (ipv q))] (.pv (wPV (p ++ q))) := by
 have hcl := wPV_cells p
 have hcn := wPV_nrm p
 unfold PV.nrm at hcn
 have hpq : wPV (p ++ q) = .slice (ipv (p ++ q)) := by unfold wPV; rw [if_neg (by intro e; rw [List.append_eq_nil_iff] at e; rw [e.2] at h1; simp at h1)]; rfl
 refine pur_of fun σ hgl => ?_
 refine acalls_of tyOk Tryz.func101 rfl (by simp [Tryz.f101]) ?_
 refine sS ?_
 refine sG ?_
 refine aL 3 (by simp [go_sem, hcl, hcn] <;> rfl) ?_
 refine aG call108 ((wConcat p q hp hq) _ (by exact hgl)) ?_
 refine aT 1 ?_
 refine al_nil (awp_ret (eR ?_))
 exact ⟨by simp [go_sem, hpq], by simp [go_sem]⟩

set_option maxHeartbeats 4000000 in
theorem c_walk (d : D) : ∀ (hd : d.size ≤ 100000000) (p : List Int) (hp : p.length + 3 * d.size ≤ 400000000) (sc S : List ByteArray) (σ : Store) (om ob ow : Nat) (hgl : σ.gl = (GL kr)) (hm : σ.objs[om]? = some (.map (tK S) (tV S))) (hb : σ.objs[ob]? = some (.box [.map om])) (hwk : σ.objs[ow]? = some (.box [.func (.func 119) [], .func (.func 120) [.ptr ob 0]])), ACalls Tryz.prog 121 [.ptr ow 0, .pv (enc d), .pv (wPV p), .pv (encSc sc)] σ (fun r σ' => r = .tuple [] ∧ σ' = setS σ om (sfree d sc S)) := by
 induction d using D.indS with
 | _ d ih =>
 intro hd p hp sc S σ om ob ow hgl hm hb hwk
 have hol := (List.getElem?_eq_some_iff.1 hm).1
 have hbl := (List.getElem?_eq_some_iff.1 hb).1
 have hwl := (List.getElem?_eq_some_iff.1 hwk).1
 have hne1 : om ≠ ob := by intro e; rw [e, hb] at hm; cases hm
 have hne2 : om ≠ ow := by intro e; rw [e, hwk] at hm; cases hm
 have hAm : ∀ B, (σ.objs ++ B)[om]? = some (.map (tK S) (tV S)) := fun B => by rw [List.getElem?_append_left hol]; exact hm
 have hAb : ∀ B, (σ.objs ++ B)[ob]? = some (.box [.map om]) := fun B => by rw [List.getElem?_append_left hbl]; exact hb
 have hAw : ∀ B, (σ.objs ++ B)[ow]? = some (.box [.func (.func 119) [], .func (.func 120) [.ptr ob 0]]) := fun B => by rw [List.getElem?_append_left hwl]; exact hwk
 have hsb : ∀ X R, (setS X om R).objs[ob]? = X.objs[ob]? := fun X R => setS_ne hne1
 have hsw : ∀ X R, (setS X om R).objs[ow]? = X.objs[ow]? := fun X R => setS_ne hne2
 have hs0 : ∀ X R, (setS X om R).objs[σ.objs.length]? = X.objs[σ.objs.length]? := fun X R => setS_ne (by omega)
 have hs1 : ∀ X R, (setS X om R).objs[σ.objs.length + 1]? = X.objs[σ.objs.length + 1]? := fun X R => setS_ne (by omega)
 have hs2 : ∀ X R, (setS X om R).objs[σ.objs.length + 2]? = X.objs[σ.objs.length + 2]? := fun X R => setS_ne (by omega)
 have hs4 : ∀ X R, (setS X om R).objs[σ.objs.length + 4]? = X.objs[σ.objs.length + 4]? := fun X R => setS_ne (by omega)
 have hXm : ∀ B R, (setS ⟨σ.gl, σ.objs ++ B, σ.toks⟩ om R).objs[om]? = some (.map (tK R) (tV R)) := fun B R => setS_get (by simp; omega)
 have hXb : ∀ B R, (setS ⟨σ.gl, σ.objs ++ B, σ.toks⟩ om R).objs[ob]? = some (.box [.map om]) := fun B R => (hsb _ _).trans (hAb B)
 have hXw : ∀ B R, (setS ⟨σ.gl, σ.objs ++ B, σ.toks⟩ om R).objs[ow]? = some (.box [.func (.func 119) [], .func (.func 120) [.ptr ob 0]]) := fun B R => (hsw _ _).trans (hAw B)
 have hwc := wPV_cell p
 have hkl := D.kids_length_lt d
 have hsl := syn_len d
 have hon := ownS_len d
 refine setAt_of ?_
 refine acalls_of tyOk Tryz.func121 rfl (by simp [Tryz.f121]) ?_
 refine awp_seq (awp_region_run (sh := [4, 6, 7]) tyOk (by simp [go_sem, hwc] <;> rfl) ?_)
 refine sG ?_
 refine aT 1 ?_
 refine aG call99 ((c_Kind d (by omega)) _ (by exact hgl)) ?_
 refine al_nil (awp_block (sS ?_))
 refine awp_cond (by first | rfl | (simp [go_sem, hAb, hAw, hAm, hsb, hsw, hs0, hs1, hs2, hs4, setS_gl, setS_set, hwc] <;> rfl)) (fun h0 => ?_) (fun h0 => ?_)
 ·have hk : synKind d = 2 := by simpa using h0
  have hfin := sfree_name (l := sc) (S := S) hk
  refine sG ?_
  refine aT 3 ?_
  refine aG call156 ((c_of sc d.text) _ (by exact hgl)) ?_
  refine aT 5 ?_
  refine al_nil (awp_regDP tyOk tySz 8 (by kernel_rfl) (by decide) ?_)
  refine ul_run 8 (by simp [go_sem, hAw] <;> rfl) ?_
  refine ul_nil ?_
  refine al_callW rfl rfl rfl (by simp [go_sem] <;> rfl) call120 (c_free2 d (.pv (wPV p)) false (memB sc d.text) S ob om _ (by exact hgl) (hAb _) (hAm _)) (by simp [go_sem] <;> rfl) (by simp [go_sem]) rfl rfl ?_
  rintro r σ' ⟨rfl, rfl⟩
  refine al_nil ?_
  first | (show Go.Aw.Ends ty _ _ Go.Exit.normal _) | (simp only [InBlock]; done) | simp only [InBlock] | unfold InBlock
  refine ends_normal (by first | rfl | (simp [go_sem] <;> rfl)) (by first | rfl | simp [go_sem]) ?_
  exact ⟨rfl, by rw [hfin]; first | exact setS_cut2 hol | (show Store.cut (setS (setS _ om _) om _) _ _ = _; rw [setS_set]; exact setS_cut2 hol)⟩
 ·have hk2 : synKind d ≠ 2 := by simpa using h0
  refine awp_seq (sS ?_)
  refine awp_cond (by first | rfl | (simp [go_sem, hAb, hAw, hAm, hsb, hsw, hs0, hs1, hs2, hs4, setS_gl, setS_set, hwc] <;> rfl)) (fun h1 => ?_) (fun h1 => ?_)
  ·have hk : synKind d = 5 ∨ synKind d = 9 := by first | exact .inl (by simpa using h1) | exact .inr (by simpa using h1)
   have hlen := hsl.1 (by omega)
   obtain ⟨x2, hx2, hx2m⟩ := get_lt (l := d.kids) (k := 2) (by omega)
   have hd2 : d2 d.kids = x2 := getD_of hx2
   have hxs := D.size_kid_lt hx2m
   have hq : subs d = [subL d 2 x2] := by rw [← hd2]; exact subs_of_fn hk
   have hfin : sfree d sc S = sfree x2 ((ownS d).reverse ++ sc) S := by rw [sfree_eq, if_neg (by simp; omega), hq]; simp [subL, numb_fst]
   have ihx := ih (subL d 2 x2) (by rw [hq]; simp)
   simp only [subL] at ihx
   refine awp_skip (awp_cond (b := true) (by simp [go_sem, h1]) (fun h => ?_) (fun h => ?_))
   rotate_left
   ·cases h
   refine sG ?_
   refine aT 1 ?_
   refine aG call71 ((c_Own d (by omega)) _ (by exact hgl)) ?_
   refine aT 1 ?_
   refine al_nil (awp_regDP tyOk tySz 19 (by kernel_rfl) (by decide) ?_)
   refine ul_run 7 (by simp [go_sem, hx2] <;> rfl) ?_
   refine ul_fn (by first | (intro _ _ hh; exact hh) | simp [go_sem]) rfl rfl rfl rfl (by simp [go_sem] <;> rfl) call101 ((c_joinW p [2] (by omega) (by simp) (by simp)) _ (by exact hgl)) (by simp [go_sem] <;> rfl) (by simp [go_sem, ipv]) rfl rfl ?_
   refine ul_run 9 (by simp [go_sem, hAw] <;> rfl) ?_
   refine ul_fn (by first | (intro _ _ hh; exact hh) | simp [go_sem]) rfl rfl rfl rfl (by simp [go_sem] <;> rfl) call119 ((c_free1 d (.pv (wPV p)) (ownS d) (by omega) (0)) _ (by exact hgl)) (by simp [go_sem] <;> rfl) (by simp [go_sem]) rfl rfl ?_
   refine ul_fn (by first | (intro _ _ hh; exact hh) | simp [go_sem]) rfl rfl rfl rfl (by simp [go_sem] <;> rfl) call157 ((c_scWith (sc) (ownS d) (by omega)) _ (by exact hgl)) (by simp [go_sem] <;> rfl) (by simp [go_sem]) rfl rfl ?_
   refine ul_nil ?_
   refine al_callW rfl rfl rfl (by simp [go_sem] <;> rfl) call121 (ihx (by show x2.size ≤ _; omega) (p ++ [2]) (by show _ + 3 * x2.size ≤ _; simp; omega) ((ownS d).reverse ++ sc) S _ om ob ow (by exact hgl) (hAm _) (hAb _) (hAw _)) (by simp [go_sem] <;> rfl) (by simp [go_sem]) rfl rfl ?_
   rintro r σ' ⟨rfl, rfl⟩
   refine al_nil ?_
   first | (show Go.Aw.Ends ty _ _ Go.Exit.normal _) | (simp only [InBlock]; done) | simp only [InBlock] | unfold InBlock
   refine ends_normal (by first | rfl | (simp [go_sem] <;> rfl)) (by first | rfl | simp [go_sem]) ?_
   exact ⟨rfl, by rw [hfin]; first | exact setS_cut2 hol | (show Store.cut (setS (setS _ om _) om _) _ _ = _; rw [setS_set]; exact setS_cut2 hol)⟩
  ·refine aS ?_
   refine awp_cond (by first | rfl | (simp [go_sem, hAb, hAw, hAm, hsb, hsw, hs0, hs1, hs2, hs4, setS_gl, setS_set, hwc] <;> rfl)) (fun h2 => ?_) (fun h2 => ?_)
   ·have hk : synKind d = 5 ∨ synKind d = 9 := by first | exact .inl (by simpa using h2) | exact .inr (by simpa using h2)
    have hlen := hsl.1 (by omega)
    obtain ⟨x2, hx2, hx2m⟩ := get_lt (l := d.kids) (k := 2) (by omega)
    have hd2 : d2 d.kids = x2 := getD_of hx2
    have hxs := D.size_kid_lt hx2m
    have hq : subs d = [subL d 2 x2] := by rw [← hd2]; exact subs_of_fn hk
    have hfin : sfree d sc S = sfree x2 ((ownS d).reverse ++ sc) S := by rw [sfree_eq, if_neg (by simp; omega), hq]; simp [subL, numb_fst]
    have ihx := ih (subL d 2 x2) (by rw [hq]; simp)
    simp only [subL] at ihx
    refine sG ?_
    refine aT 1 ?_
    refine aG call71 ((c_Own d (by omega)) _ (by exact hgl)) ?_
    refine aT 1 ?_
    refine al_nil (awp_regDP tyOk tySz 19 (by kernel_rfl) (by decide) ?_)
    refine ul_run 7 (by simp [go_sem, hx2] <;> rfl) ?_
    refine ul_fn (by first | (intro _ _ hh; exact hh) | simp [go_sem]) rfl rfl rfl rfl (by simp [go_sem] <;> rfl) call101 ((c_joinW p [2] (by omega) (by simp) (by simp)) _ (by exact hgl)) (by simp [go_sem] <;> rfl) (by simp [go_sem, ipv]) rfl rfl ?_
    refine ul_run 9 (by simp [go_sem, hAw] <;> rfl) ?_
    refine ul_fn (by first | (intro _ _ hh; exact hh) | simp [go_sem]) rfl rfl rfl rfl (by simp [go_sem] <;> rfl) call119 ((c_free1 d (.pv (wPV p)) (ownS d) (by omega) (0)) _ (by exact hgl)) (by simp [go_sem] <;> rfl) (by simp [go_sem]) rfl rfl ?_
    refine ul_fn (by first | (intro _ _ hh; exact hh) | simp [go_sem]) rfl rfl rfl rfl (by simp [go_sem] <;> rfl) call157 ((c_scWith (sc) (ownS d) (by omega)) _ (by exact hgl)) (by simp [go_sem] <;> rfl) (by simp [go_sem]) rfl rfl ?_
    refine ul_nil ?_
    refine al_callW rfl rfl rfl (by simp [go_sem] <;> rfl) call121 (ihx (by show x2.size ≤ _; omega) (p ++ [2]) (by show _ + 3 * x2.size ≤ _; simp; omega) ((ownS d).reverse ++ sc) S _ om ob ow (by exact hgl) (hAm _) (hAb _) (hAw _)) (by simp [go_sem] <;> rfl) (by simp [go_sem]) rfl rfl ?_
    rintro r σ' ⟨rfl, rfl⟩
    refine al_nil ?_
    first | (show Go.Aw.Ends ty _ _ Go.Exit.normal _) | (simp only [InBlock]; done) | simp only [InBlock] | unfold InBlock
    refine ends_normal (by first | rfl | (simp [go_sem] <;> rfl)) (by first | rfl | simp [go_sem]) ?_
    exact ⟨rfl, by rw [hfin]; first | exact setS_cut2 hol | (show Store.cut (setS (setS _ om _) om _) _ _ = _; rw [setS_set]; exact setS_cut2 hol)⟩
   ·refine awp_seq (aS ?_)
    refine awp_cond (by first | rfl | (simp [go_sem, hAb, hAw, hAm, hsb, hsw, hs0, hs1, hs2, hs4, setS_gl, setS_set, hwc] <;> rfl)) (fun h3 => ?_) (fun h3 => ?_)
    ·have hk : synKind d = 6 := by simpa using h3
     have hlen := hsl.2.1 hk
     obtain ⟨x2, hx2, hx2m⟩ := get_lt (l := d.kids) (k := 2) (by omega)
     have hd2 : d2 d.kids = x2 := getD_of hx2
     have hxs := D.size_kid_lt hx2m
     obtain ⟨x3, hx3, hx3m⟩ := get_lt (l := d.kids) (k := 3) (by omega)
     have hd3 : d.kids.getD 3 dnone = x3 := getD_of hx3
     have hxt := D.size_kid_lt hx3m
     have hq : subs d = [(⟨[2], []⟩, x2), subL d 3 x3] := by rw [← hd2, ← hd3]; exact subs_of_let hk
     have hfin : sfree d sc S = sfree x3 ((ownS d).reverse ++ sc) (sfree x2 sc S) := by rw [sfree_eq, if_neg (by simp; omega), hq]; simp [subL, numb_fst]
     have ihx := ih (⟨[2], []⟩, x2) (by rw [hq]; simp)
     have ihy := ih (subL d 3 x3) (by rw [hq]; simp)
     simp only [subL] at ihx ihy
     refine sG ?_
     refine aT 1 ?_
     refine aG call71 ((c_Own d (by omega)) _ (by exact hgl)) ?_
     refine aT 1 ?_
     refine al_nil (awp_seq (awp_regDP tyOk tySz 7 (by kernel_rfl) (by decide) ?_))
     refine ul_run 7 (by simp [go_sem, hAw] <;> rfl) ?_
     refine ul_nil ?_
     refine al_fn rfl rfl rfl (by simp [go_sem] <;> rfl) call119 ((c_free1 d (.pv (wPV p)) (ownS d) (by omega) (0)) _ (by exact hgl)) (by simp [go_sem] <;> rfl) (by simp [go_sem]) rfl rfl ?_
     refine aT 1 ?_
     refine al_nil (awp_seq (awp_regDP tyOk tySz 9 (by kernel_rfl) (by decide) ?_))
     refine ul_run 7 (by simp [go_sem, hx2] <;> rfl) ?_
     refine ul_fn (by first | (intro _ _ hh; exact hh) | simp [go_sem]) rfl rfl rfl rfl (by simp [go_sem] <;> rfl) call101 ((c_joinW p [2] (by omega) (by simp) (by simp)) _ (by exact hgl)) (by simp [go_sem] <;> rfl) (by simp [go_sem, ipv]) rfl rfl ?_
     refine ul_run 1 (by simp [go_sem] <;> rfl) ?_
     refine ul_nil ?_
     refine al_callW rfl rfl rfl (by simp [go_sem] <;> rfl) call121 (ihx (by show x2.size ≤ _; omega) (p ++ [2]) (by show _ + 3 * x2.size ≤ _; simp; omega) sc S _ om ob ow (by exact hgl) (hAm _) (hAb _) (hAw _)) (by simp [go_sem] <;> rfl) (by simp [go_sem]) rfl rfl ?_
     rintro r σ' ⟨rfl, rfl⟩
     refine al_nil (awp_regDP tyOk tySz 12 (by kernel_rfl) (by decide) ?_)
     refine ul_run 7 (by simp [go_sem, hs0, hs1, setS_gl, hx3] <;> rfl) ?_
     refine ul_fn (by first | (intro _ _ hh; exact hh) | simp [go_sem]) rfl rfl rfl rfl (by simp [go_sem] <;> rfl) call101 ((c_joinW p [3] (by omega) (by simp) (by simp)) _ (by exact hgl)) (by simp [go_sem, setS_gl] <;> rfl) (by simp [go_sem, ipv]) rfl rfl ?_
     refine ul_run 3 (by simp [go_sem, hs2, setS_gl] <;> rfl) ?_
     refine ul_fn (by first | (intro _ _ hh; exact hh) | simp [go_sem]) rfl rfl rfl rfl (by simp [go_sem] <;> rfl) call157 ((c_scWith (sc) (ownS d) (by omega)) _ (by exact hgl)) (by simp [go_sem, setS_gl] <;> rfl) (by simp [go_sem]) rfl rfl ?_
     refine ul_nil ?_
     refine al_callW rfl rfl rfl (by simp [go_sem] <;> rfl) call121 (ihy (by show x3.size ≤ _; omega) (p ++ [3]) (by show _ + 3 * x3.size ≤ _; simp; omega) ((ownS d).reverse ++ sc) _ _ om ob ow (by exact hgl) (hXm _ _) (hXb _ _) (hXw _ _)) (by simp [go_sem] <;> rfl) (by simp [go_sem]) rfl rfl ?_
     rintro r σ' ⟨rfl, rfl⟩
     refine al_nil ?_
     first | (show Go.Aw.Ends ty _ _ Go.Exit.normal _) | (simp only [InBlock]; done) | simp only [InBlock] | unfold InBlock
     refine ends_normal (by first | rfl | (simp [go_sem] <;> rfl)) (by first | rfl | simp [go_sem]) ?_
     exact ⟨rfl, by rw [hfin]; first | exact setS_cut2 hol | (show Store.cut (setS (setS _ om _) om _) _ _ = _; rw [setS_set]; exact setS_cut2 hol)⟩
    ·refine awp_seq (aS ?_)
     refine awp_cond (by first | rfl | (simp [go_sem, hAb, hAw, hAm, hsb, hsw, hs0, hs1, hs2, hs4, setS_gl, setS_set, hwc] <;> rfl)) (fun h4 => ?_) (fun h4 => ?_)
     ·have hk : synKind d = 7 := by simpa using h4
      have hlen := hsl.1 (by omega)
      obtain ⟨x2, hx2, hx2m⟩ := get_lt (l := d.kids) (k := 2) (by omega)
      have hd2 : d2 d.kids = x2 := getD_of hx2
      have hxs := D.size_kid_lt hx2m
      obtain ⟨x1, hx1, hx1m⟩ := get_lt (l := d.kids) (k := 1) (by omega)
      have hd1 : d1 d.kids = x1 := getD_of hx1
      have hx1s := D.size_kid_lt hx1m
      have hx1l := D.kids_length_lt x1
      have hrk := hsl.2.2 hk
      have hrl := subs_rec_last hk
      have hra := fun (i : Nat) (x : D) => subs_rec_at (d := d) (i := i) (x := x) hk
      rw [hd1, hd2] at hrl
      rw [hd1] at hra hrk
      have hfin : sfree d sc S = sfree x2 ((ownS d).reverse ++ sc) (frd d sc S x1.kids.length) := by rw [← frd_all hk2, hrl.2, frd_next hrl.1]; simp [subL, numb_fst]
      have ihx := ih (subL d 2 x2) (List.mem_of_getElem? hrl.1)
      simp only [subL] at ihx
      refine sG ?_
      refine aT 1 ?_
      refine aG call71 ((c_Own d (by omega)) _ (by exact hgl)) ?_
      refine aT 1 ?_
      refine al_nil (awp_seq (awp_regDP tyOk tySz 10 (by kernel_rfl) (by decide) ?_))
      refine ul_run 9 (by simp [go_sem, hAw] <;> rfl) ?_
      refine ul_fn (by first | (intro _ _ hh; exact hh) | simp [go_sem]) rfl rfl rfl rfl (by simp [go_sem] <;> rfl) call119 ((c_free1 d (.pv (wPV p)) (ownS d) (by omega) (0)) _ (by exact hgl)) (by simp [go_sem] <;> rfl) (by simp [go_sem]) rfl rfl ?_
      refine ul_nil ?_
      refine aG call157 ((c_scWith (sc) (ownS d) (by omega)) _ (by exact hgl)) ?_
      refine aT 1 ?_
      refine al_nil (sS ?_)
      refine awp_seq (sA (by simp [go_sem, hx1] <;> rfl) ?_)
      refine awp_block (awp_loop_headJL 1 [4, 5, 6, 7, 14, 133, 134] (fun p3 : Nat × Int => [(15, .pv (.int .i64 p3.2)), (135, .pv (.int .i64 (p3.1 : Int)))]) (fun p3 => setS (⟨σ.gl, σ.objs ++ [.box [.ptr ow 0], .box [.pv (wPV p)], .box [.pv (encSc sc)]], σ.toks⟩ : Store) om (frd d sc S p3.1)) (fun p3 => p3.1 ≤ x1.kids.length) (fun p3 => x1.kids.length - p3.1) (0, ((ownS d).length : Int)) (Nat.zero_le _) ⟨(by show setS _ om S = _; exact setS_self (hAm _)), rfl, by simp [go_sem], by simp [go_sem]⟩ ?_)
      rintro ⟨i, fr⟩ hi
      refine sS ?_
      refine awp_seq (awp_cond (by first | rfl | (simp [go_sem, hAb, hAw, hAm, hsb, hsw, hs0, hs1, hs2, hs4, setS_gl, setS_set, hwc, hx1, hx2] <;> rfl)) (fun h5 => ?_) (fun h5 => ?_))
      ·have hlt : i < x1.kids.length := by simp at h5; omega
       obtain ⟨x, hx, hxm⟩ := get_lt hlt
       have hl3 := hrk x hxm
       obtain ⟨y1, hy1, hy1m⟩ := get_lt (l := x.kids) (k := 1) (by omega)
       obtain ⟨y2, hy2, hy2m⟩ := get_lt (l := x.kids) (k := 2) (by omega)
       have hyd1 : d1 x.kids = y1 := getD_of hy1
       have hyd2 : d2 x.kids = y2 := getD_of hy2
       have hz0 := D.size_kid_lt hxm
       have hz1 := D.size_kid_lt hy1m
       have hz2 := D.size_kid_lt hy2m
       have hz3 := D.kids_length_lt y1
       have hpx : parS x = y1.kids.map D.text := by unfold parS; rw [hyd1]
       have hpl : (parS x).length = y1.kids.length := by rw [hpx, List.length_map]
       have hqi := hra i x hx
       have ihi := ih (subR d i x) (List.mem_of_getElem? hqi)
       simp only [subR, hyd2] at ihi
       have hfn : frd d sc S (i + 1) = sfree y2 ((parS x).reverse ++ ((ownS d).reverse ++ sc)) (frd d sc S i) := by rw [frd_next hqi]; simp [subR, numb_fst, hyd2]
       have hw : IntKind.i64.wrap ((i : Int) + 1) = (i : Int) + 1 := wrap_succ (by omega)
       refine awp_skip (awp_seq (awp_block (sA (by simp [go_sem, hx] <;> rfl) ?_)))
       refine sG ?_
       refine aL 5 (by simp [go_sem, hy1] <;> rfl) ?_
       refine aG call103 ((c_Texts y1.kids (by omega)) _ (by exact hgl)) ?_
       refine aL 1 (by simp [go_sem, ← hpx] <;> rfl) ?_
       refine al_nil (awp_seq (awp_regDP tyOk tySz 21 (by kernel_rfl) (by decide) ?_))
       refine ul_run 8 (by simp [go_sem, hs0, hs1, setS_gl, hy2] <;> rfl) ?_
       refine ul_fn (by first | (intro _ _ hh; exact hh) | simp [go_sem]) rfl rfl rfl rfl (by simp [go_sem] <;> rfl) call101 ((c_joinW p [1, (i : Int), 2] (by omega) (by simp) (by simp)) _ (by exact hgl)) (by simp [go_sem, setS_gl] <;> rfl) (by simp [go_sem, ipv]) rfl rfl ?_
       refine ul_run 10 (by simp [go_sem, hAw, hsw, hs0, hs1, setS_gl] <;> rfl) ?_
       refine ul_fn (by first | (intro _ _ hh; exact hh) | simp [go_sem]) rfl rfl rfl rfl (by simp [go_sem, setS_gl] <;> rfl) call119 ((c_free1 d (.pv (wPV p)) (parS x) (by omega) (fr)) _ (by exact hgl)) (by simp [go_sem, setS_gl] <;> rfl) (by simp [go_sem]) rfl rfl ?_
       refine ul_fn (by first | (intro _ _ hh; exact hh) | simp [go_sem]) rfl rfl rfl rfl (by simp [go_sem] <;> rfl) call157 ((c_scWith (((ownS d).reverse ++ sc)) (parS x) (by omega)) _ (by exact hgl)) (by simp [go_sem, setS_gl] <;> rfl) (by simp [go_sem]) rfl rfl ?_
       refine ul_nil ?_
       refine al_callW rfl rfl rfl (by simp [go_sem] <;> rfl) call121 (ihi (by show y2.size ≤ _; omega) (p ++ [1, (i : Int), 2]) (by show _ + 3 * y2.size ≤ _; simp; omega) ((parS x).reverse ++ ((ownS d).reverse ++ sc)) _ _ om ob ow (by exact hgl) (hXm _ _) (hXb _ _) (hXw _ _)) (by simp [go_sem] <;> rfl) (by simp [go_sem]) rfl rfl ?_
       rintro r σ' ⟨rfl, rfl⟩
       refine al_nil (aR (by simp [go_sem, setS_set] <;> rfl) ?_)
       refine aS ?_
       exact ⟨(i + 1, IntKind.i64.wrap (fr + ((parS x).length : Int))), (by show i + 1 ≤ _; omega), (by show x1.kids.length - (i + 1) < x1.kids.length - i; omega), (by show setS _ om (frd d sc S (i + 1)) = _; rw [hfn]; try exact setS_set.symm), rfl, by simp [go_sem, hw], by simp [go_sem]⟩
      ·have hke : i = x1.kids.length := by simp at h5; omega
       subst hke
       refine awp_exit (then_exit (then_exit (inBlock_hit (awp_regDP tyOk tySz 9 (by kernel_rfl) (by decide) ?_))))
       refine ul_run 7 (by simp [go_sem, hs0, hs1, setS_gl, hx2] <;> rfl) ?_
       refine ul_fn (by first | (intro _ _ hh; exact hh) | simp [go_sem]) rfl rfl rfl rfl (by simp [go_sem] <;> rfl) call101 ((c_joinW p [2] (by omega) (by simp) (by simp)) _ (by exact hgl)) (by simp [go_sem, setS_gl] <;> rfl) (by simp [go_sem, ipv]) rfl rfl ?_
       refine ul_run 1 (by simp [go_sem, setS_gl] <;> rfl) ?_
       refine ul_nil ?_
       refine al_callW rfl rfl rfl (by simp [go_sem] <;> rfl) call121 (ihx (by show x2.size ≤ _; omega) (p ++ [2]) (by show _ + 3 * x2.size ≤ _; simp; omega) ((ownS d).reverse ++ sc) _ _ om ob ow (by exact hgl) (hXm _ _) (hXb _ _) (hXw _ _)) (by simp [go_sem] <;> rfl) (by simp [go_sem]) rfl rfl ?_
       rintro r σ' ⟨rfl, rfl⟩
       refine al_nil ?_
       first | (show Go.Aw.Ends ty _ _ Go.Exit.normal _) | (simp only [InBlock]; done) | simp only [InBlock] | unfold InBlock
       refine ends_normal (by first | rfl | (simp [go_sem] <;> rfl)) (by first | rfl | simp [go_sem]) ?_
       exact ⟨rfl, by rw [hfin]; first | exact setS_cut2 hol | (show Store.cut (setS (setS _ om _) om _) _ _ = _; rw [setS_set]; exact setS_cut2 hol)⟩
     ·have hkk : synKind d ≠ 5 ∧ synKind d ≠ 9 ∧ synKind d ≠ 6 ∧ synKind d ≠ 7 := by simp_all
      refine sG ?_
      refine aT 1 ?_
      refine al_callW rfl rfl rfl (by simp [go_sem] <;> rfl) call104 (c_PartsMk d _) (by simp [go_sem] <;> rfl) (by simp [go_sem]) rfl rfl ?_
      rintro r σ' ⟨rfl, rfl⟩
      refine al_nil (awp_block (awp_rangeFunc [4, 6, 7] (by simp [go_sem] <;> rfl) call147 (by simp [go_sem]) (by simp [go_sem, keepT]) (by decide) fun l => ?_))
      refine acalls_gen ?_
      intro ST hST
      simp only [go_sem, keepT, List.map_cons, List.map_nil, List.append_assoc, List.cons_append, List.nil_append] at hST
      have hST2 : ST = ⟨σ.gl, ST.objs, σ.toks⟩ := by rw [hST]
      have hglS : ST.gl = σ.gl := by rw [hST]
      have hts : ST.toks = σ.toks := by rw [hST]
      have hlow : ST.objs.take σ.objs.length = σ.objs := by rw [hST]; simp [go_sem]
      have hlen : ST.objs.length = σ.objs.length + 5 := by rw [hST]; simp [go_sem]
      have f0 : ST.objs[σ.objs.length]? = some (.box [.ptr ow 0]) := by rw [hST]; simp [go_sem]
      have f1 : ST.objs[σ.objs.length + 1]? = some (.box [.pv (wPV p)]) := by rw [hST]; simp [go_sem]
      have f2 : ST.objs[σ.objs.length + 2]? = some (.box [.pv (encSc sc)]) := by rw [hST]; simp [go_sem]
      have f3 : ST.objs[σ.objs.length + 3]? = some (.box [.pv (.int .i64 d.kind), .pv (.int .i64 d.num), .pv (.str d.text), .pv (.slice (d.kids.map enc))]) := by rw [hST]; simp [go_sem]
      have fm : ST.objs[om]? = some (.map (tK S) (tV S)) := by rw [hST]; exact hAm _
      have fb : ST.objs[ob]? = some (.box [.map om]) := by rw [hST]; exact hAb _
      have fw : ST.objs[ow]? = some (.box [.func (.func 119) [], .func (.func 120) [.ptr ob 0]]) := by rw [hST]; exact hAw _
      obtain ⟨T0, ps0, as0, bd0, hL⟩ : ∃ T0 ps0 as0 bd0, ST.objs[σ.objs.length + 4]? = some (.loop l .ready none T0 183 ps0 as0 bd0) := ⟨_, _, _, _, by rw [hST]; exact get_app5⟩
      have hround : ∀ (i : Nat) (τ : Store) (q : Sub × D), (subs d)[i]? = some q → (τ = setS ST om (frd d sc S i)) → ACallsY Tryz.prog l [.pv (.slice (ipv q.1.p)), .pv (enc q.2)] τ fun r τ' => (r = .pv (.bool true) ∧ τ' = setS ST om (frd d sc S (i + 1))) ∨ (r = .pv (.bool false) ∧ False) := by
       rintro i τ q hq hτ
       rw [hτ]
       have hqm : q ∈ subs d := List.mem_of_getElem? hq
       have hqs := subs_lt hqm
       have hqp := subs_plen hqm
       have hfn := frd_next (l := sc) (S := S) hq
       rw [subs_ns2 hkk hqm, List.map_nil, List.nil_append] at hfn
       rw [hfn]
       generalize frd d sc S i = R
       have e0 : (setS ST om R).objs[σ.objs.length]? = some (.box [.ptr ow 0]) := (setS_ne (by omega)).trans f0
       have e1 : (setS ST om R).objs[σ.objs.length + 1]? = some (.box [.pv (wPV p)]) := (setS_ne (by omega)).trans f1
       have e2 : (setS ST om R).objs[σ.objs.length + 2]? = some (.box [.pv (encSc sc)]) := (setS_ne (by omega)).trans f2
       have eL := (setS_ne (σ := ST) (S := R) (show om ≠ σ.objs.length + 4 by omega)).trans hL
       have em : (setS ST om R).objs[om]? = some (.map (tK R) (tV R)) := setS_get (by omega)
       have eb := (setS_ne (σ := ST) (S := R) hne1).trans fb
       have ew := (setS_ne (σ := ST) (S := R) hne2).trans fw
       refine acallsY_of (o := σ.objs.length + 4) ((setS_ne (σ := ST) (S := R) (show om ≠ σ.objs.length + 4 by omega)).trans (by rw [hST]; exact get_app5)) rfl rfl ?_
       refine sS ?_
       refine aS ?_
       refine ⟨_, _, _, _, _, _, Eq.trans (b := some (.loop l .ready none T0 183 ps0 as0 bd0)) (by simp [go_sem, hs4, hL]) rfl, ?_⟩
       refine awp_block (awp_regDP tyOk tySz 6 (by kernel_rfl) (by decide) ?_)
       refine ul_run 4 (by simp [go_sem, hs0, hs1, setS_gl, f0, f1] <;> rfl) ?_
       refine ul_fn (by first | (intro _ _ hh; exact hh) | simp [go_sem]) rfl rfl rfl rfl (by simp [go_sem] <;> rfl) call101 ((c_joinW p q.1.p (by omega) (by omega) hqp.1) _ (by exact hglS.trans hgl)) (by simp [go_sem, setS_gl] <;> rfl) (by simp [go_sem]) rfl rfl ?_
       refine ul_run 1 (by simp [go_sem, hs2, setS_gl, f2] <;> rfl) ?_
       refine ul_nil ?_
       refine al_callW rfl rfl rfl (by simp [go_sem] <;> rfl) call121 (ih q hqm (by omega) (p ++ q.1.p) (by rw [List.length_append]; omega) sc R _ om ob ow (by exact hglS.trans hgl) ((List.getElem?_set_ne (by omega)).trans em) ((List.getElem?_set_ne (by omega)).trans eb) ((List.getElem?_set_ne (by omega)).trans ew)) (by simp [go_sem] <;> rfl) (by simp [go_sem]) rfl rfl ?_
       rintro r σ' ⟨rfl, rfl⟩
       refine al_nil (⟨_, _, _, _, _, _, Eq.trans (b := some (.loop l .busy none T0 183 ps0 as0 bd0)) (by simp [go_sem, hs4, hL, set_at]) rfl, ?_⟩)
       refine .inl ⟨rfl, ?_⟩
       exact (setS_rec (X := setS ST om R) (by omega) eL).trans setS_set
      refine (ACalls.args (c_PartsIt d (by omega) (σ.objs.length + 3) l (fun i τ => τ = setS ST om (frd d sc S i)) (fun _ => False) (fun i τ h => by rw [h]; exact hglS.trans hgl) (fun i τ h => by rw [h]; exact (setS_ne (by omega)).trans f3) hround ST (setS_self fm).symm) (by simp [go_sem])).mono ?_
      rintro _ τ' (hτ | ⟨⟨⟩⟩)
      ·rw [hτ, frd_all hk2]
       have eL2 := (setS_ne (σ := ST) (S := sfree d sc S) (show om ≠ σ.objs.length + 4 by omega)).trans hL
       refine ⟨_, _, _, _, _, _, _, Eq.trans (b := some (.loop l .ready none T0 183 ps0 as0 bd0)) (by simp [go_sem, hs4, hL]) rfl, by decide, ?_⟩
       first | (show Go.Aw.Ends ty _ _ Go.Exit.normal _) | (simp only [InBlock]; done) | simp only [InBlock] | unfold InBlock
       refine ends_normal (by first | rfl | (simp [go_sem] <;> rfl)) (by first | rfl | simp [go_sem]) ?_
       exact ⟨rfl, by simp [go_sem, take_set_le, setS, List.take_set, hlow, hts, hglS]⟩

end Go.Proofs.YtigideidmcmfbaaGreatDoor

namespace Go.Proofs.YtigideidmcmfbaaGreatDoor
open Go Go.Aw
variable {kr : KR}
set_option maxHeartbeats 1000000 in
theorem c_ofStr (l : List (ByteArray × ByteArray)) (x : ByteArray) : Pur Tryz.prog (GL kr) 118 [.pv ((encScG PV.str) l), .pv (.str x)] (.tuple [.pv (((lookSc l x).map PV.str).getD (.str ⟨#[]⟩)), .pv (.bool (lookSc l x).isSome)]) := by
 have h0l : encScG PV.str l = encScG PV.str (l.drop 0) := rfl
 refine pur_of fun σ hgl => ?_
 refine acalls_of tyOk Tryz.func118 rfl (by simp [Tryz.f118]) ?_
 refine sS ?_
 refine awp_seq (awp_block (awp_loop_headK σ.objs.length σ.toks.length 0 [1, 4, 5] (fun k : Nat => [(0, .pv ((encScG PV.str) (l.drop k)))]) (fun k => σ) (fun k => k ≤ l.length ∧ NotYet (fun y : ByteArray × ByteArray => decide (y.1 = x)) l k) (fun k => l.length - k) 0 (⟨Nat.zero_le _, .zero⟩) ⟨by simp [go_sem, List.drop_zero], rfl, by simp, by simp, by simp [go_sem, List.drop_zero], fun ob h => .inl (by simpa [go_sem, List.drop_zero] using h), by simp [go_sem]⟩ ?_))
 rintro k ⟨hk, hn⟩
 refine awp_seq (sG ?_)
 refine aT 1 ?_
 refine al_ptrNe tyOk (decide (k < l.length)) rfl rfl rfl rfl (encScG_ne PV.str l k) rfl rfl ?_
 refine al_nil (aC (fun h0 => ?_) (fun h0 => ?_))
 ·have hlt : k < l.length := by simpa using h0
  obtain ⟨y, hy, hym⟩ := get_lt hlt
  have hyc := encScG_at PV.str hy
  refine awp_skip (awp_seq (awp_block (sA (by simp [go_sem, hyc] <;> rfl) ?_)))
  refine awp_cond (by first | rfl | (simp [go_sem, hyc] <;> rfl)) (fun h1 => ?_) (fun h1 => ?_)
  ·refine awp_seq (aS ?_)
   refine awp_ret (inBlock_ret (then_ret (then_ret (inBlock_ret (then_ret ?_)))))
   have hM := lookSc_found hn hy h1
   refine eR ?_
   exact ⟨by rw [hM]; simp [go_sem], by simp [go_sem]⟩
  ·refine awp_skip (aS ?_)
   exact next_intro (k + 1) σ.objs.length σ.toks.length 0 (⟨hlt, hn.succ hy h1⟩) (by omega) ⟨by simp [go_sem], rfl, by simp, by simp, by simp [go_sem], fun ob h => .inl (by simpa [go_sem, hyc] using h), by simp [go_sem]⟩
 ·have hke : k = l.length := by simp at h0; omega
  subst hke
  have hany := hn.any
  refine awp_exit (then_exit (then_exit (inBlock_hit (sS ?_))))
  refine sS ?_
  refine awp_ret ?_
  have hM := lookSc_none hany
  refine eR ?_
  exact ⟨by rw [hM]; simp [go_sem], by simp [go_sem]⟩

set_option maxHeartbeats 1000000 in
theorem c_withStr (l : List (ByteArray × ByteArray)) (ns : List ByteArray) (bs : List ByteArray) (hb : bs.length = ns.length) (hn : ns.length ≤ 1000000000) : Pur Tryz.prog (GL kr) 117 [.pv ((encScG PV.str) l), .pv (.slice (ns.map .str)), .pv (.slice (bs.map PV.str))] (.pv ((encScG PV.str) (wthSc l ns bs))) := by
 refine pur_of fun σ hgl => ?_
 refine acalls_of tyOk Tryz.func117 rfl (by simp [Tryz.f117]) ?_
 refine sS ?_
 refine awp_seq (sS ?_)
 refine awp_block (awp_loop_headK σ.objs.length σ.toks.length 0 [2, 6, 9, 10] (fun k : Nat => [(0, .pv (encScG PV.str (wthSc l (ns.take k) (bs.take k)))), (11, .pv (.int .i64 ↑k))]) (fun k => σ) (fun k => k ≤ ns.length) (fun k => ns.length - k) 0 (Nat.zero_le _) ⟨by simp [go_sem, List.take_zero, wthSc, List.zip_nil_right, List.reverse_nil, List.nil_append], rfl, by simp, by simp, by simp [go_sem, List.take_zero, wthSc, List.zip_nil_right, List.reverse_nil, List.nil_append], fun ob h => .inl (by simpa [go_sem, List.take_zero, wthSc, List.zip_nil_left, List.zip_nil_right, List.reverse_nil, List.nil_append] using h), by simp [go_sem]⟩ ?_)
 intro k hk
 refine sS ?_
 refine awp_seq (aC (fun h0 => ?_) (fun h0 => ?_))
 ·have hlt : k < ns.length := by simp at h0; omega
  have hw : IntKind.i64.wrap (↑k + 1) = (k : Int) + 1 := wrap_succ (by omega)
  obtain ⟨x, hx, hxm⟩ := get_lt hlt
  obtain ⟨b, hbk, hbm⟩ := get_lt (l := bs) (k := k) (by omega)
  have hnx : PV.ptr [.str x, .str b, encScG PV.str (wthSc l (ns.take k) (bs.take k))] = encScG PV.str (wthSc l (ns.take (k + 1)) (bs.take (k + 1))) := wthSc_next PV.str hx hbk
  refine awp_skip (awp_seq (awp_block (sA (by simp [go_sem, hx] <;> rfl) ?_)))
  refine awp_region_run (sh := [23]) tyOk (by simp [go_sem, hbk] <;> rfl) ?_
  have hob : (⟨σ.gl, σ.objs ++ [.box (([.str x, .str b, encScG PV.str (wthSc l (ns.take k) (bs.take k))] : List PV).map .pv)], σ.toks⟩ : Store).objs[σ.objs.length]? = some (.box (([.str x, .str b, encScG PV.str (wthSc l (ns.take k) (bs.take k))] : List PV).map .pv)) := by simp
  refine awp_freezePK 0 [2, 6, 9, 10, 11] σ (ob := σ.objs.length) (ps := [.str x, .str b, encScG PV.str (wthSc l (ns.take k) (bs.take k))]) (by simp [go_sem]) (by simp [go_sem]) (by simp [go_sem]) (Nat.le_refl _) (Nat.le_refl _) (by simp [go_sem]) (fun ob h => .inl h) (by simp [go_sem]) ?_
  rw [hnx]
  refine aS ?_
  exact next_intro (k + 1) σ.objs.length σ.toks.length 0 (hlt) (by omega) ⟨by simp [go_sem], rfl, by simp, by simp, by simp [go_sem, hw], fun ob h => .inl (by simpa [go_sem, hx, hbk, hw] using h), by simp [go_sem]⟩
 ·have hke : k = ns.length := by simp at h0; omega
  subst hke
  have hall := List.take_of_length_le (l := bs) (i := ns.length) (by omega)
  refine awp_exit (then_exit (then_exit (inBlock_hit (sA (by simp [go_sem, hall] <;> rfl) ?_))))
  refine awp_ret (eR ?_)
  exact ⟨by simp [go_sem], by simp [go_sem]⟩

set_option maxHeartbeats 4000000 in
theorem c_walkStr {S : Type} {U : S → List (Nat × AObj)} {ks : List Nat} {X : List (Nat × AObj)} {ow : Nat} {nf : FuncId} {nc : List AV} {vf : FuncId} {vc : List AV} {nam : D → List Int → List ByteArray → Int → S → List ByteArray × S} {vari : D → List Int → Option ByteArray → S → S} {Ok : D → List Int → Prop} {Good : Nat → S → Prop} (H : WkH Tryz.prog (GL kr) PV.str (.str ⟨#[]⟩) U ks X ow nf nc vf vc nam vari Ok Good) (d : D) : ∀ (hd : d.size ≤ 100000000) (p : List Int) (hp : p.length + 3 * d.size ≤ 400000000) (sc : List (ByteArray × ByteArray)) (m : Nat) (hm : m + ncnt d ≤ 1000000000) (s : S) (σ : Store) (hgl : σ.gl = (GL kr)) (ho : Ok d p) (hg : Good m s) (hU : HasU σ (U s)) (hXU : HasU σ X), ACalls Tryz.prog 126 [.ptr ow 0, .pv (enc d), .pv (wPV p), .pv ((encScG PV.str) sc)] σ (fun r σ' => r = .tuple [] ∧ σ' = updS σ (U (wk nam vari d p sc s))) := by
 induction d using D.indS with
 | _ d ih =>
 intro hd p hp sc m hm s σ hgl ho hg hU hXU
 have hwk : σ.objs[ow]? = some (.box [.func (.func nf) nc, .func (.func vf) vc]) := hXU _ H.hw
 have hwl := (List.getElem?_eq_some_iff.1 hwk).1
 have how : ow ∉ ks := H.hX _ H.hw
 have hkl2 : ∀ i, σ.objs.length ≤ i → i ∉ ks := fun i hi hm => by have := H.lt hU hm; omega
 have hAw : ∀ B, (σ.objs ++ B)[ow]? = some (.box [.func (.func nf) nc, .func (.func vf) vc]) := fun B => by rw [List.getElem?_append_left hwl]; exact hwk
 have hsw : ∀ (Y : Store) (s : S), (updS Y (U s)).objs[ow]? = Y.objs[ow]? := fun Y s => H.ne how
 have hmw : ∀ L, (maskO ks L)[ow]? = L[ow]? := fun L => maskO_get how
 have hs0 : ∀ (Y : Store) (s : S), (updS Y (U s)).objs[σ.objs.length]? = Y.objs[σ.objs.length]? := fun Y s => H.ne (hkl2 _ (by omega))
 have hs1 : ∀ (Y : Store) (s : S), (updS Y (U s)).objs[σ.objs.length + 1]? = Y.objs[σ.objs.length + 1]? := fun Y s => H.ne (hkl2 _ (by omega))
 have hs2 : ∀ (Y : Store) (s : S), (updS Y (U s)).objs[σ.objs.length + 2]? = Y.objs[σ.objs.length + 2]? := fun Y s => H.ne (hkl2 _ (by omega))
 have hs4 : ∀ (Y : Store) (s : S), (updS Y (U s)).objs[σ.objs.length + 4]? = Y.objs[σ.objs.length + 4]? := fun Y s => H.ne (hkl2 _ (by omega))
 have hm0 : ∀ L, (maskO ks L)[σ.objs.length]? = L[σ.objs.length]? := fun L => maskO_get (hkl2 _ (by omega))
 have hm1 : ∀ L, (maskO ks L)[σ.objs.length + 1]? = L[σ.objs.length + 1]? := fun L => maskO_get (hkl2 _ (by omega))
 have hm2 : ∀ L, (maskO ks L)[σ.objs.length + 2]? = L[σ.objs.length + 2]? := fun L => maskO_get (hkl2 _ (by omega))
 have hm4 : ∀ L, (maskO ks L)[σ.objs.length + 4]? = L[σ.objs.length + 4]? := fun L => maskO_get (hkl2 _ (by omega))
 have hss : ∀ (Y : Store) (s s2 : S), updS (updS Y (U s)) (U s2) = updS Y (U s2) := fun Y s s2 => H.upd
 have hwc := wPV_cell p
 have hkl := D.kids_length_lt d
 have hsl := syn_len d
 have hon := ownS_len d
 have hUa : ∀ B, HasU ⟨σ.gl, σ.objs ++ B, σ.toks⟩ (U s) := fun B => hU.app B _
 have hXa : ∀ B, HasU ⟨σ.gl, σ.objs ++ B, σ.toks⟩ X := fun B => hXU.app B _
 have hcut : ∀ (s2 : S) B tk, tk.take σ.toks.length = σ.toks → (updS ⟨σ.gl, σ.objs ++ B, tk⟩ (U s2)).cut σ.objs.length σ.toks.length = updS σ (U s2) := fun s2 B tk htk => updS_cut (fun q hq => H.ltU hU hq) htk
 refine updAt_of (H.hcl _ _ _ fun i hi => H.lt hU hi) rfl (by simp [go_sem]) ?_
 refine acalls_of tyOk Tryz.func126 rfl (by simp [Tryz.f126]) ?_
 refine awp_seq (awp_region_run (sh := [4, 6, 7]) tyOk (by simp [go_sem, hwc] <;> rfl) ?_)
 refine sG ?_
 refine aT 1 ?_
 refine aG call99 ((c_Kind d (by omega)) _ (by exact hgl)) ?_
 refine al_nil (awp_block (sS ?_))
 refine awp_cond (by first | rfl | (simp [go_sem, hAw, hsw, hs0, hs1, hs2, hs4, hm0, hm1, hm2, hm4, hmw, updS_gl, hss, hwc, updS_tk] <;> rfl)) (fun h0 => ?_) (fun h0 => ?_)
 ·have hk : synKind d = 2 := by simpa using h0
  have hfin := wk_name nam vari (p := p) (sc := sc) (s := s) hk
  refine sG ?_
  refine aT 3 ?_
  refine aG call118 ((c_ofStr sc d.text) _ (by exact hgl)) ?_
  refine aT 5 ?_
  refine al_nil (awp_regDP tyOk tySz 8 (by kernel_rfl) (by decide) ?_)
  refine ul_run 8 (by simp [go_sem, hAw] <;> rfl) ?_
  refine ul_nil ?_
  refine al_callW rfl rfl rfl (by simp [go_sem] <;> rfl) H.cv (H.hv d p (lookSc sc d.text) _ s _ (by omega) (by omega) ho hg hk (by exact hgl) (hUa _) (hXa _)) (by simp [go_sem] <;> rfl) (by simp [go_sem]) (by simp [go_sem, H.nlv]) rfl ?_
  rintro r σ' ⟨rfl, rfl⟩
  refine al_nil ?_
  first | (show Go.Aw.Ends ty _ _ Go.Exit.normal _) | (simp only [InBlock]; done) | simp only [InBlock] | unfold InBlock
  refine ends_normal (by first | rfl | (simp [go_sem] <;> rfl)) (by first | rfl | simp [go_sem]) ?_
  exact ⟨rfl, by rw [hfin]; first | exact hcut _ _ _ (by simp) | (show Store.cut (updS (updS _ _) _) _ _ = _; rw [hss]; exact hcut _ _ _ (by simp))⟩
 ·have hk2 : synKind d ≠ 2 := by simpa using h0
  refine awp_seq (sS ?_)
  refine awp_cond (by first | rfl | (simp [go_sem, hAw, hsw, hs0, hs1, hs2, hs4, hm0, hm1, hm2, hm4, hmw, updS_gl, hss, hwc, updS_tk] <;> rfl)) (fun h1 => ?_) (fun h1 => ?_)
  ·have hk : synKind d = 5 ∨ synKind d = 9 := by first | exact .inl (by simpa using h1) | exact .inr (by simpa using h1)
   have hlen := hsl.1 (by omega)
   obtain ⟨x2, hx2, hx2m⟩ := get_lt (l := d.kids) (k := 2) (by omega)
   have hd2 : d2 d.kids = x2 := getD_of hx2
   have hxs := D.size_kid_lt hx2m
   have hq : subs d = [subL d 2 x2] := by rw [← hd2]; exact subs_of_fn hk
   have hfin := wk_fn nam vari (p := p) (sc := sc) (s := s) hk
   have hnc := ncnt_fn hk
   rw [hd2] at hfin hnc
   have hqm : subL d 2 x2 ∈ subs d := by rw [hq]; simp
   have ihx := ih (subL d 2 x2) hqm
   simp only [subL] at ihx
   refine awp_skip (awp_cond (b := true) (by simp [go_sem, h1]) (fun h => ?_) (fun h => ?_))
   rotate_left
   ·cases h
   refine sG ?_
   refine aT 1 ?_
   refine aG call71 ((c_Own d (by omega)) _ (by exact hgl)) ?_
   refine aT 1 ?_
   refine al_nil (awp_regDM tyOk tySz ks 19 (by kernel_rfl) (by decide) ?_)
   refine ul_run 7 (by simp [go_sem, hm0, hm1, hx2] <;> rfl) ?_
   refine ul_fnM (by intro o ob ho2 hb2; first | exact (maskO_some ho2 hb2).2 | exact H.mask ho2 hb2) rfl rfl rfl rfl (by simp [go_sem] <;> rfl) call101 ((c_joinW p [2] (by omega) (by simp) (by simp)) _ (by exact hgl)) (by simp [go_sem] <;> rfl) (by simp [go_sem, ipv]) rfl rfl ?_
   refine ul_run 9 (by simp [go_sem, hAw, hm0, hm1, hm2, hmw] <;> rfl) ?_
   refine ul_callMW (by rintro _ _ ⟨_, rfl⟩ o ob ho2 hb2; exact H.mask ho2 hb2) rfl rfl rfl rfl (by simp [go_sem] <;> rfl) H.cn (H.hn d p (ownS d) (0) _ (s) _ (by omega) (by omega) ho hg (by omega) (.own (by omega)) (by exact hgl) (hUa _) (hXa _)) (by simp [go_sem] <;> rfl) (by simp [go_sem]) (by simp [go_sem, H.nln]) rfl ⟨_, _, rfl, rfl⟩ ?_
   rintro r σ' ⟨rfl, rfl⟩
   refine ul_fnM (by intro o ob ho2 hb2; first | exact (maskO_some ho2 hb2).2 | exact H.mask ho2 hb2) rfl rfl rfl rfl (by simp [go_sem] <;> rfl) call117 ((c_withStr (sc) (ownS d) ((nam d p (ownS d) 0 s).1) (H.gl _ _ _ _ _) (by omega)) _ (by exact hgl)) (by simp [go_sem] <;> rfl) (by simp [go_sem]) rfl rfl ?_
   refine ul_nil ?_
   refine al_callW rfl rfl rfl (by simp [go_sem] <;> rfl) call126 (ihx (by show x2.size ≤ _; omega) (p ++ [2]) (by show _ + 3 * x2.size ≤ _; simp; omega) (wthSc sc (ownS d) (nam d p (ownS d) 0 s).1) _ (by omega) ((nam d p (ownS d) 0 s).2) _ (by exact hgl) (H.hOk _ _ _ ho hqm) ((H.gn _ _ _ _ _ _ ho hg (.own (by omega)))) (H.has (hUa _)) (H.hasX (hXa _))) (by simp [go_sem] <;> rfl) (by simp [go_sem]) rfl rfl ?_
   rintro r σ' ⟨rfl, rfl⟩
   refine al_nil ?_
   first | (show Go.Aw.Ends ty _ _ Go.Exit.normal _) | (simp only [InBlock]; done) | simp only [InBlock] | unfold InBlock
   refine ends_normal (by first | rfl | (simp [go_sem] <;> rfl)) (by first | rfl | simp [go_sem]) ?_
   exact ⟨rfl, by rw [hfin]; first | exact hcut _ _ _ (by simp) | (show Store.cut (updS (updS _ _) _) _ _ = _; rw [hss]; exact hcut _ _ _ (by simp))⟩
  ·refine aS ?_
   refine awp_cond (by first | rfl | (simp [go_sem, hAw, hsw, hs0, hs1, hs2, hs4, hm0, hm1, hm2, hm4, hmw, updS_gl, hss, hwc, updS_tk] <;> rfl)) (fun h2 => ?_) (fun h2 => ?_)
   ·have hk : synKind d = 5 ∨ synKind d = 9 := by first | exact .inl (by simpa using h2) | exact .inr (by simpa using h2)
    have hlen := hsl.1 (by omega)
    obtain ⟨x2, hx2, hx2m⟩ := get_lt (l := d.kids) (k := 2) (by omega)
    have hd2 : d2 d.kids = x2 := getD_of hx2
    have hxs := D.size_kid_lt hx2m
    have hq : subs d = [subL d 2 x2] := by rw [← hd2]; exact subs_of_fn hk
    have hfin := wk_fn nam vari (p := p) (sc := sc) (s := s) hk
    have hnc := ncnt_fn hk
    rw [hd2] at hfin hnc
    have hqm : subL d 2 x2 ∈ subs d := by rw [hq]; simp
    have ihx := ih (subL d 2 x2) hqm
    simp only [subL] at ihx
    refine sG ?_
    refine aT 1 ?_
    refine aG call71 ((c_Own d (by omega)) _ (by exact hgl)) ?_
    refine aT 1 ?_
    refine al_nil (awp_regDM tyOk tySz ks 19 (by kernel_rfl) (by decide) ?_)
    refine ul_run 7 (by simp [go_sem, hm0, hm1, hx2] <;> rfl) ?_
    refine ul_fnM (by intro o ob ho2 hb2; first | exact (maskO_some ho2 hb2).2 | exact H.mask ho2 hb2) rfl rfl rfl rfl (by simp [go_sem] <;> rfl) call101 ((c_joinW p [2] (by omega) (by simp) (by simp)) _ (by exact hgl)) (by simp [go_sem] <;> rfl) (by simp [go_sem, ipv]) rfl rfl ?_
    refine ul_run 9 (by simp [go_sem, hAw, hm0, hm1, hm2, hmw] <;> rfl) ?_
    refine ul_callMW (by rintro _ _ ⟨_, rfl⟩ o ob ho2 hb2; exact H.mask ho2 hb2) rfl rfl rfl rfl (by simp [go_sem] <;> rfl) H.cn (H.hn d p (ownS d) (0) _ (s) _ (by omega) (by omega) ho hg (by omega) (.own (by omega)) (by exact hgl) (hUa _) (hXa _)) (by simp [go_sem] <;> rfl) (by simp [go_sem]) (by simp [go_sem, H.nln]) rfl ⟨_, _, rfl, rfl⟩ ?_
    rintro r σ' ⟨rfl, rfl⟩
    refine ul_fnM (by intro o ob ho2 hb2; first | exact (maskO_some ho2 hb2).2 | exact H.mask ho2 hb2) rfl rfl rfl rfl (by simp [go_sem] <;> rfl) call117 ((c_withStr (sc) (ownS d) ((nam d p (ownS d) 0 s).1) (H.gl _ _ _ _ _) (by omega)) _ (by exact hgl)) (by simp [go_sem] <;> rfl) (by simp [go_sem]) rfl rfl ?_
    refine ul_nil ?_
    refine al_callW rfl rfl rfl (by simp [go_sem] <;> rfl) call126 (ihx (by show x2.size ≤ _; omega) (p ++ [2]) (by show _ + 3 * x2.size ≤ _; simp; omega) (wthSc sc (ownS d) (nam d p (ownS d) 0 s).1) _ (by omega) ((nam d p (ownS d) 0 s).2) _ (by exact hgl) (H.hOk _ _ _ ho hqm) ((H.gn _ _ _ _ _ _ ho hg (.own (by omega)))) (H.has (hUa _)) (H.hasX (hXa _))) (by simp [go_sem] <;> rfl) (by simp [go_sem]) rfl rfl ?_
    rintro r σ' ⟨rfl, rfl⟩
    refine al_nil ?_
    first | (show Go.Aw.Ends ty _ _ Go.Exit.normal _) | (simp only [InBlock]; done) | simp only [InBlock] | unfold InBlock
    refine ends_normal (by first | rfl | (simp [go_sem] <;> rfl)) (by first | rfl | simp [go_sem]) ?_
    exact ⟨rfl, by rw [hfin]; first | exact hcut _ _ _ (by simp) | (show Store.cut (updS (updS _ _) _) _ _ = _; rw [hss]; exact hcut _ _ _ (by simp))⟩
   ·refine awp_seq (aS ?_)
    refine awp_cond (by first | rfl | (simp [go_sem, hAw, hsw, hs0, hs1, hs2, hs4, hm0, hm1, hm2, hm4, hmw, updS_gl, hss, hwc, updS_tk] <;> rfl)) (fun h3 => ?_) (fun h3 => ?_)
    ·have hk : synKind d = 6 := by simpa using h3
     have hlen := hsl.2.1 hk
     obtain ⟨x2, hx2, hx2m⟩ := get_lt (l := d.kids) (k := 2) (by omega)
     have hd2 : d2 d.kids = x2 := getD_of hx2
     have hxs := D.size_kid_lt hx2m
     obtain ⟨x3, hx3, hx3m⟩ := get_lt (l := d.kids) (k := 3) (by omega)
     have hd3 : d.kids.getD 3 dnone = x3 := getD_of hx3
     have hxt := D.size_kid_lt hx3m
     have hq : subs d = [(⟨[2], []⟩, x2), subL d 3 x3] := by rw [← hd2, ← hd3]; exact subs_of_let hk
     have hfin := wk_let nam vari (p := p) (sc := sc) (s := s) hk
     have hnc := ncnt_let hk
     rw [hd2, hd3] at hfin hnc
     have hqm : (⟨[2], []⟩, x2) ∈ subs d := by rw [hq]; simp
     have hqm3 : subL d 3 x3 ∈ subs d := by rw [hq]; simp
     have ihx := ih (⟨[2], []⟩, x2) hqm
     have ihy := ih (subL d 3 x3) hqm3
     simp only [subL] at ihx ihy
     have hg1 := H.gn _ _ _ _ _ _ ho hg (.own (.inr (.inr (.inl hk))))
     refine sG ?_
     refine aT 1 ?_
     refine aG call71 ((c_Own d (by omega)) _ (by exact hgl)) ?_
     refine aT 1 ?_
     refine al_nil (awp_seq (awp_regDP tyOk tySz 7 (by kernel_rfl) (by decide) ?_))
     refine ul_run 7 (by simp [go_sem, hAw] <;> rfl) ?_
     refine ul_nil ?_
     refine al_callW rfl rfl rfl (by simp [go_sem] <;> rfl) H.cn (H.hn d p (ownS d) (0) _ (s) _ (by omega) (by omega) ho hg (by omega) (.own (by omega)) (by exact hgl) (hUa _) (hXa _)) (by simp [go_sem] <;> rfl) (by simp [go_sem]) (by simp [go_sem, H.nln]) rfl ?_
     rintro r σ' ⟨rfl, rfl⟩
     refine aT 1 ?_
     refine al_nil (awp_seq (awp_regDP tyOk tySz 9 (by kernel_rfl) (by decide) ?_))
     refine ul_run 7 (by simp [go_sem, hs0, hs1, updS_gl, hx2] <;> rfl) ?_
     refine ul_fn (by first | (intro _ _ hh; exact hh) | simp [go_sem, hss]) rfl rfl rfl rfl (by simp [go_sem] <;> rfl) call101 ((c_joinW p [2] (by omega) (by simp) (by simp)) _ (by exact hgl)) (by simp [go_sem, updS_gl] <;> rfl) (by simp [go_sem, ipv]) rfl rfl ?_
     refine ul_run 1 (by simp [go_sem, hs2, updS_gl] <;> rfl) ?_
     refine ul_nil ?_
     refine al_callW rfl rfl rfl (by simp [go_sem] <;> rfl) call126 (ihx (by show x2.size ≤ _; omega) (p ++ [2]) (by show _ + 3 * x2.size ≤ _; simp; omega) (sc) _ (by omega) ((nam d p (ownS d) 0 s).2) _ (by exact hgl) (H.hOk _ _ _ ho hqm) (hg1) (H.has (hUa _)) (H.hasX (hXa _))) (by simp [go_sem] <;> rfl) (by simp [go_sem]) rfl rfl ?_
     rintro r σ' ⟨rfl, rfl⟩
     refine al_nil (awp_regDP tyOk tySz 12 (by kernel_rfl) (by decide) ?_)
     refine ul_run 7 (by simp [go_sem, hs0, hs1, updS_gl, hss, hx3] <;> rfl) ?_
     refine ul_fn (by first | (intro _ _ hh; exact hh) | simp [go_sem, hss]) rfl rfl rfl rfl (by simp [go_sem] <;> rfl) call101 ((c_joinW p [3] (by omega) (by simp) (by simp)) _ (by exact hgl)) (by simp [go_sem, updS_gl, hss] <;> rfl) (by simp [go_sem, ipv]) rfl rfl ?_
     refine ul_run 3 (by simp [go_sem, hs2, updS_gl, hss] <;> rfl) ?_
     refine ul_fn (by first | (intro _ _ hh; exact hh) | simp [go_sem, hss]) rfl rfl rfl rfl (by simp [go_sem] <;> rfl) call117 ((c_withStr (sc) (ownS d) ((nam d p (ownS d) 0 s).1) (H.gl _ _ _ _ _) (by omega)) _ (by exact hgl)) (by simp [go_sem, updS_gl, hss] <;> rfl) (by simp [go_sem]) rfl rfl ?_
     refine ul_nil ?_
     refine al_callW rfl rfl rfl (by simp [go_sem] <;> rfl) call126 (ihy (by show x3.size ≤ _; omega) (p ++ [3]) (by show _ + 3 * x3.size ≤ _; simp; omega) (wthSc sc (ownS d) (nam d p (ownS d) 0 s).1) _ (by omega) (wk nam vari x2 (p ++ [2]) sc (nam d p (ownS d) 0 s).2) _ (by exact hgl) (H.hOk _ _ _ ho hqm3) (H.good _ _ _ _ _ (H.hOk _ _ _ ho hqm) hg1) (H.has (hUa _)) (H.hasX (hXa _))) (by simp [go_sem] <;> rfl) (by simp [go_sem]) rfl rfl ?_
     rintro r σ' ⟨rfl, rfl⟩
     refine al_nil ?_
     first | (show Go.Aw.Ends ty _ _ Go.Exit.normal _) | (simp only [InBlock]; done) | simp only [InBlock] | unfold InBlock
     refine ends_normal (by first | rfl | (simp [go_sem] <;> rfl)) (by first | rfl | simp [go_sem]) ?_
     exact ⟨rfl, by rw [hfin]; first | exact hcut _ _ _ (by simp) | (show Store.cut (updS (updS _ _) _) _ _ = _; rw [hss]; exact hcut _ _ _ (by simp))⟩
    ·refine awp_seq (aS ?_)
     refine awp_cond (by first | rfl | (simp [go_sem, hAw, hsw, hs0, hs1, hs2, hs4, hm0, hm1, hm2, hm4, hmw, updS_gl, hss, hwc, updS_tk] <;> rfl)) (fun h4 => ?_) (fun h4 => ?_)
     ·have hk : synKind d = 7 := by simpa using h4
      have hlen := hsl.1 (by omega)
      obtain ⟨x2, hx2, hx2m⟩ := get_lt (l := d.kids) (k := 2) (by omega)
      have hd2 : d2 d.kids = x2 := getD_of hx2
      have hxs := D.size_kid_lt hx2m
      obtain ⟨x1, hx1, hx1m⟩ := get_lt (l := d.kids) (k := 1) (by omega)
      have hd1 : d1 d.kids = x1 := getD_of hx1
      have hx1s := D.size_kid_lt hx1m
      have hx1l := D.kids_length_lt x1
      have hrk := hsl.2.2 hk
      have hrl := subs_rec_last hk
      have hra := fun (i : Nat) (x : D) => subs_rec_at (d := d) (i := i) (x := x) hk
      have hfr := fromS_le x1.kids
      have hszk := D.size_kids x1
      rw [hd1, hd2] at hrl
      rw [hd1] at hra hrk
      have hfin := wk_rec nam vari (p := p) (sc := sc) (s := s) hk
      have hnc := ncnt_rec hk
      have hncm := ncd_mono d
      have hncx := fun (k : Nat) (x : D) => ncd_next (d := d) (k := k) (x := x)
      rw [hd1, hd2] at hfin
      rw [hd1, hd2] at hnc
      rw [hd1] at hncm hncx
      have ihx := ih (subL d 2 x2) (List.mem_of_getElem? hrl.1)
      simp only [subL] at ihx
      have hg1 := H.gn _ _ _ _ _ _ ho hg (.own (.inr (.inr (.inr hk))))
      have hol : (ownS d).length = x1.kids.length := by unfold ownS; rw [hk, hd1]; simp
      refine sG ?_
      refine aT 1 ?_
      refine aG call71 ((c_Own d (by omega)) _ (by exact hgl)) ?_
      refine aT 1 ?_
      refine al_nil (awp_seq (awp_regDM tyOk tySz ks 10 (by kernel_rfl) (by decide) ?_))
      refine ul_run 9 (by simp [go_sem, hAw, hm0, hm1, hm2, hmw] <;> rfl) ?_
      refine ul_callMW (by rintro _ _ ⟨_, rfl⟩ o ob ho2 hb2; exact H.mask ho2 hb2) rfl rfl rfl rfl (by simp [go_sem] <;> rfl) H.cn (H.hn d p (ownS d) (0) _ (s) _ (by omega) (by omega) ho hg (by omega) (.own (by omega)) (by exact hgl) (hUa _) (hXa _)) (by simp [go_sem] <;> rfl) (by simp [go_sem]) (by simp [go_sem, H.nln]) rfl ⟨_, _, rfl, rfl⟩ ?_
      rintro r σ' ⟨rfl, rfl⟩
      refine ul_nil ?_
      refine aG call117 ((c_withStr (sc) (ownS d) ((nam d p (ownS d) 0 s).1) (H.gl _ _ _ _ _) (by omega)) _ (by exact hgl)) ?_
      refine aT 1 ?_
      refine al_nil (sS ?_)
      refine awp_seq (sA (by simp [go_sem, hx1] <;> rfl) ?_)
      refine awp_block (awp_loop_headJL 1 [4, 5, 6, 7, 14, 133, 134] (fun i : Nat => [(15, .pv (.int .i64 (fromS x1.kids i))), (135, .pv (.int .i64 (i : Int)))]) (fun i => updS (⟨σ.gl, σ.objs ++ [.box [.ptr ow 0], .box [.pv (wPV p)], .box [.pv ((encScG PV.str) sc)]], σ.toks⟩ : Store) (U (wkd nam vari d p (wthSc sc (ownS d) (nam d p (ownS d) 0 s).1) i (nam d p (ownS d) 0 s).2))) (fun i => i ≤ x1.kids.length) (fun i => x1.kids.length - i) 0 (Nat.zero_le _) ⟨rfl, rfl, by simp [go_sem, fromS_zero, hol], by simp [go_sem]⟩ ?_)
      intro i hi
      refine sS ?_
      refine awp_seq (awp_cond (by first | rfl | (simp [go_sem, hAw, hsw, hs0, hs1, hs2, hs4, hm0, hm1, hm2, hm4, hmw, updS_gl, hss, hwc, updS_tk, hx1, hx2] <;> rfl)) (fun h5 => ?_) (fun h5 => ?_))
      ·have hlt : i < x1.kids.length := by simp at h5; omega
       obtain ⟨x, hx, hxm⟩ := get_lt hlt
       have hl3 := hrk x hxm
       obtain ⟨y1, hy1, hy1m⟩ := get_lt (l := x.kids) (k := 1) (by omega)
       obtain ⟨y2, hy2, hy2m⟩ := get_lt (l := x.kids) (k := 2) (by omega)
       have hyd1 : d1 x.kids = y1 := getD_of hy1
       have hyd2 : d2 x.kids = y2 := getD_of hy2
       have hz0 := D.size_kid_lt hxm
       have hz1 := D.size_kid_lt hy1m
       have hz2 := D.size_kid_lt hy2m
       have hz3 := D.kids_length_lt y1
       have hpx : parS x = y1.kids.map D.text := by unfold parS; rw [hyd1]
       have hpl : (parS x).length = y1.kids.length := by rw [hpx, List.length_map]
       have hqi := hra i x hx
       have ihi := ih (subR d i x) (List.mem_of_getElem? hqi)
       simp only [subR, hyd2] at ihi
       have hf1 := fromS_next hx
       have hnc1 := hncx i x hx
       have hnc2 := hncm (i + 1)
       rw [hyd2] at hnc1
       have hf2 := hfr i (by omega)
       have hf3 := hfr (i + 1) (by omega)
       have hw2 : IntKind.i64.wrap (fromS x1.kids i + ((parS x).length : Int)) = fromS x1.kids (i + 1) := by rw [hf1]; exact wrap_id (by omega) (by omega)
       have hgi := H.goodD (inn := wthSc sc (ownS d) (nam d p (ownS d) 0 s).1) hk ho hg1 i (by rw [hd1]; omega)
       have hnx := wkd_next nam vari (p := p) (inn := wthSc sc (ownS d) (nam d p (ownS d) 0 s).1) (s := (nam d p (ownS d) 0 s).2) (by rw [hd1]; exact hx)
       rw [hd1, hyd2] at hnx
       have hgi2 := H.gn _ _ _ _ _ _ ho hgi (.par hk (by rw [hd1]; exact hx))
       rw [hd1] at hgi2
       have hw : IntKind.i64.wrap ((i : Int) + 1) = (i : Int) + 1 := wrap_succ (by omega)
       refine awp_skip (awp_seq (awp_block (sA (by simp [go_sem, hx] <;> rfl) ?_)))
       refine sG ?_
       refine aL 5 (by simp [go_sem, hy1] <;> rfl) ?_
       refine aG call103 ((c_Texts y1.kids (by omega)) _ (by exact hgl)) ?_
       refine aL 1 (by simp [go_sem, ← hpx] <;> rfl) ?_
       refine al_nil (awp_seq (awp_regDM tyOk tySz ks 21 (by kernel_rfl) (by decide) ?_))
       refine ul_run 8 (by simp [go_sem, hs0, hs1, hm0, hm1, updS_gl, hy2] <;> rfl) ?_
       refine ul_fnM (by intro o ob ho2 hb2; first | exact (maskO_some ho2 hb2).2 | exact H.mask ho2 hb2) rfl rfl rfl rfl (by simp [go_sem] <;> rfl) call101 ((c_joinW p [1, (i : Int), 2] (by omega) (by simp) (by simp)) _ (by exact hgl)) (by simp [go_sem, updS_gl] <;> rfl) (by simp [go_sem, ipv]) rfl rfl ?_
       refine ul_run 10 (by simp [go_sem, hAw, hsw, hs0, hs1, hm0, hm1, hmw, updS_gl] <;> rfl) ?_
       refine ul_callMW (by rintro _ _ ⟨_, rfl⟩ o ob ho2 hb2; exact H.mask ho2 hb2) rfl rfl rfl rfl (by simp [go_sem, updS_gl] <;> rfl) H.cn (H.hn d p (parS x) (fromS x1.kids i) _ (wkd nam vari d p (wthSc sc (ownS d) (nam d p (ownS d) 0 s).1) i (nam d p (ownS d) 0 s).2) _ (by omega) (by omega) ho hgi (by omega) (by have := NmOk.par hk (by rw [hd1]; exact hx); rw [hd1] at this; exact this) (by exact hgl) (H.has (hUa _)) (H.hasX (hXa _))) (by simp [go_sem, updS_gl] <;> rfl) (by simp [go_sem]) (by simp [go_sem, H.nln]) rfl ⟨_, _, rfl, rfl⟩ ?_
       rintro r σ' ⟨rfl, rfl⟩
       refine ul_fnM (by intro o ob ho2 hb2; first | exact (maskO_some ho2 hb2).2 | exact H.mask ho2 hb2) rfl rfl rfl rfl (by simp [go_sem] <;> rfl) call117 ((c_withStr (wthSc sc (ownS d) (nam d p (ownS d) 0 s).1) (parS x) ((nam d p (parS x) (fromS x1.kids i) (wkd nam vari d p (wthSc sc (ownS d) (nam d p (ownS d) 0 s).1) i (nam d p (ownS d) 0 s).2)).1) (H.gl _ _ _ _ _) (by omega)) _ (by exact hgl)) (by simp [go_sem, updS_gl] <;> rfl) (by simp [go_sem]) rfl rfl ?_
       refine ul_nil ?_
       refine al_callW rfl rfl rfl (by simp [go_sem] <;> rfl) call126 (ihi (by show y2.size ≤ _; omega) (p ++ [1, (i : Int), 2]) (by show _ + 3 * y2.size ≤ _; simp; omega) (wthSc (wthSc sc (ownS d) (nam d p (ownS d) 0 s).1) (parS x) (nam d p (parS x) (fromS x1.kids i) (wkd nam vari d p (wthSc sc (ownS d) (nam d p (ownS d) 0 s).1) i (nam d p (ownS d) 0 s).2)).1) _ (by omega) ((nam d p (parS x) (fromS x1.kids i) (wkd nam vari d p (wthSc sc (ownS d) (nam d p (ownS d) 0 s).1) i (nam d p (ownS d) 0 s).2)).2) _ (by exact hgl) (by have := H.hOk _ _ _ ho (List.mem_of_getElem? hqi); simp only [subR, hyd2] at this; exact this) (hgi2) (H.has (H.has (hUa _))) (H.hasX (H.hasX (hXa _)))) (by simp [go_sem, hss] <;> rfl) (by simp [go_sem]) rfl rfl ?_
       rintro r σ' ⟨rfl, rfl⟩
       refine al_nil (aR (by simp [go_sem, hss, hw2] <;> rfl) ?_)
       refine aS ?_
       exact ⟨(i + 1), (by show i + 1 ≤ _; omega), (by show x1.kids.length - (i + 1) < x1.kids.length - i; omega), (by show updS _ (U (wkd nam vari d p _ (i + 1) _)) = _; rw [hnx]; first | done | rfl | exact hss _ _ _ | simp [hss]), rfl, by simp [go_sem, hw], by simp [go_sem]⟩
      ·have hke : i = x1.kids.length := by simp at h5; omega
       subst hke
       refine awp_exit (then_exit (then_exit (inBlock_hit (awp_regDP tyOk tySz 9 (by kernel_rfl) (by decide) ?_))))
       refine ul_run 7 (by simp [go_sem, hs0, hs1, updS_gl, hx2] <;> rfl) ?_
       refine ul_fn (by first | (intro _ _ hh; exact hh) | simp [go_sem, hss]) rfl rfl rfl rfl (by simp [go_sem] <;> rfl) call101 ((c_joinW p [2] (by omega) (by simp) (by simp)) _ (by exact hgl)) (by simp [go_sem, updS_gl] <;> rfl) (by simp [go_sem, ipv]) rfl rfl ?_
       refine ul_run 1 (by simp [go_sem, updS_gl] <;> rfl) ?_
       refine ul_nil ?_
       refine al_callW rfl rfl rfl (by simp [go_sem] <;> rfl) call126 (ihx (by show x2.size ≤ _; omega) (p ++ [2]) (by show _ + 3 * x2.size ≤ _; simp; omega) (wthSc sc (ownS d) (nam d p (ownS d) 0 s).1) _ (by omega) (wkd nam vari d p (wthSc sc (ownS d) (nam d p (ownS d) 0 s).1) x1.kids.length (nam d p (ownS d) 0 s).2) _ (by exact hgl) (H.hOk _ _ _ ho (List.mem_of_getElem? hrl.1)) (H.goodD hk ho hg1 _ (by rw [hd1]; exact Nat.le_refl _)) (H.has (hUa _)) (H.hasX (hXa _))) (by simp [go_sem] <;> rfl) (by simp [go_sem]) rfl rfl ?_
       rintro r σ' ⟨rfl, rfl⟩
       refine al_nil ?_
       first | (show Go.Aw.Ends ty _ _ Go.Exit.normal _) | (simp only [InBlock]; done) | simp only [InBlock] | unfold InBlock
       refine ends_normal (by first | rfl | (simp [go_sem] <;> rfl)) (by first | rfl | simp [go_sem]) ?_
       exact ⟨rfl, by rw [hfin]; first | exact hcut _ _ _ (by simp) | (show Store.cut (updS (updS _ _) _) _ _ = _; rw [hss]; exact hcut _ _ _ (by simp))⟩
     ·have hkk : synKind d ≠ 5 ∧ synKind d ≠ 9 ∧ synKind d ≠ 6 ∧ synKind d ≠ 7 := by simp_all
      have hkk2 : synKind d ≠ 2 ∧ synKind d ≠ 5 ∧ synKind d ≠ 9 ∧ synKind d ≠ 6 ∧ synKind d ≠ 7 := ⟨hk2, hkk⟩
      refine sG ?_
      refine aT 1 ?_
      refine al_callW rfl rfl rfl (by simp [go_sem] <;> rfl) call104 (c_PartsMk d _) (by simp [go_sem] <;> rfl) (by simp [go_sem]) rfl rfl ?_
      rintro r σ' ⟨rfl, rfl⟩
      refine al_nil (awp_block (awp_rangeFunc [4, 6, 7] (by simp [go_sem] <;> rfl) call147 (by simp [go_sem]) (by simp [go_sem, keepT]) (by decide) fun l => ?_))
      refine acalls_gen ?_
      intro ST hST
      simp only [go_sem, keepT, List.map_cons, List.map_nil, List.append_assoc, List.cons_append, List.nil_append] at hST
      have hST2 : ST = ⟨σ.gl, ST.objs, σ.toks⟩ := by rw [hST]
      have hglS : ST.gl = σ.gl := by rw [hST]
      have hts : ST.toks = σ.toks := by rw [hST]
      have hlow : ST.objs.take σ.objs.length = σ.objs := by rw [hST]; simp [go_sem]
      have hlen : ST.objs.length = σ.objs.length + 5 := by rw [hST]; simp [go_sem]
      have f0 : ST.objs[σ.objs.length]? = some (.box [.ptr ow 0]) := by rw [hST]; simp [go_sem]
      have f1 : ST.objs[σ.objs.length + 1]? = some (.box [.pv (wPV p)]) := by rw [hST]; simp [go_sem]
      have f2 : ST.objs[σ.objs.length + 2]? = some (.box [.pv ((encScG PV.str) sc)]) := by rw [hST]; simp [go_sem]
      have f3 : ST.objs[σ.objs.length + 3]? = some (.box [.pv (.int .i64 d.kind), .pv (.int .i64 d.num), .pv (.str d.text), .pv (.slice (d.kids.map enc))]) := by rw [hST]; simp [go_sem]
      have hUS : HasU ST (U s) := by rw [hST]; exact hUa _
      have hXS : HasU ST X := by rw [hST]; exact hXa _
      obtain ⟨BT, hBT⟩ : ∃ BT, ST.objs = σ.objs ++ BT := ⟨_, by rw [hST]⟩
      obtain ⟨T0, ps0, as0, bd0, hL⟩ : ∃ T0 ps0 as0 bd0, ST.objs[σ.objs.length + 4]? = some (.loop l .ready none T0 183 ps0 as0 bd0) := ⟨_, _, _, _, by rw [hST]; exact get_app5⟩
      have hround : ∀ (i : Nat) (τ : Store) (q : Sub × D), (subs d)[i]? = some q → (τ = updS ST (U (wks nam vari d p sc i s))) → ACallsY Tryz.prog l [.pv (.slice (ipv q.1.p)), .pv (enc q.2)] τ fun r τ' => (r = .pv (.bool true) ∧ τ' = updS ST (U (wks nam vari d p sc (i + 1) s))) ∨ (r = .pv (.bool false) ∧ False) := by
       rintro i τ q hq hτ
       rw [hτ]
       have hqm : q ∈ subs d := List.mem_of_getElem? hq
       have hqs := subs_lt hqm
       have hqp := subs_plen hqm
       rw [wks_next nam vari hq]
       have hmi : m + ncs d i + ncnt q.2 ≤ 1000000000 := by have h1 := ncs_next hq; have h2 := ncs_mono d (i + 1); have h3 := ncnt_rest hkk; omega
       have hgR := H.goodS (sc := sc) ho hg i (Nat.le_of_lt (List.getElem?_eq_some_iff.1 hq).1)
       generalize wks nam vari d p sc i s = R at hgR ⊢
       have e0 : (updS ST (U R)).objs[σ.objs.length]? = some (.box [.ptr ow 0]) := (hs0 _ _).trans f0
       have e1 : (updS ST (U R)).objs[σ.objs.length + 1]? = some (.box [.pv (wPV p)]) := (hs1 _ _).trans f1
       have e2 : (updS ST (U R)).objs[σ.objs.length + 2]? = some (.box [.pv ((encScG PV.str) sc)]) := (hs2 _ _).trans f2
       have eL := (hs4 ST R).trans hL
       have hUR := hasU_set (ob := .loop l .busy none T0 183 ps0 as0 bd0) (H.has (s' := R) hUS) (i := σ.objs.length + 4) (by rw [H.hks]; exact hkl2 _ (by omega))
       have hXR := hasU_set (ob := .loop l .busy none T0 183 ps0 as0 bd0) (H.hasX (s' := R) hXS) (i := σ.objs.length + 4) (by intro hm; obtain ⟨q, hq, e⟩ := List.mem_map.1 hm; have := hXU.lt hq; omega)
       refine acallsY_of (o := σ.objs.length + 4) ((H.ne (hkl2 (σ.objs.length + 4) (by omega))).trans (by rw [hST]; exact get_app5)) rfl rfl ?_
       refine sS ?_
       refine aS ?_
       refine ⟨_, _, _, _, _, _, Eq.trans (b := some (.loop l .ready none T0 183 ps0 as0 bd0)) (by simp [go_sem, hs4, hL]) rfl, ?_⟩
       refine awp_block (awp_regDP tyOk tySz 6 (by kernel_rfl) (by decide) ?_)
       refine ul_run 4 (by simp [go_sem, hs0, hs1, updS_gl, updS_tk, f0, f1, updS_tk] <;> rfl) ?_
       refine ul_fn (by first | (intro _ _ hh; exact hh) | simp [go_sem, hss]) rfl rfl rfl rfl (by simp [go_sem] <;> rfl) call101 ((c_joinW p q.1.p (by omega) (by omega) hqp.1) _ (by exact hglS.trans hgl)) (by simp [go_sem, updS_gl, updS_tk, updS_tk] <;> rfl) (by simp [go_sem]) rfl rfl ?_
       refine ul_run 1 (by simp [go_sem, hs2, updS_gl, updS_tk, f2, updS_tk] <;> rfl) ?_
       refine ul_nil ?_
       refine al_callW rfl rfl rfl (by simp [go_sem] <;> rfl) call126 (ih q hqm (by omega) (p ++ q.1.p) (by rw [List.length_append]; omega) sc _ hmi R _ (by exact hglS.trans hgl) (H.hOk _ _ _ ho hqm) hgR hUR hXR) (by simp [go_sem] <;> rfl) (by simp [go_sem]) rfl rfl ?_
       rintro r σ' ⟨rfl, rfl⟩
       refine al_nil (⟨_, _, _, _, _, _, Eq.trans (b := some (.loop l .busy none T0 183 ps0 as0 bd0)) (by simp [go_sem, hs4, hL, set_at]) rfl, ?_⟩)
       refine .inl ⟨rfl, ?_⟩
       exact (updS_rec (X := updS ST (U R)) (by rw [H.hks]; exact hkl2 _ (by omega)) eL).trans (hss _ _ _)
      refine (ACalls.args (c_PartsIt d (by omega) (σ.objs.length + 3) l (fun i τ => τ = updS ST (U (wks nam vari d p sc i s))) (fun _ => False) (fun i τ h => by rw [h]; exact hglS.trans hgl) (fun i τ h => by rw [h]; exact (H.ne (hkl2 _ (by omega))).trans f3) hround ST (updS_self hUS).symm) (by simp [go_sem])).mono ?_
      rintro _ τ' (hτ | ⟨⟨⟩⟩)
      ·rw [hτ, wks_all nam vari hkk2]
       have eL2 := (hs4 ST (wk nam vari d p sc s)).trans hL
       refine ⟨_, _, _, _, _, _, _, Eq.trans (b := some (.loop l .ready none T0 183 ps0 as0 bd0)) (by simp [go_sem, hs4, hL]) rfl, by decide, ?_⟩
       first | (show Go.Aw.Ends ty _ _ Go.Exit.normal _) | (simp only [InBlock]; done) | simp only [InBlock] | unfold InBlock
       refine ends_normal (by first | rfl | (simp [go_sem] <;> rfl)) (by first | rfl | simp [go_sem]) ?_
       refine ⟨rfl, ?_⟩
       refine cutSet_of (by first | omega | (simp [go_sem]; done) | (simp [go_sem]; omega)) ?_
       rw [hST2, hBT]
       exact hcut _ _ _ (by simp)

end Go.Proofs.YtigideidmcmfbaaGreatDoor

namespace Go.Proofs.YtigideidmcmfbaaGreatDoor
open Go Go.Aw
variable {kr : KR}
set_option maxHeartbeats 1000000 in
theorem c_SlCloneE (σ : Store) : PurAt Tryz.prog σ 127 [.pv (.slice [])] (.pv (.slice [])) := by
 refine purAt_of ?_
 refine acalls_of tyOk Tryz.func127 rfl (by simp [Tryz.f127]) ?_
 refine sS ?_
 refine awp_seq (sG ?_)
 refine aT 1 ?_
 refine al_sliceEq tyOk (xs := []) rfl rfl rfl rfl (by simp [go_sem] <;> rfl) rfl rfl ?_
 intro b hb
 refine al_nil (aC (fun h0 => ?_) (fun h0 => ?_))
 ·refine awp_seq (aS ?_)
  refine awp_ret (then_ret (eR ?_))
  exact ⟨by simp [go_sem], by simp [go_sem]⟩
 ·refine awp_skip (sS ?_)
  refine awp_ret (eR ?_)
  exact ⟨by simp [go_sem], by simp [go_sem]⟩

set_option maxHeartbeats 1000000 in
theorem c_SlClone (l : List D) (hne : l ≠ []) (hl : l.length ≤ 100000000) (σ : Store) : ACalls Tryz.prog 127 [.pv (.slice (l.map enc))] σ (fun r σ' => r = .sl σ.objs.length 0 l.length ∧ σ' = { σ with objs := σ.objs ++ [.arr ((flat (l.map enc)).map .pv)] }) := by
 refine acalls_of tyOk Tryz.func127 rfl (by simp [Tryz.f127]) ?_
 refine sS ?_
 refine awp_seq (sG ?_)
 refine aT 1 ?_
 refine al_sliceEq tyOk (xs := (l.map enc)) rfl rfl rfl rfl (by simp [go_sem] <;> rfl) rfl rfl ?_
 intro b hb
 refine al_nil (aC (fun h0 => ?_) (fun h0 => ?_))
 ·exact absurd (hb (by simpa using hne)) (by simp [h0])
 ·refine awp_skip (sG ?_)
  refine aT 2 ?_
  refine al_appendArr tyOk (ys := l.map enc) rfl rfl rfl rfl rfl (by simp [go_sem]) (by simp [go_sem]) (by simpa using hne) (allSz_enc l) (by decide) (by simp; omega) rfl rfl ?_
  refine aT 1 ?_
  refine al_nil (awp_ret (eR ?_))
  exact ⟨by simp [go_sem], by simp [go_sem]⟩

set_option maxHeartbeats 1000000 in
theorem c_CloneE (d : D) (hk : d.kids = []) (σ : Store) : PurAt Tryz.prog σ 84 [.pv (enc d)] (.pv (enc d)) := by
 have hd : enc d = .agg [.int .i64 d.kind, .int .i64 d.num, .str d.text, .slice []] := by rw [enc_eq, hk]; rfl
 refine purAt_of ?_
 refine acalls_of tyOk Tryz.func84 rfl (by simp [Tryz.f84]) ?_
 refine sA (by simp [go_sem, hd] <;> rfl) ?_
 refine sG ?_
 refine aT 2 ?_
 refine aG call127 (c_SlCloneE _) ?_
 refine aT 2 ?_
 refine al_nil (awp_seq (sS ?_))
 refine awp_block (awp_loopL (awpL_round ?_))
 refine sS ?_
 refine awp_seq (awp_cond (b := false) (by simp [go_sem]) (fun h => ?_) (fun h => ?_))
 ·cases h
 refine awp_exit (then_exit (then_exit (inBlock_hit (sS ?_))))
 refine awp_ret (eR ?_)
 exact ⟨by simp [go_sem, hd], by simp [go_sem]⟩

set_option maxHeartbeats 2000000 in
theorem c_CloneN (d : D) (hne : d.kids ≠ []) (hl : d.kids.length ≤ 100000000) (ih : ∀ x, x ∈ d.kids → ∀ τ : Store, ACalls Tryz.prog 84 [.pv (enc x)] τ (fun r τ' => r = (lay τ.objs.length x).av ∧ τ' = { τ with objs := τ.objs ++ lobjs τ.objs.length x })) (σ : Store) : ACalls Tryz.prog 84 [.pv (enc d)] σ (fun r σ' => r = (lay σ.objs.length d).av ∧ σ' = { σ with objs := σ.objs ++ lobjs σ.objs.length d }) := by
 refine acalls_of tyOk Tryz.func84 rfl (by simp [Tryz.f84]) ?_
 refine sS ?_
 refine sG ?_
 refine aT 2 ?_
 refine al_callW rfl rfl rfl (by simp [go_sem] <;> rfl) call127 (c_SlClone d.kids hne hl _) (by simp [go_sem] <;> rfl) (by simp [go_sem]) rfl rfl ?_
 rintro r σ' ⟨rfl, rfl⟩
 refine aT 2 ?_
 refine al_nil (awp_seq (sS ?_))
 refine awp_block (awp_loop_headJL 2 [1, 2, 10] (fun k : Nat => [(11, .pv (.int .i64 ↑k))]) (fun k => clS σ d.kids k) (fun k => k ≤ d.kids.length) (fun k => d.kids.length - k) 0 (Nat.zero_le _) ⟨(by simp [go_sem, clS, clC_zero, lobjss, lays, AD.arrss]), rfl, by simp [go_sem], by simp [go_sem]⟩ ?_)
 intro k hk
 refine sS ?_
 refine awp_seq (awp_cond (by first | rfl | (simp [go_sem, clS_get] <;> rfl)) (fun h0 => ?_) (fun h0 => ?_))
 ·have hlt : k < d.kids.length := by simp at h0; omega
  have hw : IntKind.i64.wrap (↑k + 1) = (k : Int) + 1 := wrap_succ (by omega)
  obtain ⟨x, hx, hxm⟩ := get_lt hlt
  have hcd := clC_drop (n := σ.objs.length) hx
  refine awp_skip (awp_seq (awp_block (sA (by simp [go_sem, hlt] <;> rfl) ?_)))
  refine awp_regDP tyOk tySz 9 (by kernel_rfl) (by decide) ?_
  refine ul_run 8 (by simp [go_sem, clS_get, hcd, hlt] <;> rfl) ?_
  refine ul_callW (by rintro _ _ ⟨_, rfl⟩ o ob ho; exact (List.getElem?_append_left (List.getElem?_eq_some_iff.1 ho).1).trans ho) rfl rfl rfl rfl (by simp [go_sem] <;> rfl) call84 (ih x hxm (clS σ d.kids k)) (by simp [go_sem] <;> rfl) (by simp [go_sem]) rfl rfl ⟨_, _, rfl, rfl⟩ ?_
  rintro r σ' ⟨rfl, rfl⟩
  refine ul_nil ?_
  refine aL 1 (by simp [go_sem, hlt] <;> rfl) ?_
  refine al_cloneStore tyOk hx rfl rfl rfl rfl rfl (by simp [go_sem]) (by simp [go_sem]) rfl ?_
  refine al_nil (aS ?_)
  exact ⟨k + 1, hlt, (by show _ - _ < _ - _; omega), rfl, rfl, by simp [go_sem, hw], by simp [go_sem]⟩
 ·have hke : k = d.kids.length := by simp at h0; omega
  subst hke
  refine awp_exit (then_exit (then_exit (inBlock_hit (sS ?_))))
  refine awp_ret (eR ?_)
  exact ⟨by rw [lay_av_node hne]; simp [go_sem], by exact clS_all hne⟩

theorem c_Clone (d : D) (hs : d.size ≤ 100000000) (σ : Store) : ACalls Tryz.prog 84 [.pv (enc d)] σ (fun r σ' => r = (lay σ.objs.length d).av ∧ σ' = { σ with objs := σ.objs ++ lobjs σ.objs.length d }) := by
  induction d using D.ind generalizing σ with
  | _ k n t l ih =>
    by_cases hk : l = []
    · refine (c_CloneE (D.mk k n t l) hk σ).mono ?_
      rintro _ _ ⟨rfl, rfl⟩
      exact ⟨(lay_av_leaf (d := D.mk k n t l) hk).symm, by rw [lobjs_eq, if_pos (by exact hk), List.append_nil]⟩
    · have hl := D.kids_length_lt (D.mk k n t l)
      refine c_CloneN (D.mk k n t l) hk (by omega) (fun x hx τ => ih x hx ?_ τ) σ
      have := D.size_kid_lt (d := D.mk k n t l) hx
      omega

end Go.Proofs.YtigideidmcmfbaaGreatDoor

namespace Go.Proofs.YtigideidmcmfbaaGreatDoor
open Go Go.Aw
variable {kr : KR}
set_option maxHeartbeats 1000000 in
theorem c_where (d : D) (hd : d.size ≤ 100000000) (n : Int) (h0n : 0 ≤ n) (hnn : n ≤ 1000000000) : Pur Tryz.prog (GL kr) 124 [.pv (enc d), .pv (.int .i64 n)] (.pv (.slice (ipv (whereP d n)))) := by
 have hsl := syn_len d
 refine pur_of fun σ hgl => ?_
 refine acalls_of tyOk Tryz.func124 rfl (by simp [Tryz.f124]) ?_
 refine sS ?_
 refine awp_seq (sG ?_)
 refine aT 1 ?_
 refine aG call99 ((c_Kind d (by omega)) _ (by exact hgl)) ?_
 refine al_nil (awp_block (sS ?_))
 refine aC (fun h0 => ?_) (fun h0 => ?_)
 ·have hk : synKind d = 6 := by simpa using h0
  have hP : whereP d n = [1] := by unfold whereP; rw [hk]; rfl
  refine sS ?_
  refine awp_ret (inBlock_ret (then_ret (eR ?_)))
  exact ⟨by simp [go_sem, hP, ipv], by simp [go_sem]⟩
 ·have hk6 : ¬ synKind d = 6 := by simpa using h0
  refine sS ?_
  refine aC (fun h1 => ?_) (fun h1 => ?_)
  ·have hk : synKind d = 7 := by simpa using h1
   have hlen := hsl.1 (by omega)
   obtain ⟨x1, hx1, hx1m⟩ := get_lt (l := d.kids) (k := 1) (by omega)
   have hd1 : d1 d.kids = x1 := getD_of hx1
   have hx1s := D.size_kid_lt hx1m
   have hx1l := D.kids_length_lt x1
   have hrk := hsl.2.2 hk
   rw [hd1] at hrk
   have hw7 : whereP d n = (if n < (x1.kids.length : Int) then [1, n, 0] else whrL x1.kids (n - (x1.kids.length : Int)) 0) := by unfold whereP; rw [hk, hd1]; rfl
   refine sA (by simp [go_sem, hx1] <;> rfl) ?_
   refine awp_seq (sS ?_)
   refine awp_cond (by first | rfl | (simp [go_sem, hx1] <;> rfl)) (fun h2 => ?_) (fun h2 => ?_)
   ·have hlt0 : n < (x1.kids.length : Int) := by simpa using h2
    have hP : whereP d n = [1, n, 0] := by rw [hw7, if_pos hlt0]
    refine sS ?_
    refine awp_ret (then_ret (inBlock_ret (then_ret (eR ?_))))
    exact ⟨by simp [go_sem, hP, ipv], by simp [go_sem]⟩
   ·have hge0 : ¬ n < (x1.kids.length : Int) := by simpa using h2
    rw [if_neg hge0] at hw7
    have hws : IntKind.i64.wrap (n - (x1.kids.length : Int)) = n - (x1.kids.length : Int) := wrap_id (by omega) (by omega)
    refine awp_skip (sA (by simp [go_sem, hws] <;> rfl) ?_)
    refine sS ?_
    refine awp_block (awp_loop_headK σ.objs.length σ.toks.length 1 [4, 31, 32] (fun q : Nat × Int => [(1, .pv (.int .i64 q.2)), (33, .pv (.int .i64 (q.1 : Int)))]) (fun q => σ) (fun q => q.1 ≤ x1.kids.length ∧ 0 ≤ q.2 ∧ q.2 ≤ 1000000000 ∧ whrL (x1.kids.drop q.1) q.2 q.1 = whrL x1.kids (n - (x1.kids.length : Int)) 0) (fun q => x1.kids.length - q.1) (0, n - (x1.kids.length : Int)) (⟨Nat.zero_le _, by show 0 ≤ n - _; omega, by show n - _ ≤ _; omega, rfl⟩) ⟨by simp [go_sem], rfl, by simp, by simp, by simp [go_sem], fun ob h => .inl (by simpa [go_sem, hx1, hws, hws] using h), by simp [go_sem]⟩ ?_)
    intro q hq
    refine sS ?_
    refine awp_seq (awp_cond (by first | rfl | (simp [go_sem, hx1, hws] <;> rfl)) (fun h3 => ?_) (fun h3 => ?_))
    ·have hlt : q.1 < x1.kids.length := by simp at h3; omega
     obtain ⟨x, hx, hxm⟩ := get_lt hlt
     have hl3 := hrk x hxm
     have hz0 := D.size_kid_lt hxm
     obtain ⟨y1, hy1, hy1m⟩ := get_lt (l := x.kids) (k := 1) (by omega)
     have hyd1 : d1 x.kids = y1 := getD_of hy1
     have hz1 := D.size_kid_lt hy1m
     have hz3 := D.kids_length_lt y1
     have hpl : ((parS x).length : Int) = (y1.kids.length : Int) := by unfold parS; rw [hyd1, List.length_map]
     have hdr : x1.kids.drop q.1 = x :: x1.kids.drop (q.1 + 1) := by rw [List.drop_eq_getElem_cons hlt]; congr 1; exact (List.getElem?_eq_some_iff.1 hx).2
     have hw : IntKind.i64.wrap ((q.1 : Int) + 1) = (q.1 : Int) + 1 := wrap_succ (by omega)
     refine awp_skip (awp_seq (awp_block (sA (by simp [go_sem, hx] <;> rfl) ?_)))
     refine awp_seq (sA (by simp [go_sem, hy1] <;> rfl) ?_)
     refine sS ?_
     refine awp_cond (by first | rfl | (simp [go_sem, hx1, hws, hx, hy1] <;> rfl)) (fun h4 => ?_) (fun h4 => ?_)
     ·have hgn : ((parS x).length : Int) ≤ q.2 := by have h := h4; rw [hpl]; simpa using h
      have hws2 : IntKind.i64.wrap (q.2 - (y1.kids.length : Int)) = q.2 - (y1.kids.length : Int) := wrap_id (by omega) (by omega)
      refine sA (by simp [go_sem, hws2] <;> rfl) ?_
      refine awp_exit (then_exit (inBlock_hit (aS ?_)))
      exact next_intro ((q.1 + 1, q.2 - (y1.kids.length : Int))) σ.objs.length σ.toks.length 1 (⟨hlt, by show 0 ≤ q.2 - _; omega, by show q.2 - _ ≤ _; omega, by show whrL _ (q.2 - _) (q.1 + 1) = _; rw [← hq.2.2.2, hdr, whrL, if_pos hgn, hpl]⟩) (by show x1.kids.length - (q.1 + 1) < x1.kids.length - q.1; omega) ⟨by simp [go_sem], rfl, by simp, by simp, by simp [go_sem, hw], fun ob h => .inl (by simpa [go_sem, hx1, hws, hx, hy1, hws2, hw] using h), by simp [go_sem]⟩
     ·have hgn : ¬ ((parS x).length : Int) ≤ q.2 := by have h := h4; rw [hpl]; simpa using h
      have hP : whereP d n = [1, (q.1 : Int), 1, q.2] := by rw [hw7, ← hq.2.2.2, hdr, whrL, if_neg hgn]
      refine awp_skip (sS ?_)
      refine awp_ret (inBlock_ret (then_ret (then_ret (inBlock_ret (inBlock_ret (then_ret (eR ?_)))))))
      exact ⟨by simp [go_sem, hP, ipv], by simp [go_sem]⟩
    ·have hke : q.1 = x1.kids.length := by simp at h3; omega
     have hP : whereP d n = [1, q.2] := by rw [hw7, ← hq.2.2.2, hke, List.drop_length]; rfl
     refine awp_exit (then_exit (then_exit (inBlock_hit (sS ?_))))
     refine awp_ret (eR ?_)
     exact ⟨by simp [go_sem, hP, ipv], by simp [go_sem]⟩
  ·have hk7 : ¬ synKind d = 7 := by simpa using h1
   have hP : whereP d n = [1, n] := by unfold whereP; rw [if_neg (by simpa using hk6), if_neg (by simpa using hk7)]
   refine awp_skip (sS ?_)
   refine awp_ret (eR ?_)
   exact ⟨by simp [go_sem, hP, ipv], by simp [go_sem]⟩

theorem ipv_get {p : List Int} {k : Nat} {i : Int} (h : p[k]? = some i) : (ipv p)[k]? = some (.int .i64 i) := by unfold ipv; rw [List.getElem?_map, h]; rfl
set_option maxHeartbeats 1000000 in
theorem c_atE (t : AD) (ob : Nat) (σ : Store) : ACalls Tryz.prog 122 [.pv (.nils), .ptr ob 0] σ (fun r σ' => r = .ptr (AD.loc (ob, 0) t []).1 (AD.loc (ob, 0) t []).2 ∧ σ' = σ) := by
 refine acalls_of tyOk Tryz.func122 rfl (by simp [Tryz.f122]) ?_
 refine sS ?_
 refine sS ?_
 refine awp_seq (sS ?_)
 refine awp_block (awp_loopL (awpL_round ?_))
 refine sS ?_
 refine awp_seq (awp_cond (b := false) (by simp [go_sem]) (fun h => ?_) (fun h => ?_))
 ·cases h
 refine awp_exit (then_exit (then_exit (inBlock_hit (sS ?_))))
 refine awp_ret (eR ?_)
 exact ⟨by simp [go_sem, AD.loc], by simp [go_sem]⟩

set_option maxHeartbeats 1000000 in
theorem c_atN (t u : AD) (p : List Int) (hp : p.length ≤ 1000000000) (ob : Nat) (σ : Store) (hU : HasU σ (rootU ob t)) (hu : t.sub p = some u) : ACalls Tryz.prog 122 [.pv (.slice (ipv p)), .ptr ob 0] σ (fun r σ' => r = .ptr (AD.loc (ob, 0) t p).1 (AD.loc (ob, 0) t p).2 ∧ σ' = σ) := by
 refine acalls_of tyOk Tryz.func122 rfl (by simp [Tryz.f122]) ?_
 refine sS ?_
 refine sS ?_
 refine awp_seq (sA (by simp [go_sem, ipv_len] <;> rfl) ?_)
 refine awp_block (awp_loop_headJ [3, 7, 8] (fun k : Nat => [(4, .ptr (AD.loc (ob, 0) t (p.take k)).1 (AD.loc (ob, 0) t (p.take k)).2), (9, .pv (.int .i64 ↑k))]) (fun k => σ) (fun k => k ≤ p.length) (fun k => p.length - k) 0 (Nat.zero_le _) ⟨rfl, rfl, by simp [go_sem, AD.loc, List.take_zero]⟩ ?_)
 intro k hk
 refine sS ?_
 refine awp_seq (awp_cond (by first | rfl | (simp [go_sem, ipv_len] <;> rfl)) (fun h0 => ?_) (fun h0 => ?_))
 ·have hlt : k < p.length := by simp at h0; omega
  have hw : IntKind.i64.wrap (↑k + 1) = (k : Int) + 1 := wrap_succ (by omega)
  obtain ⟨x, hx, hxm⟩ := get_lt hlt
  obtain ⟨v, c, hv, hx0, hvc, hxl, hkv, hnx⟩ := AD.sub_take hu hx (ob, 0)
  obtain ⟨cells, rest, hce, hcd⟩ := AD.loc_load hU hv
  have hxi := ipv_get hx
  refine awp_skip (awp_seq (awp_block (sA (by simp [go_sem, hxi] <;> rfl) ?_)))
  refine aR (by simp [go_sem, hce, hcd, hx0, hxl, hkv] <;> rfl) ?_
  refine aS ?_
  exact ⟨k + 1, hlt, (by show _ - _ < _ - _; omega), rfl, rfl, by simp [go_sem, hnx, hw]⟩
 ·have hke : k = p.length := by simp at h0; omega
  subst hke
  refine awp_exit (then_exit (then_exit (inBlock_hit (sA (by simp [go_sem, List.take_length] <;> rfl) ?_))))
  refine awp_ret (eR ?_)
  exact ⟨by simp [go_sem], by simp [go_sem]⟩

theorem c_at (t u : AD) (p : List Int) (hp : p.length ≤ 1000000000) (ob : Nat) (σ : Store) (hU : HasU σ (rootU ob t)) (hu : t.sub p = some u) : ACalls Tryz.prog 122 [.pv (wPV p), .ptr ob 0] σ (fun r σ' => r = .ptr (AD.loc (ob, 0) t p).1 (AD.loc (ob, 0) t p).2 ∧ σ' = σ) := by
  by_cases h : p = []
  · subst h; exact c_atE t ob σ
  · have e : wPV p = .slice (ipv p) := by unfold wPV; rw [if_neg h]; rfl
    rw [e]; exact c_atN t u p hp ob σ hU hu

end Go.Proofs.YtigideidmcmfbaaGreatDoor

namespace Go.Proofs.YtigideidmcmfbaaGreatDoor
open Go Go.Aw
variable {kr : KR}
set_option maxHeartbeats 4000000 in
theorem c_rnNames {Sg : Type} {e : D} {ob m0 oto oat : Nat} {XR : List (Nat × AObj)} {ms : Sg → List (Nat × AObj)} {mk : List Nat} {X : List (Nat × AObj)} {tf : FuncId} {tc : List AV} {to : List Int → Int → ByteArray → Sg → ByteArray × Sg} {GT : Nat → Sg → Prop} (H : RnH Tryz.prog (GL kr) 122 e ob m0 oto oat XR ms mk X tf tc to GT) (d : D) (p : List Int) (ns : List ByteArray) (n : Int) (m : Nat) (s : D × Sg) (σ : Store) (hd : d.size ≤ 100000000) (hp : p.length ≤ 400000000) (hs : s.1.er = e.er) (hg : GT m s.2) (hm : m + ns.length ≤ 1000000000) (hsub : e.sub p = some d) (hnm : NmOk d ns n) (hgl : σ.gl = (GL kr)) (hU : HasU σ (UR ob m0 ms s)) (hX : HasU σ XR) : ACalls Tryz.prog 123 [.pv (enc d), .pv (wPV p), .pv (.slice (ns.map .str)), .pv (.int .i64 n), .ptr oto 0, .ptr oat 0] σ (fun r σ' => r = .pv (.slice ((namR to d p ns n s).1.map .str)) ∧ σ' = updS σ (UR ob m0 ms (namR to d p ns n s).2)) := by
 have hnb := nmok_bound hnm
 have hsK : (namR to d p ns n s).2.1.er = e.er := (nmK_er to d p ns n s ns.length (Nat.le_refl _)).trans hs
 refine updAtW (H.clo hsK fun i hi => H.lt hs hU hi) ?_
 refine acalls_of tyOk Tryz.func123 rfl (by simp [Tryz.f123]) ?_
 refine sS ?_
 refine sS ?_
 refine awp_seq (sS ?_)
 refine awp_adopt' 11 9 1 (by simp [go_sem] <;> rfl) ?_
 refine awp_block (awp_loop_headJL 1 [1, 3, 4, 5, 6, 10, 15, 16] (fun k : Nat => [(11, .acc ((nmK to d p ns n s k).1.map .str) σ.toks.length), (17, .pv (.int .i64 ↑k))]) (fun k => updS { σ with toks := σ.toks ++ [⟨k, 9, 1⟩] } (UR ob m0 ms (nmK to d p ns n s k).2)) (fun k => k ≤ ns.length) (fun k => ns.length - k) 0 (Nat.zero_le _) ⟨(by simp [go_sem, nmK_zero]; exact updS_self hU), rfl, by simp [go_sem, nmK_zero], by simp [go_sem]⟩ ?_)
 intro k hk
 refine sS ?_
 refine awp_seq (awp_cond (by first | rfl | (simp [go_sem, updS_gl, updS_tk] <;> rfl)) (fun h0 => ?_) (fun h0 => ?_))
 ·have hlt : k < ns.length := by simp at h0; omega
  have hw : IntKind.i64.wrap (↑k + 1) = (k : Int) + 1 := wrap_succ (by omega)
  obtain ⟨x, hx, hxm⟩ := get_lt hlt
  have hkl := Nat.le_of_lt hlt
  have hek : (nmK to d p ns n s k).2.1.er = e.er := (nmK_er to d p ns n s k hkl).trans hs
  have hgk : GT (m + k) (nmK to d p ns n s k).2.2 := nmK_snd to d p ns n s GT H.T.gt m hg k hkl
  have hlk := nmK_len to d p ns n s k hkl
  obtain ⟨hw1, hw2, u0, hu0, hut⟩ := where_sub hnm hx
  have hsp : e.sub (p ++ whereP d (n + (k : Int))) = some u0 := by rw [D.sub_append, hsub]; exact hu0
  obtain ⟨u1, hu1, _⟩ := D.sub_of_er hek hsp
  obtain ⟨u2, hu2, _⟩ := lay_sub _ _ m0 hu1
  have hUt : HasU { σ with toks := σ.toks ++ [⟨k, 9, 1⟩] } (UR ob m0 ms s) := hU
  have hUk := H.has (σ := { σ with toks := σ.toks ++ [⟨k, 9, 1⟩] }) hs hek hU
  have hXk := H.hasX (σ := { σ with toks := σ.toks ++ [⟨k, 9, 1⟩] }) hek hX
  have hU2 := H.has (σ := { σ with toks := σ.toks ++ [⟨k, 9, 1⟩] }) (s' := ((nmK to d p ns n s k).2.1, (to p (n + (k : Int)) x (nmK to d p ns n s k).2.2).2)) hs hek hU
  have hX2 := H.hasX (σ := { σ with toks := σ.toks ++ [⟨k, 9, 1⟩] }) (s' := ((nmK to d p ns n s k).2.1, (to p (n + (k : Int)) x (nmK to d p ns n s k).2.2).2)) hek hX
  have f1 := hXk _ H.hto
  have f2 := hX2 _ H.hat
  simp only at f1 f2
  have hwn : IntKind.i64.wrap (n + (k : Int)) = n + (k : Int) := wrap_id (by omega) (by omega)
  have hb2 : (k + 1) * 16 ≤ 140737488355328 := by omega
  have hnx := nmK_next to (d := d) (p := p) (n := n) (s := s) hx
  unfold nmStep at hnx
  refine awp_skip (awp_seq (awp_block (sA (by simp [go_sem, hx] <;> rfl) ?_)))
  refine sG ?_
  refine aL 6 (by simp [go_sem, f1, hwn] <;> rfl) ?_
  refine al_callW rfl rfl rfl (by simp [go_sem] <;> rfl) H.T.ct (H.T.ht p (n + (k : Int)) x (m + k) (nmK to d p ns n s k).2.2 _ (by omega) (sub_pth H.hes hsub) (by omega) (by omega) hgk (by omega) (by exact hgl) (fun q hq => hUk q (List.mem_append_right _ hq)) (fun q hq => hXk q (H.hXX q hq))) (by simp [go_sem] <;> rfl) (by simp [go_sem]) (by simp [go_sem, H.T.nlt]) rfl ?_
  rintro r σ' ⟨rfl, rfl⟩
  rw [H.afterTo (σ := { σ with toks := σ.toks ++ [⟨k, 9, 1⟩] }) (s0 := s) hs hek hU]
  refine aT 1 ?_
  refine al_nil (sA (by simp [go_sem, updS_gl, updS_tk, hlk, hb2] <;> rfl) ?_)
  refine awp_regDP tyOk tySz 10 (by kernel_rfl) (by decide) ?_
  refine ul_run 6 (by simp [go_sem, f2, hwn] <;> rfl) ?_
  refine ul_fn (by first | (intro _ _ hh; exact hh) | simp [go_sem]) rfl rfl rfl rfl (by simp [go_sem] <;> rfl) call124 ((c_where d hd (n + (k : Int)) (by omega) (by omega)) _ (by exact hgl)) (by simp [go_sem] <;> rfl) (by simp [go_sem]) rfl rfl ?_
  refine ul_fn (by first | (intro _ _ hh; exact hh) | simp [go_sem]) rfl rfl rfl rfl (by simp [go_sem] <;> rfl) call101 ((c_joinW p (whereP d (n + (k : Int))) (by omega) (by omega) hw1) _ (by exact hgl)) (by simp [go_sem] <;> rfl) (by simp [go_sem]) rfl rfl ?_
  refine ul_fn (by first | (intro _ _ hh; exact hh) | simp [go_sem]) rfl rfl rfl rfl (by simp [go_sem] <;> rfl) call122 (c_at (lay m0 (nmK to d p ns n s k).2.1) u2 (p ++ whereP d (n + (k : Int))) (by rw [List.length_append]; omega) ob _ (UR_tree (s := ((nmK to d p ns n s k).2.1, (to p (n + (k : Int)) x (nmK to d p ns n s k).2.2).2)) hU2) hu2) (by simp [go_sem] <;> rfl) (by simp [go_sem]) rfl rfl ?_
  refine ul_run 1 (by simp [go_sem] <;> rfl) ?_
  refine ul_nil ?_
  refine aT 2 ?_
  refine al_textStore (ob := ob) (m0 := m0) (ms := ms) (x := ((nmK to d p ns n s k).2.1, (to p (n + (k : Int)) x (nmK to d p ns n s k).2.2).2)) (p := p ++ whereP d (n + (k : Int))) (b := (to p (n + (k : Int)) x (nmK to d p ns n s k).2.2).1) H.T.hmk (H.nd hek) hU2 hu1 tyOk rfl rfl rfl rfl rfl (by simp [go_sem]) (by simp [go_sem]) ?_
  refine al_nil (aS ?_)
  exact ⟨k + 1, hlt, (by show _ - _ < _ - _; omega), (by show updS _ (UR ob m0 ms (nmK to d p ns n s (k + 1)).2) = _; rw [hnx]; simp only [go_sem]; exact (updS_toks (H.keys hek _) (H.keys (by rw [D.er_setText]; exact hek) _) H.hn).symm), rfl, by simp [go_sem, hw, hnx], by simp [go_sem]⟩
 ·have hke : k = ns.length := by simp at h0; omega
  subst hke
  refine awp_exit (then_exit (then_exit (inBlock_hit (sS ?_))))
  refine awp_ret (eR ?_)
  refine ⟨by simp [go_sem, namR], ?_⟩
  show Store.cut (updS ⟨σ.gl, σ.objs, _⟩ _) _ _ = _
  have := updS_cut (σ := σ) (U := UR ob m0 ms (namR to d p ns n s).2) (B := []) (tk := σ.toks ++ [⟨ns.length, 9, 1⟩]) (fun q hq => H.lt hs hU (by rw [← H.keys' hsK]; exact List.mem_map.2 ⟨q, hq, rfl⟩)) (by simp)
  rw [List.append_nil] at this
  exact this

set_option maxHeartbeats 1000000 in
theorem c_rnVarN {Sg : Type} {e : D} {ob m0 oto oat : Nat} {XR : List (Nat × AObj)} {ms : Sg → List (Nat × AObj)} {mk : List Nat} {X : List (Nat × AObj)} {tf : FuncId} {tc : List AV} {to : List Int → Int → ByteArray → Sg → ByteArray × Sg} {GT : Nat → Sg → Prop} (H : RnH Tryz.prog (GL kr) 122 e ob m0 oto oat XR ms mk X tf tc to GT) (d : D) (p : List Int) (s : D × Sg) (σ : Store) (hd : d.size ≤ 100000000) (hp : p.length ≤ 400000000) (hs : s.1.er = e.er) (hsub : e.sub p = some d) (hgl : σ.gl = (GL kr)) (hU : HasU σ (UR ob m0 ms s)) (hX : HasU σ XR) : ACalls Tryz.prog 125 [.pv (enc d), .pv (wPV p), .pv (.str ⟨#[]⟩), .pv (.bool false), .ptr oat 0] σ (fun r σ' => r = .tuple [] ∧ σ' = updS σ (UR ob m0 ms (varR d p none s))) := by
 have hself : updS σ (UR ob m0 ms (varR d p none s)) = σ := updS_self hU
 rw [hself]
 refine acalls_of tyOk Tryz.func125 rfl (by simp [Tryz.f125]) ?_
 refine sS ?_
 refine sS ?_
 refine aC (fun h0 => ?_) (fun h0 => ?_)
 ·cases h0
 ·refine awp_skip (ends_normal (by simp [go_sem] <;> rfl) (by simp [go_sem]) ?_)
  exact ⟨rfl, by simp [go_sem]⟩

set_option maxHeartbeats 1000000 in
theorem c_rnVarS {Sg : Type} {e : D} {ob m0 oto oat : Nat} {XR : List (Nat × AObj)} {ms : Sg → List (Nat × AObj)} {mk : List Nat} {X : List (Nat × AObj)} {tf : FuncId} {tc : List AV} {to : List Int → Int → ByteArray → Sg → ByteArray × Sg} {GT : Nat → Sg → Prop} (H : RnH Tryz.prog (GL kr) 122 e ob m0 oto oat XR ms mk X tf tc to GT) (d : D) (p : List Int) (s : D × Sg) (σ : Store) (hd : d.size ≤ 100000000) (hp : p.length ≤ 400000000) (hs : s.1.er = e.er) (hsub : e.sub p = some d) (hgl : σ.gl = (GL kr)) (hU : HasU σ (UR ob m0 ms s)) (hX : HasU σ XR) (b : ByteArray) : ACalls Tryz.prog 125 [.pv (enc d), .pv (wPV p), .pv (.str b), .pv (.bool true), .ptr oat 0] σ (fun r σ' => r = .tuple [] ∧ σ' = updS σ (UR ob m0 ms (varR d p (some b) s))) := by
 obtain ⟨u1, hu1, _⟩ := D.sub_of_er hs hsub
 obtain ⟨u2, hu2, _⟩ := lay_sub _ _ m0 hu1
 have f2 := hX _ H.hat
 simp only at f2
 have hes : (s.1.setText p b).er = e.er := (D.er_setText _ _ _).trans hs
 refine updAtW (V := UR ob m0 ms (s.1.setText p b, s.2)) (H.clo hes fun i hi => H.lt hs hU hi) ?_
 refine acalls_of tyOk Tryz.func125 rfl (by simp [Tryz.f125]) ?_
 refine sS ?_
 refine sS ?_
 refine awp_cond (by first | rfl | (simp [go_sem, updS_gl, updS_tk, f2] <;> rfl)) (fun h0 => ?_) (fun h0 => ?_)
 ·refine awp_reg ?_
  refine aL 2 (by simp [go_sem, f2] <;> rfl) ?_
  refine al_fn rfl rfl rfl (by simp [go_sem] <;> rfl) call122 (c_at (lay m0 s.1) u2 p (by omega) ob _ (UR_tree hU) hu2) (by simp [go_sem] <;> rfl) (by simp [go_sem]) rfl rfl ?_
  refine aT 3 ?_
  refine al_textStore (ob := ob) (m0 := m0) (ms := ms) (x := s) (p := p) (b := b) H.T.hmk (H.nd hs) hU hu1 tyOk rfl rfl rfl rfl rfl (by simp [go_sem]) (by simp [go_sem]) ?_
  refine al_nil (ends_normal (by simp [go_sem] <;> rfl) (by simp [go_sem]) ?_)
  refine ⟨by simp [go_sem], ?_⟩
  have := updS_cut (σ := σ) (U := UR ob m0 ms (s.1.setText p b, s.2)) (B := []) (tk := σ.toks) (fun q hq => H.lt hs hU (by rw [← H.keys' (s := (s.1.setText p b, s.2)) (by first | exact hs | exact (D.er_setText _ _ _).trans hs)]; exact List.mem_map.2 ⟨q, hq, rfl⟩)) (by simp)
  rw [List.append_nil] at this
  exact this
 ·cases h0

theorem c_rnVar {Sg : Type} {e : D} {ob m0 oto oat : Nat} {XR : List (Nat × AObj)} {ms : Sg → List (Nat × AObj)} {mk : List Nat} {X : List (Nat × AObj)} {tf : FuncId} {tc : List AV} {to : List Int → Int → ByteArray → Sg → ByteArray × Sg} {GT : Nat → Sg → Prop} (H : RnH Tryz.prog (GL kr) 122 e ob m0 oto oat XR ms mk X tf tc to GT) (d : D) (p : List Int) (s : D × Sg) (σ : Store) (hd : d.size ≤ 100000000) (hp : p.length ≤ 400000000) (hs : s.1.er = e.er) (hsub : e.sub p = some d) (hgl : σ.gl = (GL kr)) (hU : HasU σ (UR ob m0 ms s)) (hX : HasU σ XR) (b : Option ByteArray) : ACalls Tryz.prog 125 [.pv (enc d), .pv (wPV p), .pv ((b.map PV.str).getD (.str ⟨#[]⟩)), .pv (.bool b.isSome), .ptr oat 0] σ (fun r σ' => r = .tuple [] ∧ σ' = updS σ (UR ob m0 ms (varR d p b s))) := by
  cases b with
  | none => exact c_rnVarN H d p s σ hd hp hs hsub hgl hU hX
  | some b => exact c_rnVarS H d p s σ hd hp hs hsub hgl hU hX b

end Go.Proofs.YtigideidmcmfbaaGreatDoor

namespace Go.Proofs.YtigideidmcmfbaaGreatDoor
open Go Go.Aw
variable {kr : KR}
theorem rn_clo {Sg : Type} {ms : Sg → List (Nat × AObj)} {mk : List Nat} {X : List (Nat × AObj)} {tf : FuncId} {tc : List AV} {to : List Int → Int → ByteArray → Sg → ByteArray × Sg} {GT : Nat → Sg → Prop} (T : ToH Tryz.prog (GL kr) ms mk X tf tc to GT) {σ : Store} (htc : AV.clos σ.objs.length σ.toks.length 0 tc = true) {st st2 : Sg} (hms : HasU σ (ms st)) {e e2 : D} (hs : msz e2 = msz e) :
    ∀ ob, ob ∈ (updS σ (ms st2)).objs ++ AObj.box [.func (.func tf) tc] :: lobjs (σ.objs.length + 1) e2 → ob ∈ σ.objs ∨ ob.clo (σ.objs.length + 1 + msz e) σ.toks.length 0 = true := by
  have hlt : ∀ i, i ∈ mk → i < σ.objs.length + 1 + msz e := by
    intro i hi
    rw [← T.hmk st] at hi
    obtain ⟨q, hq, rfl⟩ := List.mem_map.1 hi
    have := hms.lt hq; omega
  intro ob hob
  rcases List.mem_append.1 hob with h | h
  · rcases setAll_mem h with h | ⟨q, hq, rfl⟩
    · exact .inl h
    · exact .inr (T.hcl _ _ _ hlt q hq)
  · rcases List.mem_cons.1 h with rfl | h
    · refine .inr ?_
      show AV.clos _ _ _ [.func (.func tf) tc] = true
      simp only [AV.clos, AV.clo, Bool.and_true]
      exact AV.clos_mono (by omega) (Nat.le_refl _) (Nat.le_refl _) _ htc
    · exact .inr ((lay_arrs_clo (by omega)).1 ob h)

set_option maxHeartbeats 4000000 in
theorem c_rename {Sg : Type} {ms : Sg → List (Nat × AObj)} {mk : List Nat} {X : List (Nat × AObj)} {tf : FuncId} {tc : List AV} {to : List Int → Int → ByteArray → Sg → ByteArray × Sg} {GT : Nat → Sg → Prop} (T : ToH Tryz.prog (GL kr) ms mk X tf tc to GT) (e : D) (he : e.size ≤ 100000000) (st : Sg) (h0 : GT 0 st) (hb : ncnt e ≤ 1000000000) (σ : Store) (htc : AV.clos σ.objs.length σ.toks.length 0 tc = true) (hgl : σ.gl = (GL kr)) (hms : HasU σ (ms st)) (hX : HasU σ X) : ACalls Tryz.prog 81 [.pv (enc e), .func (.func tf) tc] σ (fun r σ' => r = (lay (σ.objs.length + 1) (rnRes to e st).1).av ∧ σ' = (⟨σ.gl, (updS σ (ms (rnRes to e st).2)).objs ++ AObj.box [.func (.func tf) tc] :: lobjs (σ.objs.length + 1) (rnRes to e st).1, σ.toks⟩ : Store)) := by
 have hnlt := T.nlt
 have hrs0 : msz (rnRes to e st).1 = msz e := by rw [← msz_er, rnRes_er, msz_er]
 refine ACalls.keepTo (σ.objs.length + 1 + msz e) (by omega) ?_ ?_
 · exact rn_clo T htc hms hrs0
 refine acalls_of tyOk Tryz.func81 rfl (by simp [Tryz.f81]) ?_
 refine awp_seq (awp_region_run (sh := [3]) tyOk (by simp [go_sem, hnlt] <;> rfl) ?_)
 refine sG ?_
 refine al_run 1 (sh := [5]) tyOk (by simp [go_sem] <;> rfl) ?_
 refine al_callW rfl rfl rfl (by simp [go_sem] <;> rfl) call84 (c_Clone e he _) (by simp [go_sem] <;> rfl) (by simp [go_sem]) rfl rfl ?_
 rintro r σ' ⟨rfl, rfl⟩
 refine al_run 2 (sh := [5]) tyOk (by simp [go_sem, AD.av_cells, AD.cells_len, lay_cells_noL] <;> rfl) ?_
 refine al_nil (awp_seq ?_)
 obtain ⟨A, hA⟩ : ∃ A, A = (σ.objs ++ AObj.box [.func (.func tf) tc] :: lobjs (σ.objs.length + 1) e) := ⟨_, rfl⟩
 refine awp_weakJL 2 (s2 := ⟨[(2, .lptr 0 0), (3, .ptr σ.objs.length 0), (4, .lptr 1 0), (5, .ptr A.length 0)], [[.pv (.int .i64 e.kind), .pv (.int .i64 e.num), .pv (.str e.text), .pv (.slice (e.kids.map enc))], [.pv (.int .i64 0), .pv (.int .i64 0), .pv (.str ⟨#[]⟩), .pv .nils]], ⟨σ.gl, A ++ [.box (lay (σ.objs.length + 1) e).cells], σ.toks⟩⟩) ⟨by simp [go_sem, hA], by simp [go_sem], by simp [go_sem, hA], by simp [go_sem]⟩ ?_
 refine awp_boxArr A.length (lay (σ.objs.length + 1) e).cells (by simp) ?_
 simp only [set_snoc]
 refine awp_region_run (sh := [6]) tyOk (by simp [go_sem] <;> rfl) ?_
 refine awp_seq (awp_region_run (sh := [14]) tyOk (by simp [go_sem] <;> rfl) ?_)
 refine awp_seq ?_
 try simp only [List.append_assoc, List.cons_append, List.nil_append]
 have hAl : A.length = σ.objs.length + 1 + msz e := by rw [hA]; simp [lobjs_len]; omega
 have hmlt : ∀ i, i ∈ mk → i < σ.objs.length := by intro i hi; rw [← T.hmk st] at hi; obtain ⟨q, hq, rfl⟩ := List.mem_map.1 hi; exact hms.lt hq
 have hAg : ∀ (i : Nat) ob, σ.objs[i]? = some ob → ∀ B, (A ++ B)[i]? = some ob := fun i ob hi B => by have hlt := (List.getElem?_eq_some_iff.1 hi).1; rw [List.getElem?_append_left (by omega), hA, List.getElem?_append_left hlt]; exact hi
 have H : RnH Tryz.prog (GL kr) 122 e A.length (σ.objs.length + 1) σ.objs.length (A.length + 1) (X ++ [(σ.objs.length, AObj.box [.func (.func tf) tc]), (A.length + 1, .box [.func (.func 122) [.ptr A.length 0]]), (A.length + 2, .box [.func (.func 123) [.ptr σ.objs.length 0, .ptr (A.length + 1) 0], .func (.func 125) [.ptr (A.length + 1) 0]])]) ms mk X tf tc to GT := by
  refine ⟨T, ?_, fun q hq => ?_, fun q hq => List.mem_append_left _ hq, by simp, by simp, he⟩
  · refine List.nodup_append.2 ⟨List.nodup_cons.2 ⟨by rw [List.mem_range'_1]; omega, List.nodup_range'⟩, T.hnd, fun a ha b hb e2 => ?_⟩
    subst e2
    have := hmlt a hb
    rcases List.mem_cons.1 ha with h | h
    · omega
    · rw [List.mem_range'_1] at h; omega
  · rcases List.mem_append.1 hq with hq | hq
    · have h1 := hX.lt hq
      have h2 := T.hX q hq
      simp only [List.cons_append, List.mem_cons, List.mem_append, List.mem_range'_1, not_or]
      exact ⟨by omega, by omega, h2⟩
    · have h1 : σ.objs.length ≤ q.1 ∧ (q.1 = σ.objs.length ∨ A.length < q.1) := by simp at hq; rcases hq with rfl | rfl | rfl <;> simp <;> omega
      simp only [List.cons_append, List.mem_cons, List.mem_append, List.mem_range'_1, not_or]
      exact ⟨by omega, by omega, fun hm => by have := hmlt _ hm; omega⟩
 have HW := H.walk (ow := A.length + 2) (nf := 123) (vf := 125) (by simp) call123 call125 (c_rnNames H) (fun d p s σ h1 h2 h3 h4 h5 h6 h7 b => c_rnVar H d p s σ h1 h2 h3 h4 h5 h6 h7 b)
 have hU4 : HasU (⟨σ.gl, A ++ [AObj.arr (lay (σ.objs.length + 1) e).cells, .box [.func (.func 122) [.ptr A.length 0]], .box [.func (.func 123) [.ptr σ.objs.length 0, .ptr (A.length + 1) 0], .func (.func 125) [.ptr (A.length + 1) 0]]], σ.toks⟩ : Store) (UE e A.length (σ.objs.length + 1) ms (e, st)) := by
  rw [UE_eq (s := (e, st)) rfl]
  intro q hq
  rcases List.mem_append.1 hq with hq | hq
  · rcases List.mem_cons.1 hq with rfl | hq
    · exact get_mid rfl
    · have h3 := lay_has (σ := (⟨σ.gl, A ++ [AObj.arr (lay (σ.objs.length + 1) e).cells, .box [.func (.func 122) [.ptr A.length 0]], .box [.func (.func 123) [.ptr σ.objs.length 0, .ptr (A.length + 1) 0], .func (.func 125) [.ptr (A.length + 1) 0]]], σ.toks⟩ : Store)) (A := σ.objs ++ [.box [.func (.func tf) tc]]) (C := [AObj.arr (lay (σ.objs.length + 1) e).cells, .box [.func (.func 122) [.ptr A.length 0]], .box [.func (.func 123) [.ptr σ.objs.length 0, .ptr (A.length + 1) 0], .func (.func 125) [.ptr (A.length + 1) 0]]]) (d := e) (by simp [hA])
      rw [show (σ.objs ++ [AObj.box [.func (.func tf) tc]]).length = σ.objs.length + 1 by simp] at h3
      exact h3 q hq
  · exact hAg _ _ (hms q hq) _
 have hX4 : HasU (⟨σ.gl, A ++ [AObj.arr (lay (σ.objs.length + 1) e).cells, .box [.func (.func 122) [.ptr A.length 0]], .box [.func (.func 123) [.ptr σ.objs.length 0, .ptr (A.length + 1) 0], .func (.func 125) [.ptr (A.length + 1) 0]]], σ.toks⟩ : Store) (X ++ [(σ.objs.length, AObj.box [.func (.func tf) tc]), (A.length + 1, .box [.func (.func 122) [.ptr A.length 0]]), (A.length + 2, .box [.func (.func 123) [.ptr σ.objs.length 0, .ptr (A.length + 1) 0], .func (.func 125) [.ptr (A.length + 1) 0]])]) := by
  intro q hq
  rcases List.mem_append.1 hq with hq | hq
  · exact hAg _ _ (hX q hq) _
  · simp only [List.mem_cons, List.not_mem_nil, or_false] at hq
    rcases hq with rfl | rfl | rfl
    · show (A ++ _)[σ.objs.length]? = _
      rw [List.getElem?_append_left (by omega), hA]; exact get_mid rfl
    · show (A ++ _)[A.length + 1]? = _
      simp
    · show (A ++ _)[A.length + 2]? = _
      simp
 have hres : (rnRes to e st).1.er = e.er := rnRes_er _ _ _
 have hrsz : msz (rnRes to e st).1 = msz e := by rw [← msz_er, hres, msz_er]
 obtain ⟨A2, hA2⟩ : ∃ A2, A2 = (updS σ (ms (rnRes to e st).2)).objs ++ AObj.box [.func (.func tf) tc] :: lobjs (σ.objs.length + 1) (rnRes to e st).1 := ⟨_, rfl⟩
 have hA2l : A2.length = A.length := by rw [hA2, hAl]; simp [lobjs_len, updS_len, hrsz]; omega
 have hz : updS (⟨σ.gl, A ++ [AObj.arr (lay (σ.objs.length + 1) e).cells, .box [.func (.func 122) [.ptr A.length 0]], .box [.func (.func 123) [.ptr σ.objs.length 0, .ptr (A.length + 1) 0], .func (.func 125) [.ptr (A.length + 1) 0]]], σ.toks⟩ : Store) (UE e A.length (σ.objs.length + 1) ms (wk (namR to) varR e [] [] (e, st))) = ⟨σ.gl, A2 ++ [AObj.arr (lay (σ.objs.length + 1) (rnRes to e st).1).cells, .box [.func (.func 122) [.ptr A.length 0]], .box [.func (.func 123) [.ptr σ.objs.length 0, .ptr (A.length + 1) 0], .func (.func 125) [.ptr (A.length + 1) 0]]], σ.toks⟩ := by
  rw [show wk (namR to) varR e [] [] (e, st) = (rnRes to e st) from rfl, UE_eq hres, hA2]; exact rn_objs hA T.hmk T.hnd hms _ _ (rnRes to e st) hres _
 have hg2 : (A2 ++ [AObj.arr (lay (σ.objs.length + 1) (rnRes to e st).1).cells, .box [.func (.func 122) [.ptr A.length 0]], .box [.func (.func 123) [.ptr σ.objs.length 0, .ptr (A.length + 1) 0], .func (.func 125) [.ptr (A.length + 1) 0]]])[A.length]? = some (.arr (lay (σ.objs.length + 1) (rnRes to e st).1).cells) := get_mid hA2l
 refine awp_reg ?_
 refine aT 2 ?_
 refine al_callW rfl rfl rfl (by simp [go_sem] <;> rfl) call126 (c_walkStr HW e he [] (by simp; omega) [] 0 (by omega) (e, st) _ (by exact hgl) rfl ⟨rfl, h0⟩ hU4 hX4) (by simp [go_sem] <;> rfl) (by simp [go_sem, wPV, encScG]) rfl rfl ?_
 rintro r σ' ⟨rfl, rfl⟩
 rw [hz]
 refine al_nil (sG ?_)
 refine al_loadAv tyOk (i := A.length) (off := 0) (u := lay (σ.objs.length + 1) (rnRes to e st).1) (rest := []) rfl rfl rfl rfl rfl (by simp [go_sem]) hg2 (by simp) rfl ?_
 refine aL 1 (by simp [go_sem, AD.av_cells, AD.cells_len] <;> rfl) ?_
 refine al_nil (awp_ret ?_)
 have hw2 := (lay_arrs_clo (m := σ.objs.length + 1) (d := (rnRes to e st).1) (no := σ.objs.length + 1 + msz e) (nt := σ.toks.length) (by omega)).2
 refine ends_ret (l := [(lay (σ.objs.length + 1) (rnRes to e st).1).av]) ?_ (av_noL _) ?_
 · exact resAV_cell (i := 1) rfl rfl rfl (by simp [go_sem]) (by simp [go_sem])
 refine ⟨hw2, ?_⟩
 show Store.cut ⟨σ.gl, A2 ++ _, σ.toks⟩ _ _ = _
 rw [← hA2]
 unfold Store.cut
 simp only
 rw [List.take_left' (by rw [hA2l, hAl]), List.take_length]

end Go.Proofs.YtigideidmcmfbaaGreatDoor

namespace Go.Proofs.YtigideidmcmfbaaGreatDoor
open Go Go.Aw
variable {kr : KR}
def renZ6 : Go.Shelf.Ren := ⟨fun x => match x with | 6 => 88 | 8 => 133 | 9 => 134 | 11 => 159 | n => n, fun x => match x with | 0 => 0 | 24 => 25 | 26 => 9 | 28 => 119 | 33 => 71 | n => n, fun x => match x with | n => n⟩
theorem laysZ6 : Go.Proofs.SlLaysZ.n6 Tryz.prog renZ6 :=
  {
    mixed := by kernel_rfl,
    f6 := ⟨Tryz.f88.name, by kernel_rfl, Eq.trans Tryz.func88 (congrArg some (by kernel_rfl))⟩,
    f8 := ⟨Tryz.f133.name, by kernel_rfl, Eq.trans Tryz.func133 (congrArg some (by kernel_rfl))⟩,
    f11 := ⟨Tryz.f159.name, by kernel_rfl, Eq.trans Tryz.func159 (congrArg some (by kernel_rfl))⟩,
    t0 := Tryz.underlying0,
    a0 := Tryz.isAgg0,
    z0 := Tryz.sizeOf0,
    v0 := Tryz.zeroValue0,
    t24 := Tryz.underlying25,
    a24 := Tryz.isAgg25,
    z24 := Tryz.sizeOf25,
    v24 := Tryz.zeroValue25,
    t26 := Tryz.underlying9,
    a26 := Tryz.isAgg9,
    z26 := Tryz.sizeOf9,
    v26 := Tryz.zeroValue9,
    t28 := Tryz.underlying119,
    a28 := Tryz.isAgg119,
    z28 := Tryz.sizeOf119,
    v28 := Tryz.zeroValue119,
    i26 := by kernel_rfl }
def renZ10 : Go.Shelf.Ren := ⟨fun x => match x with | 10 => 135 | n => n, fun x => match x with | 0 => 0 | 3 => 4 | 4 => 4 | 23 => 78 | 26 => 9 | 33 => 71 | n => n, fun x => match x with | n => n⟩
theorem laysZ10 : Go.Proofs.SlLaysZ.n10 Tryz.prog renZ10 :=
  {
    mixed := by kernel_rfl,
    f10 := ⟨Tryz.f135.name, by kernel_rfl, Eq.trans Tryz.func135 (congrArg some (by kernel_rfl))⟩,
    t0 := Tryz.underlying0,
    a0 := Tryz.isAgg0,
    z0 := Tryz.sizeOf0,
    v0 := Tryz.zeroValue0,
    t4 := Tryz.underlying4,
    a4 := Tryz.isAgg4,
    z4 := Tryz.sizeOf4,
    v4 := Tryz.zeroValue4,
    t23 := Tryz.underlying78,
    a23 := Tryz.isAgg78,
    z23 := Tryz.sizeOf78,
    v23 := Tryz.zeroValue78,
    t26 := Tryz.underlying9,
    a26 := Tryz.isAgg9,
    z26 := Tryz.sizeOf9,
    v26 := Tryz.zeroValue9,
    t33 := Tryz.underlying71,
    a33 := Tryz.isAgg71,
    z33 := Tryz.sizeOf71,
    v33 := Tryz.zeroValue71 }
def renM6 : Go.Shelf.Ren := ⟨fun x => match x with | 6 => 134 | 8 => 161 | 9 => 160 | 19 => 179 | 20 => 180 | 21 => 170 | 22 => 171 | 23 => 172 | 24 => 173 | 25 => 174 | 26 => 175 | 27 => 176 | 28 => 177 | 29 => 178 | 31 => 188 | 32 => 189 | 36 => 187 | 37 => 190 | 38 => 191 | 39 => 192 | 41 => 198 | n => n, fun x => match x with | 0 => 0 | 3 => 3 | 4 => 4 | 5 => 5 | 9 => 9 | 26 => 25 | 27 => 25 | 29 => 9 | 32 => 194 | 35 => 207 | 36 => 208 | 41 => 213 | 44 => 216 | 46 => 141 | 53 => 223 | 57 => 227 | 63 => 236 | 64 => 237 | n => n, fun x => match x with | n => n⟩
theorem laysM6 : Go.Proofs.SlLaysM.n6 Tryz.prog renM6 :=
  {
    mixed := by kernel_rfl,
    f6 := ⟨Tryz.f134.name, by kernel_rfl, Eq.trans Tryz.func134 (congrArg some (by kernel_rfl))⟩,
    f8 := Eq.trans Tryz.func161 (congrArg some (by kernel_rfl)),
    f9 := ⟨Tryz.f160.name, by kernel_rfl, Eq.trans Tryz.func160 (congrArg some (by kernel_rfl))⟩,
    f19 := Eq.trans Tryz.func179 (congrArg some (by kernel_rfl)),
    f20 := Eq.trans Tryz.func180 (congrArg some (by kernel_rfl)),
    f21 := ⟨Tryz.f170.name, by kernel_rfl, Eq.trans Tryz.func170 (congrArg some (by kernel_rfl))⟩,
    f22 := ⟨Tryz.f171.name, by kernel_rfl, Eq.trans Tryz.func171 (congrArg some (by kernel_rfl))⟩,
    f23 := ⟨Tryz.f172.name, by kernel_rfl, Eq.trans Tryz.func172 (congrArg some (by kernel_rfl))⟩,
    f24 := ⟨Tryz.f173.name, by kernel_rfl, Eq.trans Tryz.func173 (congrArg some (by kernel_rfl))⟩,
    f25 := ⟨Tryz.f174.name, by kernel_rfl, Eq.trans Tryz.func174 (congrArg some (by kernel_rfl))⟩,
    f26 := ⟨Tryz.f175.name, by kernel_rfl, Eq.trans Tryz.func175 (congrArg some (by kernel_rfl))⟩,
    f27 := ⟨Tryz.f176.name, by kernel_rfl, Eq.trans Tryz.func176 (congrArg some (by kernel_rfl))⟩,
    f28 := ⟨Tryz.f177.name, by kernel_rfl, Eq.trans Tryz.func177 (congrArg some (by kernel_rfl))⟩,
    f29 := ⟨Tryz.f178.name, by kernel_rfl, Eq.trans Tryz.func178 (congrArg some (by kernel_rfl))⟩,
    f31 := Eq.trans Tryz.func188 (congrArg some (by kernel_rfl)),
    f32 := Eq.trans Tryz.func189 (congrArg some (by kernel_rfl)),
    f36 := ⟨Tryz.f187.name, by kernel_rfl, Eq.trans Tryz.func187 (congrArg some (by kernel_rfl))⟩,
    f37 := ⟨Tryz.f190.name, by kernel_rfl, Eq.trans Tryz.func190 (congrArg some (by kernel_rfl))⟩,
    f38 := ⟨Tryz.f191.name, by kernel_rfl, Eq.trans Tryz.func191 (congrArg some (by kernel_rfl))⟩,
    f39 := ⟨Tryz.f192.name, by kernel_rfl, Eq.trans Tryz.func192 (congrArg some (by kernel_rfl))⟩,
    f41 := ⟨Tryz.f198.name, by kernel_rfl, Eq.trans Tryz.func198 (congrArg some (by kernel_rfl))⟩,
    t0 := Tryz.underlying0,
    a0 := Tryz.isAgg0,
    z0 := Tryz.sizeOf0,
    v0 := Tryz.zeroValue0,
    t3 := Tryz.underlying3,
    a3 := Tryz.isAgg3,
    z3 := Tryz.sizeOf3,
    v3 := Tryz.zeroValue3,
    t4 := Tryz.underlying4,
    a4 := Tryz.isAgg4,
    z4 := Tryz.sizeOf4,
    v4 := Tryz.zeroValue4,
    t5 := Tryz.underlying5,
    a5 := Tryz.isAgg5,
    z5 := Tryz.sizeOf5,
    v5 := Tryz.zeroValue5,
    t9 := Tryz.underlying9,
    a9 := Tryz.isAgg9,
    z9 := Tryz.sizeOf9,
    v9 := Tryz.zeroValue9,
    t26 := Tryz.underlying25,
    a26 := Tryz.isAgg25,
    z26 := Tryz.sizeOf25,
    v26 := Tryz.zeroValue25,
    t27 := Tryz.underlying25,
    a27 := Tryz.isAgg25,
    z27 := Tryz.sizeOf25,
    v27 := Tryz.zeroValue25,
    t29 := Tryz.underlying9,
    a29 := Tryz.isAgg9,
    z29 := Tryz.sizeOf9,
    v29 := Tryz.zeroValue9,
    t32 := Tryz.underlying194,
    a32 := Tryz.isAgg194,
    z32 := Tryz.sizeOf194,
    v32 := Tryz.zeroValue194,
    t35 := Tryz.underlying207,
    a35 := Tryz.isAgg207,
    z35 := Tryz.sizeOf207,
    v35 := Tryz.zeroValue207,
    t36 := Tryz.underlying208,
    a36 := Tryz.isAgg208,
    z36 := Tryz.sizeOf208,
    v36 := Tryz.zeroValue208,
    t41 := Tryz.underlying213,
    a41 := Tryz.isAgg213,
    z41 := Tryz.sizeOf213,
    v41 := Tryz.zeroValue213,
    t44 := Tryz.underlying216,
    a44 := Tryz.isAgg216,
    z44 := Tryz.sizeOf216,
    v44 := Tryz.zeroValue216,
    t46 := Tryz.underlying141,
    a46 := Tryz.isAgg141,
    z46 := Tryz.sizeOf141,
    v46 := Tryz.zeroValue141,
    t53 := Tryz.underlying223,
    a53 := Tryz.isAgg223,
    z53 := Tryz.sizeOf223,
    v53 := Tryz.zeroValue223,
    t57 := Tryz.underlying227,
    a57 := Tryz.isAgg227,
    z57 := Tryz.sizeOf227,
    v57 := Tryz.zeroValue227,
    t63 := Tryz.underlying236,
    a63 := Tryz.isAgg236,
    z63 := Tryz.sizeOf236,
    v63 := Tryz.zeroValue236,
    t64 := Tryz.underlying237,
    a64 := Tryz.isAgg237,
    z64 := Tryz.sizeOf237,
    v64 := Tryz.zeroValue237 }
theorem sortsA (m : Nat) : Go.Proofs.AnyZ.SortsIn Tryz.prog renZ6 Go.Fence.wide m :=
  ⟨fun blk off cap ss W hH hblk hsz => Go.callsIn_wide.2 (Go.Proofs.AnyM.slices_Sort_string (ρ := renM6) laysM6 blk off cap ss W hH hblk hsz), fun p cap W => Go.callsIn_wide.2 (Go.Proofs.AnyM.slices_Sort_string_none (ρ := renM6) laysM6 p cap W)⟩
theorem c_Sorted {σ : Store} {o om : Nat} {S : List ByteArray} (ho : σ.objs[o]? = some (.box [.map om])) (hom : σ.objs[om]? = some (.map (tK S) (tV S))) (hl : S.length ≤ 1000000000) (hs : ∀ s, s ∈ S → s.size ≤ maxLen) :
    ACalls Tryz.prog 88 [.func (.func 135) [.ptr o 0]] σ fun r σ' => r = .pv (.slice ((sortB S).map .str)) ∧ σ' = σ :=
  acalls_sorted (kt := 9) (n := 2) (m := 5) Tryz.underlying9 (fun w Bm b nn D0 hB hc hown => Go.Proofs.AnyZ.keys_gives (ρ := renZ10) laysZ10 Go.Fence.wide 2 trivial rfl (by omega) Bm b nn D0 w hB hc hown)
    (fun Bm N S w h1 h2 hseq => (Go.Proofs.AnyZ.sorted_in (ρ := renZ6) laysZ6 Go.Fence.wide 5 trivial trivial trivial trivial rfl (by omega) (sortsA _) (Go.Proofs.enters_of Tryz.func134 (by kernel_rfl) rfl) 135 _ trivial (Go.Proofs.enters_of Tryz.func135 (by kernel_rfl) rfl) S N h1 h2 w hseq).mono (by rintro e w' ⟨v, ss, he, hS, hrow, hnil, hb⟩; exact ⟨v, ss, _, he, hS, hrow, hb⟩)) ho hom hl hs

set_option maxHeartbeats 1000000 in
theorem c_scFree (d : D) (hd : d.size ≤ 100000000) (σ : Store) (hgl : σ.gl = (GL kr)) : ACalls Tryz.prog 80 [.pv (enc d)] σ (fun r σ' => r = .map σ.objs.length ∧ σ' = { σ with objs := σ.objs ++ [.map (tK (sfree d [] [])) (tV (sfree d [] []))] }) := by
 refine mapAt_of ?_
 have hz1 : ∀ X R, (setS X σ.objs.length R).objs[σ.objs.length + 1]? = X.objs[σ.objs.length + 1]? := fun X R => setS_ne (by omega)
 refine acalls_of tyOk Tryz.func80 rfl (by simp [Tryz.f80]) ?_
 refine sS ?_
 refine awp_seq (awp_region_run (sh := [3]) tyOk (by simp [go_sem] <;> rfl) ?_)
 refine awp_seq (awp_region_run (sh := [8]) tyOk (by simp [go_sem] <;> rfl) ?_)
 refine sG ?_
 refine aT 2 ?_
 refine al_callW rfl rfl rfl (by simp [go_sem] <;> rfl) call121 (c_walk d hd [] (by simp; omega) [] [] _ σ.objs.length (σ.objs.length + 1) (σ.objs.length + 2) (by exact hgl) (by simp [tK, tV]) (by simp) (by simp)) (by simp [go_sem] <;> rfl) (by simp [go_sem, wPV, encSc]) rfl rfl ?_
 rintro r σ' ⟨rfl, rfl⟩
 refine al_nil (sA (by simp [go_sem, hz1] <;> rfl) ?_)
 refine awp_ret (eR ?_)
 exact ⟨by simp [go_sem], by simp [go_sem, setS]⟩

set_option maxHeartbeats 1000000 in
theorem c_Keys (om : Nat) (σ : Store) : ACalls Tryz.prog 89 [.map om] σ (fun r σ' => r = .func (.func 135) [.ptr σ.objs.length 0] ∧ σ' = { σ with objs := σ.objs ++ [.box [.map om]] }) := by
 refine acalls_of tyOk Tryz.func89 rfl (by simp [Tryz.f89]) ?_
 refine awp_seq (awp_region_run (sh := [1]) tyOk (by simp [go_sem] <;> rfl) ?_)
 refine sS ?_
 refine awp_ret (eR ?_)
 exact ⟨by simp [go_sem], by simp [go_sem]⟩

set_option maxHeartbeats 1000000 in
theorem c_Open (d : D) (hd : d.size ≤ 100000000) (hl : (sfree d [] []).length ≤ 1000000000) (hs : ∀ s, s ∈ sfree d [] [] → s.size ≤ maxLen) : Pur Tryz.prog (GL kr) 45 [.pv (enc d)] (.pv (.slice ((sortB (sfree d [] [])).map .str))) := by
 refine pur_of fun σ hgl => ?_
 refine acalls_of tyOk Tryz.func45 rfl (by simp [Tryz.f45]) ?_
 refine sS ?_
 refine sG ?_
 refine aT 1 ?_
 refine al_callW rfl rfl rfl (by simp [go_sem] <;> rfl) call80 (c_scFree d hd _ (by exact hgl)) (by simp [go_sem] <;> rfl) (by simp [go_sem]) rfl rfl ?_
 rintro r σ' ⟨rfl, rfl⟩
 refine al_callW rfl rfl rfl (by simp [go_sem] <;> rfl) call89 (c_Keys σ.objs.length _) (by simp [go_sem] <;> rfl) (by simp [go_sem]) rfl rfl ?_
 rintro r σ' ⟨rfl, rfl⟩
 refine al_callW rfl rfl rfl (by simp [go_sem] <;> rfl) call88 (c_Sorted (o := σ.objs.length + 1) (om := σ.objs.length) (S := sfree d [] []) (by simp [go_sem]) (by simp [go_sem]) hl hs) (by simp [go_sem] <;> rfl) (by simp [go_sem]) rfl rfl ?_
 rintro r σ' ⟨rfl, rfl⟩
 refine aT 1 ?_
 refine al_nil (awp_ret (eR ?_))
 exact ⟨by simp [go_sem], by simp [go_sem]⟩

/-- What Free says. -/
def sFree (d : D) : PV × Int := if (sis d != 0) = true then (.nils, sis d) else (.slice ((sortB (sfree d [] [])).map .str), 0)

set_option maxHeartbeats 1000000 in
theorem c_sFree (d : D) (hd : d.size ≤ 100000000) (hl : (sfree d [] []).length ≤ 1000000000) (hs : ∀ s, s ∈ sfree d [] [] → s.size ≤ maxLen) : Pur Tryz.prog (GL kr) 13 [.pv (enc d)] (.tuple [.pv (sFree d).1, .pv (.int .i64 (sFree d).2)]) := by
 refine pur_of fun σ hgl => ?_
 refine acalls_of tyOk Tryz.func13 rfl (by simp [Tryz.f13]) ?_
 refine sS ?_
 refine awp_seq (sG ?_)
 refine aT 1 ?_
 refine aG call44 ((c_sIs d hd) _ (by exact hgl)) ?_
 refine aT 1 ?_
 refine al_nil (sS ?_)
 refine aC (fun h0 => ?_) (fun h0 => ?_)
 ·refine awp_seq (aS ?_)
  refine awp_ret (then_ret (eR ?_))
  exact ⟨by simp only [sFree, h0, if_true]; simp [go_sem], by simp [go_sem]⟩
 ·refine awp_skip (sG ?_)
  refine aT 1 ?_
  refine aG call45 ((c_Open d hd hl hs) _ (by exact hgl)) ?_
  refine aT 2 ?_
  refine al_nil (awp_ret (eR ?_))
  exact ⟨by simp only [sFree, h0, Bool.false_eq_true, if_false]; simp [go_sem], by simp [go_sem]⟩

end Go.Proofs.YtigideidmcmfbaaGreatDoor

namespace Go.Proofs.YtigideidmcmfbaaGreatDoor
open Go Go.Aw
variable {kr : KR}
def ren171 : Go.Shelf.Ren := ⟨fun x => match x with | 129 => 180 | 171 => 97 | 243 => 143 | 246 => 166 | 283 => 182 | 284 => 183 | 285 => 184 | 286 => 185 | 317 => 194 | 318 => 195 | 319 => 196 | 320 => 197 | 337 => 199 | 338 => 200 | n => n, fun x => match x with | 0 => 0 | 2 => 2 | 3 => 3 | 4 => 4 | 5 => 5 | 9 => 9 | 20 => 20 | 37 => 185 | 46 => 194 | 51 => 216 | 53 => 141 | 171 => 219 | 173 => 221 | 212 => 233 | 213 => 234 | 232 => 239 | 233 => 240 | n => n, fun x => match x with | 17 => 1 | 18 => 3 | 19 => 4 | n => n⟩
theorem lays171 : Go.Proofs.LaysM.n171 Tryz.prog ren171 :=
  {
    mixed := by kernel_rfl,
    f129 := Eq.trans Tryz.func180 (congrArg some (by kernel_rfl)),
    f171 := Eq.trans Tryz.func97 (congrArg some (by kernel_rfl)),
    f243 := Eq.trans Tryz.func143 (congrArg some (by kernel_rfl)),
    f246 := Eq.trans Tryz.func166 (congrArg some (by kernel_rfl)),
    f283 := Eq.trans Tryz.func182 (congrArg some (by kernel_rfl)),
    f284 := Eq.trans Tryz.func183 (congrArg some (by kernel_rfl)),
    f285 := Eq.trans Tryz.func184 (congrArg some (by kernel_rfl)),
    f286 := Eq.trans Tryz.func185 (congrArg some (by kernel_rfl)),
    f317 := Eq.trans Tryz.func194 (congrArg some (by kernel_rfl)),
    f318 := Eq.trans Tryz.func195 (congrArg some (by kernel_rfl)),
    f319 := Eq.trans Tryz.func196 (congrArg some (by kernel_rfl)),
    f320 := Eq.trans Tryz.func197 (congrArg some (by kernel_rfl)),
    f337 := Eq.trans Tryz.func199 (congrArg some (by kernel_rfl)),
    f338 := Eq.trans Tryz.func200 (congrArg some (by kernel_rfl)),
    t0 := Tryz.underlying0,
    a0 := Tryz.isAgg0,
    z0 := Tryz.sizeOf0,
    v0 := Tryz.zeroValue0,
    t2 := Tryz.underlying2,
    a2 := Tryz.isAgg2,
    z2 := Tryz.sizeOf2,
    v2 := Tryz.zeroValue2,
    t3 := Tryz.underlying3,
    a3 := Tryz.isAgg3,
    z3 := Tryz.sizeOf3,
    v3 := Tryz.zeroValue3,
    t4 := Tryz.underlying4,
    a4 := Tryz.isAgg4,
    z4 := Tryz.sizeOf4,
    v4 := Tryz.zeroValue4,
    t5 := Tryz.underlying5,
    a5 := Tryz.isAgg5,
    z5 := Tryz.sizeOf5,
    v5 := Tryz.zeroValue5,
    t9 := Tryz.underlying9,
    a9 := Tryz.isAgg9,
    z9 := Tryz.sizeOf9,
    v9 := Tryz.zeroValue9,
    t20 := Tryz.underlying20,
    a20 := Tryz.isAgg20,
    z20 := Tryz.sizeOf20,
    v20 := Tryz.zeroValue20,
    t37 := Tryz.underlying185,
    a37 := Tryz.isAgg185,
    z37 := Tryz.sizeOf185,
    v37 := Tryz.zeroValue185,
    t46 := Tryz.underlying194,
    a46 := Tryz.isAgg194,
    z46 := Tryz.sizeOf194,
    v46 := Tryz.zeroValue194,
    t51 := Tryz.underlying216,
    a51 := Tryz.isAgg216,
    z51 := Tryz.sizeOf216,
    v51 := Tryz.zeroValue216,
    t53 := Tryz.underlying141,
    a53 := Tryz.isAgg141,
    z53 := Tryz.sizeOf141,
    v53 := Tryz.zeroValue141,
    t171 := Tryz.underlying219,
    a171 := Tryz.isAgg219,
    z171 := Tryz.sizeOf219,
    v171 := Tryz.zeroValue219,
    t173 := Tryz.underlying221,
    a173 := Tryz.isAgg221,
    z173 := Tryz.sizeOf221,
    v173 := Tryz.zeroValue221,
    t212 := Tryz.underlying233,
    a212 := Tryz.isAgg233,
    z212 := Tryz.sizeOf233,
    v212 := Tryz.zeroValue233,
    t213 := Tryz.underlying234,
    a213 := Tryz.isAgg234,
    z213 := Tryz.sizeOf234,
    t232 := Tryz.underlying239,
    a232 := Tryz.isAgg239,
    z232 := Tryz.sizeOf239,
    v232 := Tryz.zeroValue239,
    t233 := Tryz.underlying240,
    a233 := Tryz.isAgg240,
    z233 := Tryz.sizeOf240,
    v233 := Tryz.zeroValue240,
    g17 := by kernel_rfl,
    g18 := by kernel_rfl,
    g19 := by kernel_rfl,
    i0 := by kernel_rfl,
    i2 := by kernel_rfl,
    i3 := by kernel_rfl,
    i4 := by kernel_rfl,
    i5 := by kernel_rfl,
    i9 := by kernel_rfl,
    i20 := by kernel_rfl,
    i37 := by kernel_rfl,
    i46 := by kernel_rfl,
    i51 := by kernel_rfl,
    i53 := by kernel_rfl,
    i171 := by kernel_rfl,
    i173 := by kernel_rfl,
    i212 := by kernel_rfl,
    i232 := by kernel_rfl,
    i233 := by kernel_rfl,
    m17 := by kernel_rfl,
    m18 := by kernel_rfl,
    m19 := by kernel_rfl }
theorem gPow : Tryz.prog.globalNamed "internal/strconv.uint64pow10" = some 1 := by kernel_rfl
theorem c_Itoa (n : Int) (h0 : -9223372036854775808 ≤ n) (h1 : n ≤ 9223372036854775807) : Pur Tryz.prog (GL kr) 97 [.pv (.int .i64 n)] (.pv (.str (itoaB n))) :=
  pur_of_callsT (ps := [.int .i64 n]) [.int .i64] rfl .str rfl gPow (by simp [GL]) fun w ht => Go.Proofs.Any.strconv_Itoa lays171 n h0 h1 w ht

set_option maxHeartbeats 1000000 in
theorem c_canTo (S : List ByteArray) (hS : S.length ≤ 1000000000) (p : List Int) (i : Int) (x : ByteArray) (n : Nat) (hn : n ≤ 4000000000) (ome om on : Nat) (h1 : on ≠ ome) (h2 : on ≠ om) (σ : Store) (hgl : σ.gl = (GL kr)) (hme : σ.objs[ome]? = some (.box [.map om])) (hm : σ.objs[om]? = some (.map (tK S) (tV S))) (ho : σ.objs[on]? = some (.box [.pv (.int .i64 (n : Int))])) : ACalls Tryz.prog 109 [.pv (wPV p), .pv (.int .i64 i), .pv (.str x), .ptr ome 0, .ptr on 0] σ (fun r σ' => r = .pv (.str (canTo S p i x n).1) ∧ σ' = updS σ [(on, AObj.box [.pv (.int .i64 ((canTo S p i x n).2 : Int))])]) := by
 have hsp := nxtV_spec S n
 have hol := (List.getElem?_eq_some_iff.1 ho).1
 have gE : ∀ k : Int, (updS σ [(on, AObj.box [.pv (.int .i64 (k : Int))])]).objs[ome]? = some (.box [.map om]) := fun k => (updS_ne (by simpa using h1.symm)).trans hme
 have gM : ∀ k : Int, (updS σ [(on, AObj.box [.pv (.int .i64 (k : Int))])]).objs[om]? = some (.map (tK S) (tV S)) := fun k => (updS_ne (by simpa using h2.symm)).trans hm
 have gN : ∀ k : Int, (updS σ [(on, AObj.box [.pv (.int .i64 (k : Int))])]).objs[on]? = some (.box [.pv (.int .i64 (k : Int))]) := fun k => updS_has (by simp) (by simpa using hol) _ List.mem_cons_self
 have hz : updS σ [(on, AObj.box [.pv (.int .i64 (n : Int))])] = σ := updS_self (by intro q hq; rw [List.mem_singleton] at hq; subst hq; exact ho)
 have hset : ∀ k j : Int, (⟨(updS σ [(on, AObj.box [.pv (.int .i64 (k : Int))])]).gl, (updS σ [(on, AObj.box [.pv (.int .i64 (k : Int))])]).objs.set on (.box [.pv (.int .i64 (j : Int))]), (updS σ [(on, AObj.box [.pv (.int .i64 (k : Int))])]).toks⟩ : Store) = updS σ [(on, AObj.box [.pv (.int .i64 (j : Int))])] := fun k j => by simp [updS, setAll]
 have gS : ∀ k j : Int, ((updS σ [(on, AObj.box [.pv (.int .i64 (k : Int))])]).objs.set on (.box [.pv (.int .i64 (j : Int))]))[on]? = some (.box [.pv (.int .i64 (j : Int))]) := fun k j => List.getElem?_set_self (by rw [updS_len]; exact hol)
 refine updAtW (by intro q hq; rw [List.mem_singleton] at hq; subst hq; rfl) ?_
 refine acalls_of tyOk Tryz.func109 rfl (by simp [Tryz.f109]) ?_
 refine sS ?_
 refine awp_seq (awp_block (awp_loop_headJ [3, 4, 8] (fun c : Nat => []) (fun c => updS σ [(on, AObj.box [.pv (.int .i64 (c : Int))])]) (fun c => n ≤ c ∧ c ≤ nxtV S n) (fun c => nxtV S n - c) n (⟨Nat.le_refl _, hsp.1⟩) ⟨hz, rfl, by simp [go_sem]⟩ ?_))
 intro c hc
 have hsz : 1 + (itoaB (c : Int)).size ≤ 9223372036854775807 := by have := itoaB_size (n := (c : Int)) (by omega) (by omega); omega
 have hlk := fun (s : St) (ho : s.σ.objs[om]? = some (.map (tK S) (tV S))) => look_set (ty := ty) (s := s) (t := 78) (S := S) (o := om) rfl rfl rfl rfl rfl rfl rfl ho (⟨#[118]⟩ ++ itoaB (c : Int))
 have hwc1 : IntKind.i64.wrap ((c : Int) + 1) = (c : Int) + 1 := wrap_id (by omega) (by omega)
 refine awp_seq (awp_seq (awp_regDP tyOk tySz 4 (by kernel_rfl) (by decide) ?_))
 refine ul_run 2 (by simp [go_sem, updS_gl, gE, gN] <;> rfl) ?_
 refine ul_fn (by first | (intro _ _ hh; exact hh) | simp [go_sem]) rfl rfl rfl rfl (by simp [go_sem] <;> rfl) call97 ((c_Itoa (c : Int) (by omega) (by omega)) _ (by exact hgl)) (by simp [go_sem, updS_gl] <;> rfl) (by simp [go_sem]) rfl rfl ?_
 refine ul_run 1 (by simp [go_sem, updS_gl, hsz] <;> rfl) ?_
 refine ul_nil ?_
 refine aL 1 (by simp [go_sem, gM, hlk] <;> rfl) ?_
 refine al_nil (awp_cond (by first | rfl | (simp [go_sem, updS_gl, updS_tk, gE, gM, gN, gS, hsz, hlk, hwc1] <;> rfl)) (fun h0 => ?_) (fun h0 => ?_))
 ·have hmem : memB S (vS (c : Int)) = true := by first | exact h0 | simpa [vS] using h0
  have hclt : c < nxtV S n := Nat.lt_of_le_of_ne hc.2 fun e => by rw [e, hsp.2.2.2] at hmem; cases hmem
  refine awp_skip (awp_block (aR (by simp [go_sem, updS_gl, updS_tk, gN, hwc1] <;> rfl) ?_))
  exact ⟨(c + 1), ⟨by omega, by omega⟩, (by show _ - _ < _ - _; omega), (by first | exact (hset c ((c : Int) + 1)).symm | simp [go_sem, hset]), rfl, by simp [go_sem]⟩
 ·have hmem : memB S (vS (c : Int)) = false := by first | exact h0 | simpa [vS] using h0
  have hce : c = nxtV S n := Nat.le_antisymm hc.2 (Nat.le_of_not_lt fun h => by rw [hsp.2.2.1 c hc.1 h] at hmem; cases hmem)
  subst hce
  have hws : IntKind.i64.wrap (nxtV S n : Int) = (nxtV S n : Int) := wrap_id (by omega) (by omega)
  have hsz2 : 1 + (itoaB (nxtV S n : Int)).size ≤ 9223372036854775807 := hsz
  refine awp_exit (then_exit (then_exit (inBlock_hit (sA (by simp [go_sem, updS_gl, updS_tk, gN, hwc1] <;> rfl) ?_))))
  refine sG ?_
  refine aL 2 (by simp [go_sem, gS, hws] <;> rfl) ?_
  refine aG call97 ((c_Itoa (nxtV S n : Int) (by omega) (by omega)) _ (by exact hgl)) ?_
  refine aL 2 (by simp [go_sem, hsz] <;> rfl) ?_
  refine al_nil (awp_ret (eR ?_))
  refine ⟨by simp [go_sem, canTo, vS], ?_⟩
  have := updS_cut (σ := σ) (U := [(on, AObj.box [.pv (.int .i64 (((nxtV S n : Int) + 1) : Int))])]) (B := []) (tk := σ.toks) (by simpa using hol) (by simp)
  rw [List.append_nil] at this
  have hcs := congrArg Store.objs (hset (nxtV S n : Int) ((nxtV S n : Int) + 1))
  simp only at hcs
  simp only [go_sem, canTo, hcs]
  first | exact this | simpa [go_sem] using this

end Go.Proofs.YtigideidmcmfbaaGreatDoor

namespace Go.Proofs.YtigideidmcmfbaaGreatDoor
open Go Go.Aw
variable {kr : KR}
def caMs (on : Nat) (n : Nat) : List (Nat × AObj) := [(on, AObj.box [.pv (.int .i64 (n : Int))])]
theorem caTo (S : List ByteArray) (hS : S.length ≤ 1000000000) (ome om on : Nat) (h1 : on ≠ ome) (h2 : on ≠ om) :
    ToH Tryz.prog (GL kr) (caMs on) [on] [(ome, .box [.map om]), (om, .map (tK S) (tV S))] 109 [.ptr ome 0, .ptr on 0] (canTo S) (canGT S) := by
  refine ⟨fun _ => rfl, by simp, fun q hq => ?_, call109, rfl, fun s no nt h q hq => ?_, fun p i x m s h => canGT_next h, fun p i x m s σ _ _ _ _ hg hm hgl hU hX => ?_⟩
  · simp only [List.mem_cons, List.not_mem_nil, or_false] at hq ⊢
    rcases hq with rfl | rfl
    · exact fun e => h1 e.symm
    · exact fun e => h2 e.symm
  · rw [caMs, List.mem_singleton] at hq; subst hq; rfl
  · have hh := hits_le S s
    unfold canGT at hg
    have hme := hX (ome, .box [.map om]) (by simp)
    have hmo := hX (om, .map (tK S) (tV S)) (by simp)
    have hno := hU (on, .box [.pv (.int .i64 (s : Int))]) (by simp [caMs])
    exact c_canTo S hS p i x s (by omega) ome om on h1 h2 σ hgl hme hmo hno
/-- What a canonical form leaves behind. -/
def caJ (n : Nat) (d : D) (k : Nat) : List AObj := [.map (tK (sfree d [] [])) (tV (sfree d [] [])), .box [.map n], .box [.pv (.int .i64 (k : Int))], .box [.func (.func 109) [.ptr (n + 1) 0, .ptr (n + 2) 0]]]
def caK (d : D) : Nat := (rnRes (canTo (sfree d [] [])) d 0).2
theorem ca_upd (σ : Store) (k : Nat) (n : Int) (a b : AObj) : (updS ⟨σ.gl, σ.objs ++ [a, b, .box [.pv (.int .i64 n)]], σ.toks⟩ (caMs (σ.objs.length + 2) k)).objs = σ.objs ++ [a, b, .box [.pv (.int .i64 (k : Int))]] := by
  simp [updS, setAll, caMs]
theorem sCan_er (d : D) : (sCan d).er = d.er := rnRes_er _ _ _

set_option maxHeartbeats 2000000 in
theorem c_canonM (d : D) (hd : d.size ≤ 100000000) (σ : Store) (hgl : σ.gl = (GL kr)) : ACalls Tryz.prog 72 [.pv (enc d)] σ (fun r σ' => r = (lay (σ.objs.length + 4) (sCan d)).av ∧ σ' = ⟨σ.gl, σ.objs ++ (caJ σ.objs.length d (caK d) ++ lobjs (σ.objs.length + 4) (sCan d)), σ.toks⟩) := by
 have hsl := sfree_len d [] []
 have hsz : msz (sCan d) = msz d := by rw [← msz_er, sCan_er, msz_er]
 refine ACalls.keepTo (σ.objs.length + 4 + msz d) (by omega) (fun ob hob => ?_) ?_
 · rcases List.mem_append.1 hob with h | h
   · exact .inl h
   · refine .inr ?_
     rcases List.mem_append.1 h with h | h
     · simp only [caJ, List.mem_cons, List.not_mem_nil, or_false] at h
       rcases h with rfl | rfl | rfl | rfl <;> simp [AObj.clo, AV.clos, AV.clo] <;> omega
     · exact (lay_arrs_clo (m := σ.objs.length + 4) (d := sCan d) (by omega)).1 ob h
 refine acalls_of tyOk Tryz.func72 rfl (by simp [Tryz.f72]) ?_
 refine sS ?_
 refine sG ?_
 refine al_run 1 (sh := [3]) tyOk (by simp [go_sem] <;> rfl) ?_
 refine al_callW rfl rfl rfl (by simp [go_sem] <;> rfl) call80 (c_scFree d hd _ (by exact hgl)) (by simp [go_sem] <;> rfl) (by simp [go_sem]) rfl rfl ?_
 rintro r σ' ⟨rfl, rfl⟩
 refine al_run 2 (sh := [3]) tyOk (by simp [go_sem] <;> rfl) ?_
 refine al_nil (awp_seq (awp_region_run (sh := [4]) tyOk (by simp [go_sem] <;> rfl) ?_))
 refine sG ?_
 refine aT 2 ?_
 refine al_callW rfl rfl rfl (by simp [go_sem] <;> rfl) call81 (c_rename (caTo (sfree d [] []) (by simp at hsl; omega) (σ.objs.length + 1) σ.objs.length (σ.objs.length + 2) (by omega) (by omega)) d hd 0 (by simp [canGT]) (by have := ncnt_le d; omega) (⟨σ.gl, σ.objs ++ [.map (tK (sfree d [] [])) (tV (sfree d [] [])), .box [.map σ.objs.length], .box [.pv (.int .i64 0)]], σ.toks⟩ : Store) (by simp [AV.clos, AV.clo]) (by exact hgl) (by intro q hq; rw [caMs, List.mem_singleton] at hq; subst hq; simp) (by intro q hq; simp at hq; rcases hq with rfl | rfl <;> simp)) (by simp [go_sem] <;> rfl) (by simp [go_sem]) rfl rfl ?_
 rintro r σ' ⟨rfl, rfl⟩
 rw [ca_upd]
 refine aL 1 (by simp [go_sem, AD.av_cells, AD.cells_len] <;> rfl) ?_
 refine al_nil (awp_ret ?_)
 have hw2 := (lay_arrs_clo (m := σ.objs.length + 4) (d := sCan d) (no := σ.objs.length + 4 + msz d) (nt := σ.toks.length) (by omega)).2
 refine ends_ret (l := [(lay (σ.objs.length + 4) (sCan d)).av]) ?_ (av_noL _) ?_
 · exact resAV_cell (i := 1) rfl rfl rfl (by simp [go_sem]) (by simp [go_sem] <;> rfl)
 refine ⟨hw2, ?_⟩
 unfold Store.cut
 have hsz2 : msz (rnRes (canTo (sfree d [] [])) d 0).1 = msz d := hsz
 simp only [go_sem]
 rw [List.take_of_length_le (by simp [lobjs_len, hsz2]; omega), List.take_of_length_le (by simp)]
 rfl

theorem c_canonP (d : D) (hd : d.size ≤ 100000000) : Pur Tryz.prog (GL kr) 72 [.pv (enc d)] (.pv (enc (sCan d))) := by
  refine fun σ hgl => ACalls.freeze (c_canonM d hd σ hgl) ?_
  rintro r σ' ⟨rfl, rfl⟩
  refine ⟨lay (σ.objs.length + 4) (sCan d), rfl, fun q hq => ?_, fun ob hob => ?_, ?_⟩
  · have h3 := lay_has (σ := ⟨σ.gl, σ.objs ++ (caJ σ.objs.length d (caK d) ++ lobjs (σ.objs.length + 4) (sCan d)), σ.toks⟩) (A := σ.objs ++ caJ σ.objs.length d (caK d)) (C := []) (d := sCan d) (by simp [caJ])
    rw [show (σ.objs ++ caJ σ.objs.length d (caK d)).length = σ.objs.length + 4 by simp [caJ]] at h3
    refine ⟨?_, h3 q hq⟩
    have hm : q.1 ∈ (lay (σ.objs.length + 4) (sCan d)).arrs.map (·.1) := List.mem_map.2 ⟨q, hq, rfl⟩
    rw [lay_keys] at hm
    rw [List.mem_range'_1] at hm
    omega
  · simp only [List.take_left] at hob
    exact .inl hob
  · refine ⟨by rw [lay_dat], ?_⟩
    simp [Store.cut]
/-- What Canon says. -/
def sCanon (d : D) : D × Int := if (sis d != 0) = true then (dnone, sis d) else (sCan d, 0)
set_option maxHeartbeats 1000000 in
theorem c_sCanon (d : D) (hd : d.size ≤ 100000000) : Pur Tryz.prog (GL kr) 34 [.pv (enc d)] (.tuple [.pv (enc (sCanon d).1), .pv (.int .i64 (sCanon d).2)]) := by
 refine pur_of fun σ hgl => ?_
 refine acalls_of tyOk Tryz.func34 rfl (by simp [Tryz.f34]) ?_
 refine sS ?_
 refine awp_seq (sG ?_)
 refine aT 1 ?_
 refine aG call44 ((c_sIs d hd) _ (by exact hgl)) ?_
 refine aT 1 ?_
 refine al_nil (sS ?_)
 refine aC (fun h0 => ?_) (fun h0 => ?_)
 ·refine awp_seq (aS ?_)
  refine awp_ret (then_ret (eR ?_))
  exact ⟨by simp only [sCanon, h0, if_true, enc_none]; simp [go_sem], by simp [go_sem]⟩
 ·refine awp_skip (sG ?_)
  refine aT 1 ?_
  refine aG call72 ((c_canonP d hd) _ (by exact hgl)) ?_
  refine aT 2 ?_
  refine al_nil (awp_ret (eR ?_))
  exact ⟨by simp only [sCanon, h0, Bool.false_eq_true, if_false]; simp [go_sem], by simp [go_sem]⟩

end Go.Proofs.YtigideidmcmfbaaGreatDoor

namespace Go.Proofs.YtigideidmcmfbaaGreatDoor
open Go Go.Aw
variable {kr : KR}
set_option maxHeartbeats 1000000 in
theorem c_keyE (n : Int) (hn : -9223372036854775808 ≤ n ∧ n ≤ 9223372036854775807) : Pur Tryz.prog (GL kr) 83 [.pv .nils, .pv (.int .i64 n)] (.pv (.str (itoaB n))) := by
 refine pur_of fun σ hgl => ?_
 refine acalls_of tyOk Tryz.func83 rfl (by simp [Tryz.f83]) ?_
 refine sS ?_
 refine sG ?_
 refine aT 1 ?_
 refine aG call97 ((c_Itoa n hn.1 hn.2) _ (by exact hgl)) ?_
 refine aT 1 ?_
 refine al_nil (awp_seq (sS ?_))
 refine awp_block (awp_loopL (awpL_round ?_))
 refine sS ?_
 refine awp_seq (awp_cond (b := false) (by simp [go_sem]) (fun h => ?_) (fun h => ?_))
 ·cases h
 refine awp_exit (then_exit (then_exit (inBlock_hit (sS ?_))))
 refine awp_ret (eR ?_)
 exact ⟨by simp [go_sem], by simp [go_sem]⟩

set_option maxHeartbeats 1000000 in
theorem c_keyN (p : List Int) (n : Int) (hn : -9223372036854775808 ≤ n ∧ n ≤ 9223372036854775807) (hl : p.length ≤ 400000000) (hp : ∀ j, j ∈ p → 0 ≤ j ∧ j ≤ 1000000000) : Pur Tryz.prog (GL kr) 83 [.pv (.slice (ipv p)), .pv (.int .i64 n)] (.pv (.str (bkS p n))) := by
 refine pur_of fun σ hgl => ?_
 refine acalls_of tyOk Tryz.func83 rfl (by simp [Tryz.f83]) ?_
 refine sS ?_
 refine sG ?_
 refine aT 1 ?_
 refine aG call97 ((c_Itoa n hn.1 hn.2) _ (by exact hgl)) ?_
 refine aT 1 ?_
 refine al_nil (awp_seq (sA (by simp [go_sem, ipv_len] <;> rfl) ?_))
 refine awp_block (awp_loop_headK σ.objs.length σ.toks.length 0 [4, 10, 11] (fun k : Nat => [(5, .pv (.str (bkK p n k))), (12, .pv (.int .i64 ↑k))]) (fun k => σ) (fun k => k ≤ p.length) (fun k => p.length - k) 0 (Nat.zero_le _) ⟨by simp [go_sem, bkK_zero], rfl, by simp, by simp, by simp [go_sem, bkK_zero], fun ob h => .inl (by simpa [go_sem, ipv_len, bkK_zero] using h), by simp [go_sem]⟩ ?_)
 intro k hk
 refine sS ?_
 refine awp_seq (awp_cond (by first | rfl | (simp [go_sem, ipv_len] <;> rfl)) (fun h0 => ?_) (fun h0 => ?_))
 ·have hlt : k < p.length := by simp at h0; omega
  have hw : IntKind.i64.wrap (↑k + 1) = (k : Int) + 1 := wrap_succ (by omega)
  obtain ⟨x, hx, hxm⟩ := get_lt hlt
  have hxi := ipv_get hx
  have hkz := bkK_size hn hp k (Nat.le_of_lt hlt)
  have hxz := itoaB_size (n := x) (by have := hp x hxm; omega) (by have := hp x hxm; omega)
  have hnx : bkK p n (k + 1) = bkK p n k ++ (⟨#[32]⟩ ++ itoaB x) := bkK_next hx
  have hs1 : 1 + (itoaB x).size ≤ 9223372036854775807 := by omega
  have hs2 : (bkK p n k).size + (1 + (itoaB x).size) ≤ 9223372036854775807 := by omega
  refine awp_skip (awp_seq (awp_block (sA (by simp [go_sem, hxi] <;> rfl) ?_)))
  refine awp_reg ?_
  refine aT 2 ?_
  refine aG call97 ((c_Itoa x (by have := hp x hxm; omega) (by have := hp x hxm; omega)) _ (by exact hgl)) ?_
  refine aL 3 (by simp [go_sem, hs1, hs2, ByteArray.size_append] <;> rfl) ?_
  refine al_nil (aS ?_)
  exact next_intro (k + 1) σ.objs.length σ.toks.length 0 (hlt) (by omega) ⟨by simp [go_sem, hnx], rfl, by simp, by simp, by simp [go_sem, hw, hnx], fun ob h => .inl (by simpa [go_sem, ipv_len, hx, hxi, hnx, hs1, hs2, ByteArray.size_append, hw, hnx] using h), by simp [go_sem]⟩
 ·have hke : k = p.length := by simp at h0; omega
  subst hke
  refine awp_exit (then_exit (then_exit (inBlock_hit (sS ?_))))
  refine awp_ret (eR ?_)
  exact ⟨by simp [go_sem, bkS], by simp [go_sem]⟩

theorem c_key (p : List Int) (n : Int) (hn : -9223372036854775808 ≤ n ∧ n ≤ 9223372036854775807) (hl : p.length ≤ 400000000) (hp : ∀ j, j ∈ p → 0 ≤ j ∧ j ≤ 1000000000) : Pur Tryz.prog (GL kr) 83 [.pv (wPV p), .pv (.int .i64 n)] (.pv (.str (bkS p n))) := by
  by_cases h : p = []
  · subst h; exact c_keyE n hn
  · have e : wPV p = .slice (ipv p) := by unfold wPV; rw [if_neg h]; rfl
    rw [e]; exact c_keyN p n hn hl hp

set_option maxHeartbeats 1000000 in
theorem c_frsh (S : List ByteArray) (hS : S.length ≤ 2000000000) (n : Nat) (hn : n ≤ 4000000000) (om : Nat) (σ : Store) (hgl : σ.gl = (GL kr)) (hm : σ.objs[om]? = some (.map (tK S) (tV S))) : ACalls Tryz.prog 53 [.map om, .pv (.int .i64 (n : Int))] σ (fun r σ' => r = .pv (.str (frS S n)) ∧ σ' = setS σ om (addS S (frS S n))) := by
 have hsp := nxtV_spec S n
 have hol := (List.getElem?_eq_some_iff.1 hm).1
 have hmg : σ.objs[om] = .map (tK S) (tV S) := by have h := hm; rw [List.getElem?_eq_getElem hol] at h; exact Option.some.inj h
 have hpk := fun (s : St) (x : ByteArray) (ho : s.σ.objs[om]? = some (.map (tK S) (tV S))) => put_set (ty := ty) (s := s) (t := 78) (o := om) rfl rfl rfl rfl ho x
 refine updAtW (V := [(om, AObj.map (tK (addS S (frS S n))) (tV (addS S (frS S n))))]) (by intro q hq; rw [List.mem_singleton] at hq; subst hq; rfl) ?_
 refine acalls_of tyOk Tryz.func53 rfl (by simp [Tryz.f53]) ?_
 refine sS ?_
 refine awp_seq (awp_block (awp_loop_headK σ.objs.length σ.toks.length 0 [0, 4] (fun c : Nat => [(1, .pv (.int .i64 (c : Int)))]) (fun c => σ) (fun c => n ≤ c ∧ c ≤ nxtV S n) (fun c => nxtV S n - c) n (⟨Nat.le_refl _, hsp.1⟩) ⟨by simp [go_sem], rfl, by simp, by simp, by simp [go_sem, hol], fun ob h => .inl (by simpa [go_sem, hm, hpk, hol, hmg] using h), by simp [go_sem]⟩ ?_))
 intro c hc
 have hsz : 1 + (itoaB (c : Int)).size ≤ 9223372036854775807 := by have := itoaB_size (n := (c : Int)) (by omega) (by omega); omega
 have hlk := fun (s : St) (ho : s.σ.objs[om]? = some (.map (tK S) (tV S))) => look_set (ty := ty) (s := s) (t := 78) (S := S) (o := om) rfl rfl rfl rfl rfl rfl rfl ho (⟨#[118]⟩ ++ itoaB (c : Int))
 have hwc1 : IntKind.i64.wrap ((c : Int) + 1) = (c : Int) + 1 := wrap_id (by omega) (by omega)
 refine awp_seq (sG ?_)
 refine aT 2 ?_
 refine aG call97 ((c_Itoa (c : Int) (by omega) (by omega)) _ (by exact hgl)) ?_
 refine aL 2 (by simp [go_sem, hol, hmg, hsz, hlk] <;> rfl) ?_
 refine al_nil (awp_cond (by first | rfl | (simp [go_sem, hm, hpk, hol, hmg, hsz, hlk, hwc1] <;> rfl)) (fun h0 => ?_) (fun h0 => ?_))
 ·have hmem : memB S (vS (c : Int)) = true := by first | exact h0 | simpa [vS] using h0
  have hclt : c < nxtV S n := Nat.lt_of_le_of_ne hc.2 fun e => by rw [e, hsp.2.2.2] at hmem; cases hmem
  refine awp_skip (awp_block (aR (by simp [go_sem, hwc1] <;> rfl) ?_))
  exact next_intro ((c + 1)) σ.objs.length σ.toks.length 0 (⟨by omega, by omega⟩) ((by show _ - _ < _ - _; omega)) ⟨by simp [go_sem], rfl, by simp, by simp, by simp [go_sem, hol], fun ob h => .inl (by simpa [go_sem, hm, hpk, hol, hmg, hsz, hlk, hwc1] using h), by simp [go_sem]⟩
 ·have hmem : memB S (vS (c : Int)) = false := by first | exact h0 | simpa [vS] using h0
  have hce : c = nxtV S n := Nat.le_antisymm hc.2 (Nat.le_of_not_lt fun h => by rw [hsp.2.2.1 c hc.1 h] at hmem; cases hmem)
  subst hce
  have hsz2 : 1 + (itoaB (nxtV S n : Int)).size ≤ 9223372036854775807 := hsz
  refine awp_exit (then_exit (then_exit (inBlock_hit (sG ?_))))
  refine aT 1 ?_
  refine aG call97 ((c_Itoa (nxtV S n : Int) (by omega) (by omega)) _ (by exact hgl)) ?_
  refine aL 2 (by simp [go_sem, hsz] <;> rfl) ?_
  refine al_nil (sA (by simp [go_sem, hpk, hol, hmg] <;> rfl) ?_)
  refine sS ?_
  refine awp_ret (eR ?_)
  refine ⟨by simp [go_sem, frS, vS], ?_⟩
  have := updS_cut (σ := σ) (U := [(om, AObj.map (tK (addS S (frS S n))) (tV (addS S (frS S n))))]) (B := []) (tk := σ.toks) (by simpa using hol) (by simp)
  rw [List.append_nil] at this
  exact this

set_option maxHeartbeats 1000000 in
theorem c_symbolsL (l : List D) (hl : l.length ≤ 1000000000) (om : Nat) (S : List ByteArray) (σ : Store) (hgl : σ.gl = (GL kr)) (hm : σ.objs[om]? = some (.map (tK S) (tV S))) (ih : ∀ x, x ∈ l → ∀ (R : List ByteArray) (τ : Store), τ.gl = (GL kr) → τ.objs[om]? = some (.map (tK R) (tV R)) → ACalls Tryz.prog 54 [.map om, .pv (.slice (x.kids.map enc))] τ (fun r σ' => r = .map om ∧ σ' = setS τ om (symSs x.kids R))) : ACalls Tryz.prog 54 [.map om, .pv (.slice (l.map enc))] σ (fun r σ' => r = .map om ∧ σ' = setS σ om (symSs l S)) := by
 have hol := (List.getElem?_eq_some_iff.1 hm).1
 have hpk := fun (R : List ByteArray) (s : St) (x : ByteArray) (ho : s.σ.objs[om]? = some (.map (tK R) (tV R))) => put_set (ty := ty) (s := s) (t := 78) (o := om) rfl rfl rfl rfl ho x
 have hgm : ∀ R, (setS σ om R).objs[om]? = some (.map (tK R) (tV R)) := fun R => setS_get hol
 have hgg : ∀ R (h : om < (setS σ om R).objs.length), (setS σ om R).objs[om] = AObj.map (tK R) (tV R) := fun R h => by have e := hgm R; rw [List.getElem?_eq_getElem h] at e; exact Option.some.inj e
 refine updAtW (V := [(om, AObj.map (tK (symSs l S)) (tV (symSs l S)))]) (by intro q hq; rw [List.mem_singleton] at hq; subst hq; rfl) ?_
 refine acalls_of tyOk Tryz.func54 rfl (by simp [Tryz.f54]) ?_
 refine sS ?_
 refine awp_seq (sS ?_)
 refine awp_block (awp_loop_headJL 0 [0, 4, 7, 8] (fun k : Nat => [(9, .pv (.int .i64 ↑k))]) (fun k => setS σ om (symSs (l.take k) S)) (fun k => k ≤ l.length) (fun k => l.length - k) 0 (Nat.zero_le _) ⟨(setS_self hm), rfl, by simp [go_sem], by simp [go_sem]⟩ ?_)
 intro k hk
 refine sS ?_
 refine awp_seq (awp_cond (by first | rfl | (simp [go_sem, hgm, hgg, hpk, hol, setS_gl, setS_nt, setS_no, setS_set] <;> rfl)) (fun h0 => ?_) (fun h0 => ?_))
 ·have hlt : k < l.length := by simp at h0; omega
  have hw : IntKind.i64.wrap (↑k + 1) = (k : Int) + 1 := wrap_succ (by omega)
  obtain ⟨x, hx, hxm⟩ := get_lt hlt
  have hnx := symSs_next (S := S) hx
  have hpkk := hpk (symSs (l.take k) S)
  refine awp_skip (awp_seq (awp_block (sA (by simp [go_sem, hx] <;> rfl) ?_)))
  refine awp_seq (sS ?_)
  refine awp_cond (by first | rfl | (simp [go_sem, hgm, hgg, hpk, hol, setS_gl, setS_nt, setS_no, setS_set, hx, hpkk] <;> rfl)) (fun h1 => ?_) (fun h1 => ?_)
  ·refine aR (by simp [go_sem, hgg, hol, setS_no, setS_set, hpkk] <;> rfl) ?_
   refine awp_reg ?_
   refine aT 3 ?_
   refine al_callW rfl rfl rfl (by simp [go_sem] <;> rfl) call54 (ih x hxm _ _ (by exact hgl) (hgm _)) (by simp [go_sem] <;> rfl) (by simp [go_sem]) rfl rfl ?_
   rintro r σ' ⟨rfl, rfl⟩
   refine al_nil (aR (by simp [go_sem, setS_set] <;> rfl) ?_)
   exact ⟨k + 1, hlt, (by show _ - _ < _ - _; omega), (by show setS σ om (symSs (l.take (k + 1)) S) = _; first | (rw [hnx, if_pos (by simpa using h1)]; done) | (rw [hnx, if_pos (by simpa using h1)]; simp [go_sem, setS_set]; done) | (rw [hnx, if_neg (by simpa using h1)]; done) | (rw [hnx, if_neg (by simpa using h1)]; simp [go_sem, setS_set]; done)), rfl, by simp [go_sem, hw, hnx], by simp [go_sem]⟩
  ·refine awp_skip (awp_reg ?_)
   refine aT 3 ?_
   refine al_callW rfl rfl rfl (by simp [go_sem] <;> rfl) call54 (ih x hxm _ _ (by exact hgl) (hgm _)) (by simp [go_sem] <;> rfl) (by simp [go_sem]) rfl rfl ?_
   rintro r σ' ⟨rfl, rfl⟩
   refine al_nil (aR (by simp [go_sem, setS_set] <;> rfl) ?_)
   exact ⟨k + 1, hlt, (by show _ - _ < _ - _; omega), (by show setS σ om (symSs (l.take (k + 1)) S) = _; first | (rw [hnx, if_pos (by simpa using h1)]; done) | (rw [hnx, if_pos (by simpa using h1)]; simp [go_sem, setS_set]; done) | (rw [hnx, if_neg (by simpa using h1)]; done) | (rw [hnx, if_neg (by simpa using h1)]; simp [go_sem, setS_set]; done)), rfl, by simp [go_sem, hw, hnx], by simp [go_sem]⟩
 ·have hke : k = l.length := by simp at h0; omega
  subst hke
  refine awp_exit (then_exit (then_exit (inBlock_hit (sA (by simp [go_sem, List.take_length] <;> rfl) ?_))))
  refine awp_ret (eR ?_)
  refine ⟨by simp [go_sem, hol], ?_⟩
  have := updS_cut (σ := σ) (U := [(om, AObj.map (tK (symSs l S)) (tV (symSs l S)))]) (B := []) (tk := σ.toks) (by simpa using hol) (by simp)
  rw [List.append_nil] at this
  exact this

theorem c_symbols (l : List D) (hl : l.length ≤ 1000000000) (hs : D.sizes l ≤ 1000000000) (om : Nat) (S : List ByteArray) (σ : Store) (hgl : σ.gl = (GL kr)) (hm : σ.objs[om]? = some (.map (tK S) (tV S))) : ACalls Tryz.prog 54 [.map om, .pv (.slice (l.map enc))] σ (fun r σ' => r = .map om ∧ σ' = setS σ om (symSs l S)) := by
  have key : ∀ d : D, d.size ≤ 1000000000 → ∀ (R : List ByteArray) (τ : Store), τ.gl = (GL kr) → τ.objs[om]? = some (.map (tK R) (tV R)) → ACalls Tryz.prog 54 [.map om, .pv (.slice (d.kids.map enc))] τ (fun r σ' => r = .map om ∧ σ' = setS τ om (symSs d.kids R)) := by
    intro d
    induction d using D.ind with
    | _ k n t l ih =>
      intro hd R τ h1 h2
      have h3 := D.kids_length_lt (.mk k n t l)
      exact c_symbolsL l (by have : l.length < (D.mk k n t l).size := h3; omega) om R τ h1 h2 fun x hx R2 τ2 h4 h5 => ih x hx (by have := D.size_kid_lt (d := D.mk k n t l) hx; omega) R2 τ2 h4 h5
  refine c_symbolsL l hl om S σ hgl hm fun x hx R τ h1 h2 => key x ?_ R τ h1 h2
  have := D.size_le_sizes hx
  omega

end Go.Proofs.YtigideidmcmfbaaGreatDoor

namespace Go.Proofs.YtigideidmcmfbaaGreatDoor
open Go Go.Aw
variable {kr : KR}
set_option maxHeartbeats 1000000 in
theorem c_own1 (p : List Int) (hl : p.length ≤ 400000000) (hp : ∀ j, j ∈ p → 0 ≤ j ∧ j ≤ 1000000000) (sc : List (ByteArray × ByteArray)) (ns : List ByteArray) (n : Int) (h0n : 0 ≤ n) (hnn : n + ns.length ≤ 1000000000) (op os : Nat) (σ : Store) (hgl : σ.gl = (GL kr)) (ho : σ.objs[op]? = some (.box [.pv (wPV p)])) (hs : σ.objs[os]? = some (.box [.pv (encScG PV.str sc)])) : PurAt Tryz.prog σ 116 [.pv (.int .i64 n), .pv (.slice (ns.map .str)), .ptr op 0, .ptr os 0] (.pv (encScG PV.str (wthSc sc ns (kyS p ns n)))) := by
 refine purAt_of ?_
 refine acalls_of tyOk Tryz.func116 rfl (by simp [Tryz.f116]) ?_
 refine sS ?_
 refine sS ?_
 refine awp_seq (sS ?_)
 refine awp_adopt' 7 9 1 (by simp [go_sem] <;> rfl) ?_
 refine awp_block (awp_loop_headJL 0 [0, 1, 2, 3, 6, 10] (fun k : Nat => [(7, .acc (((kyS p ns n).map .str).take k) σ.toks.length), (11, .pv (.int .i64 ↑k))]) (fun k => { σ with toks := σ.toks ++ [⟨k, 9, 1⟩] }) (fun k => k ≤ ns.length) (fun k => ns.length - k) 0 (Nat.zero_le _) ⟨rfl, rfl, by simp [go_sem, List.take_zero], by simp [go_sem]⟩ ?_)
 intro k hk
 refine sS ?_
 refine awp_seq (awp_cond (by first | rfl | (simp [go_sem, ho, hs] <;> rfl)) (fun h0 => ?_) (fun h0 => ?_))
 ·have hlt : k < ns.length := by simp at h0; omega
  have hw : IntKind.i64.wrap (↑k + 1) = (k : Int) + 1 := wrap_succ (by omega)
  obtain ⟨x, hx, hxm⟩ := get_lt hlt
  have hwn : IntKind.i64.wrap (n + (k : Int)) = n + (k : Int) := wrap_id (by omega) (by omega)
  have hkt : ((kyS p ns n).map PV.str).take (k + 1) = ((kyS p ns n).map PV.str).take k ++ [.str (bkS p (n + (k : Int)))] := by rw [← List.map_take, kyS_take p ns n hlt, List.map_append, List.map_take]; rfl
  have hkl := kyS_len p ns n
  have hmk : min k (kyS p ns n).length = k := by omega
  have hmk2 : min k ns.length = k := by omega
  have hb2 : (k + 1) * 16 ≤ 140737488355328 := by omega
  refine awp_skip (awp_seq (awp_block (sS ?_)))
  refine awp_reg ?_
  refine aL 5 (by simp [go_sem, ho, hwn] <;> rfl) ?_
  refine aG call83 ((c_key p (n + (k : Int)) (by omega) hl hp) _ (by exact hgl)) ?_
  refine aL 3 (by simp [go_sem, hkl, hmk2, hb2, List.length_take] <;> rfl) ?_
  refine al_nil (aS ?_)
  exact ⟨k + 1, hlt, (by show _ - _ < _ - _; omega), (by simp [go_sem]), rfl, by simp [go_sem, hkt, hw], by simp [go_sem]⟩
 ·have hke : k = ns.length := by simp at h0; omega
  subst hke
  have hall : ((kyS p ns n).map PV.str).take ns.length = (kyS p ns n).map PV.str := List.take_of_length_le (by rw [List.length_map, kyS_len]; exact Nat.le_refl _)
  refine awp_exit (then_exit (then_exit (inBlock_hit (sG ?_))))
  refine aL 3 (by simp [go_sem, hs, hall] <;> rfl) ?_
  refine aG call117 ((c_withStr sc ns (kyS p ns n) (kyS_len _ _ _) (by omega)) _ (by exact hgl)) ?_
  refine aT 1 ?_
  refine al_nil (awp_ret (eR ?_))
  exact ⟨by simp [go_sem], by simp [go_sem]⟩

end Go.Proofs.YtigideidmcmfbaaGreatDoor

namespace Go.Proofs.YtigideidmcmfbaaGreatDoor
open Go Go.Aw
variable {kr : KR}
set_option maxHeartbeats 4000000 in
theorem c_visit {x : ByteArray} {ox opl oar om ov tk : Nat} (H : FnH x ox opl oar om ov 115) (d : D) : ∀ (hd : d.size ≤ 100000000) (p : List Int) (hp : p.length + 3 * d.size ≤ 400000000) (hpp : ∀ j, j ∈ p → 0 ≤ j ∧ j ≤ 1000000000) (sc : List (ByteArray × ByteArray)) (s : FSt) (hb : (fnd x d p sc s).1.length ≤ 1000000000) (σ : Store) (hgl : σ.gl = (GL kr)) (hF : FHas 44 opl om tk σ s) (hXU : HasU σ (foX x ox opl oar om ov 115)), ACalls Tryz.prog 115 [.pv (enc d), .pv (wPV p), .pv ((encScG PV.str) sc), .ptr ox 0, .ptr opl 0, .ptr oar 0, .ptr ov 0] σ (fun r σ' => r = .tuple [] ∧ σ' = foS opl om tk σ (fnd x d p sc s)) := by
 induction d using D.indS with
 | _ d ih =>
 intro hd p hp hpp sc s hb σ hgl hF hXU
 have hks : ∀ i, σ.objs.length ≤ i → i ∉ [opl, om] := fun i hi hm => by have := hF.lt hm; omega
 have hopl := hF.lt (i := opl) (by simp)
 have homl := hF.lt (i := om) (by simp)
 have hne := H.hne
 have htk := hF.2
 have htl := hF.ltk
 have gpl : σ.objs[opl]? = some (.box [.acc (s.1.map wPV) tk]) := hF.1 (opl, _) (by simp [foU])
 have gom : σ.objs[om]? = some (.map (tK s.2) (tV s.2)) := hF.1 (om, _) (by simp [foU])
 have hApl : ∀ B, (σ.objs ++ B)[opl]? = some (.box [.acc (s.1.map wPV) tk]) := fun B => by rw [List.getElem?_append_left hopl]; exact gpl
 have hAom : ∀ B, (σ.objs ++ B)[om]? = some (.map (tK s.2) (tV s.2)) := fun B => by rw [List.getElem?_append_left homl]; exact gom
 have gox : σ.objs[ox]? = some (.box [.pv (.str x)]) := hXU (ox, _) (by simp [foX])
 have hAox : ∀ B, (σ.objs ++ B)[ox]? = some (.box [.pv (.str x)]) := fun B => by rw [List.getElem?_append_left (List.getElem?_eq_some_iff.1 gox).1]; exact gox
 have hnox : ox ∉ [opl, om] := H.hX (ox, .box [.pv (.str x)]) (by simp [foX])
 have hsox : ∀ (Y : Store) (s : FSt), (foS opl om tk Y s).objs[ox]? = Y.objs[ox]? := fun Y s => foS_ne hnox
 have gor : σ.objs[oar]? = some (.box [.map om]) := hXU (oar, _) (by simp [foX])
 have hAor : ∀ B, (σ.objs ++ B)[oar]? = some (.box [.map om]) := fun B => by rw [List.getElem?_append_left (List.getElem?_eq_some_iff.1 gor).1]; exact gor
 have hnor : oar ∉ [opl, om] := H.hX (oar, .box [.map om]) (by simp [foX])
 have hsor : ∀ (Y : Store) (s : FSt), (foS opl om tk Y s).objs[oar]? = Y.objs[oar]? := fun Y s => foS_ne hnor
 have gov : σ.objs[ov]? = some (.box [.func (.func 115) [.ptr ox 0, .ptr opl 0, .ptr oar 0, .ptr ov 0]]) := hXU (ov, _) (by simp [foX])
 have hAov : ∀ B, (σ.objs ++ B)[ov]? = some (.box [.func (.func 115) [.ptr ox 0, .ptr opl 0, .ptr oar 0, .ptr ov 0]]) := fun B => by rw [List.getElem?_append_left (List.getElem?_eq_some_iff.1 gov).1]; exact gov
 have hnov : ov ∉ [opl, om] := H.hX (ov, .box [.func (.func 115) [.ptr ox 0, .ptr opl 0, .ptr oar 0, .ptr ov 0]]) (by simp [foX])
 have hsov : ∀ (Y : Store) (s : FSt), (foS opl om tk Y s).objs[ov]? = Y.objs[ov]? := fun Y s => foS_ne hnov
 have hs0 : ∀ (Y : Store) (s : FSt), (foS opl om tk Y s).objs[σ.objs.length]? = Y.objs[σ.objs.length]? := fun Y s => foS_ne (hks _ (by omega))
 have hs1 : ∀ (Y : Store) (s : FSt), (foS opl om tk Y s).objs[σ.objs.length + 1]? = Y.objs[σ.objs.length + 1]? := fun Y s => foS_ne (hks _ (by omega))
 have hs3 : ∀ (Y : Store) (s : FSt), (foS opl om tk Y s).objs[σ.objs.length + 3]? = Y.objs[σ.objs.length + 3]? := fun Y s => foS_ne (hks _ (by omega))
 have hss : ∀ (B : List AObj) (s2 s3 : FSt), foS opl om tk (foS opl om tk ⟨σ.gl, σ.objs ++ B, σ.toks⟩ s2) s3 = foS opl om tk ⟨σ.gl, σ.objs ++ B, σ.toks⟩ s3 := fun B s2 s3 => foS_twice hne (Y := ⟨σ.gl, σ.objs ++ B, σ.toks⟩) htk
 have hUa : ∀ B, FHas 44 opl om tk ⟨σ.gl, σ.objs ++ B, σ.toks⟩ s := fun B => hF.app B
 have hXa : ∀ B, HasU ⟨σ.gl, σ.objs ++ B, σ.toks⟩ (foX x ox opl oar om ov 115) := fun B => hXU.app B _
 have hcut : ∀ (s2 : FSt) B, (foS opl om tk ⟨σ.gl, σ.objs ++ B, σ.toks⟩ s2).cut σ.objs.length σ.toks.length = foS opl om tk σ s2 := fun s2 B => hF.cut B rfl rfl
 have hsets : ∀ (a b c : AObj) (s2 : FSt), (⟨σ.gl, (foS opl om tk ⟨σ.gl, σ.objs ++ [a, b], σ.toks⟩ s2).objs.set (σ.objs.length + 1) c, (foS opl om tk ⟨σ.gl, σ.objs ++ [a, b], σ.toks⟩ s2).toks⟩ : Store) = foS opl om tk ⟨σ.gl, σ.objs ++ [a, c], σ.toks⟩ s2 := fun a b c s2 => foS_set1 (hks _ (by omega))
 have hgl2 : σ.gl = (GL kr) := hgl
 have hwc := wPV_cell p
 have hcl := wPV_cells p
 have hcn := wPV_nrm p
 unfold PV.nrm at hcn
 have hkl := D.kids_length_lt d
 have hsl := syn_len d
 have hon := ownS_len d
 have h2p : ∀ j, j ∈ ([2] : List Int) → 0 ≤ j ∧ j ≤ 1000000000 := by intro j hj; simp at hj; omega
 have h3p : ∀ j, j ∈ ([3] : List Int) → 0 ≤ j ∧ j ≤ 1000000000 := by intro j hj; simp at hj; omega
 refine fAt_of hF (by simp [go_sem]) ?_
 refine acalls_of tyOk Tryz.func115 rfl (by simp [Tryz.f115]) ?_
 refine awp_seq (awp_region_run (sh := [8, 9]) tyOk (by simp [go_sem, hwc] <;> rfl) ?_)
 refine sS ?_
 refine sG ?_
 refine aT 1 ?_
 refine aG call99 ((c_Kind d (by omega)) _ (by exact hgl)) ?_
 refine al_nil (awp_block (sS ?_))
 refine awp_cond (by first | rfl | (simp [go_sem, hApl, hAom, hAox, hAor, hAov, hsox, hsor, hsov, hs0, hs1, hs3, foS_gl, foS_nt, hss, hwc, hcl, hcn, htk] <;> rfl)) (fun h0 => ?_) (fun h0 => ?_)
 ·have hk : synKind d = 2 := by simpa using h0
  have hfin0 := fnd_name (x := x) (p := p) (sc := sc) (s := s) hk
  refine sG ?_
  refine aL 2 (by simp [go_sem, hAox] <;> rfl) ?_
  refine aG call118 ((c_ofStr sc x) _ (by exact hgl)) ?_
  refine aT 5 ?_
  refine al_nil (sG ?_)
  refine aL 5 (by simp [go_sem, hAox] <;> rfl) ?_
  refine al_splitT 48 (by first | rfl | (simp [go_sem, hApl, hAom, hAox, hAor, hAov, hsox, hsor, hsov, hs0, hs1, hs3, foS_gl, foS_nt, hss, hwc, hcl, hcn, htk] <;> rfl)) (fun h1 => ?_) (fun h1 => ?_)
  ·refine aLG 2 48 true (by simp [go_sem] <;> rfl) ?_
   refine aT 1 ?_
   refine al_nil (awp_cond (by first | rfl | (simp [go_sem, hApl, hAom, hAox, hAor, hAov, hsox, hsor, hsov, hs0, hs1, hs3, foS_gl, foS_nt, hss, hwc, hcl, hcn, htk] <;> rfl)) (fun h2 => ?_) (fun h2 => ?_))
   ·have hcc : (decide (d.text = x) && !(lookSc sc x).isSome) = true := by simp_all
    have hfin : fnd x d p sc s = (s.1 ++ [p], (sc.map (·.2)).foldl addS s.2) := by rw [hfin0, if_pos hcc]
    have hb24 : (s.1.length + 1) * 24 ≤ 140737488355328 := by rw [hfin] at hb; simp at hb; omega
    have hst : ∀ (ob : AObj), ((σ.objs ++ [AObj.box [.pv (wPV p)], AObj.box [.pv ((encScG PV.str) sc)]]).set opl ob)[σ.objs.length + 1]? = some (.box [.pv ((encScG PV.str) sc)]) := fun ob => by rw [List.getElem?_set_ne (by omega)]; simp
    have hst2 : ∀ (ob : AObj) (h : σ.objs.length + 1 < ((σ.objs ++ [AObj.box [.pv (wPV p)], AObj.box [.pv ((encScG PV.str) sc)]]).set opl ob).length), ((σ.objs ++ [AObj.box [.pv (wPV p)], AObj.box [.pv ((encScG PV.str) sc)]]).set opl ob)[σ.objs.length + 1] = .box [.pv ((encScG PV.str) sc)] := fun ob h => by have e := hst ob; rw [List.getElem?_eq_getElem h] at e; exact Option.some.inj e
    refine sA (by simp [go_sem, hApl, hcl, hcn, htk, hb24] <;> rfl) ?_
    refine sA (by simp [go_sem, hst2] <;> rfl) ?_
    refine awp_block (awp_loop_headJL 1 [5, 6, 7, 8, 9, 10, 24] (fun k : Nat => [(13, .pv ((encScG PV.str) (sc.drop k)))]) (fun k => foS opl om tk (⟨σ.gl, σ.objs ++ [AObj.box [.pv (wPV p)], AObj.box [.pv ((encScG PV.str) sc)]], σ.toks⟩ : Store) (s.1 ++ [p], ((sc.map (·.2)).take k).foldl addS s.2)) (fun k => k ≤ sc.length) (fun k => sc.length - k) 0 ((Nat.zero_le _)) ⟨(by simpa [go_sem, Store.tok, List.map_append] using (foS_app hne (Y := (⟨σ.gl, σ.objs ++ [AObj.box [.pv (wPV p)], AObj.box [.pv ((encScG PV.str) sc)]], σ.toks⟩ : Store)) htk (by simp; omega) (s.1 ++ [p]) s.2 (hAom _)).symm), rfl, by simp [go_sem, List.drop_zero], by simp [go_sem]⟩ ?_)
    intro k hk
    refine awp_seq (sG ?_)
    refine aT 1 ?_
    refine al_ptrNe tyOk (decide (k < sc.length)) rfl rfl rfl rfl (encScG_ne PV.str sc k) rfl rfl ?_
    refine al_nil (awp_cond (by first | rfl | (simp [go_sem, hApl, hAom, hAox, hAor, hAov, hsox, hsor, hsov, hs0, hs1, hs3, foS_gl, foS_nt, hss, hwc, hcl, hcn, htk, hb24, hst, hst2] <;> rfl)) (fun h3 => ?_) (fun h3 => ?_))
    ·have hlt : k < sc.length := by simpa using h3
     obtain ⟨y, hy, hym⟩ := get_lt hlt
     have hyc := encScG_at PV.str hy
     have hgm : (foS opl om tk (⟨σ.gl, σ.objs ++ [AObj.box [.pv (wPV p)], AObj.box [.pv ((encScG PV.str) sc)]], σ.toks⟩ : Store) (s.1 ++ [p], ((sc.map (·.2)).take k).foldl addS s.2)).objs[om]? = some (.map (tK (((sc.map (·.2)).take k).foldl addS s.2)) (tV (((sc.map (·.2)).take k).foldl addS s.2))) := ((hUa _).upd hne).1 (om, _) (by simp [foU])
     have hpk := fun (z : St) (x : ByteArray) (ho : z.σ.objs[om]? = some (.map (tK (((sc.map (·.2)).take k).foldl addS s.2)) (tV (((sc.map (·.2)).take k).foldl addS s.2)))) => put_set (ty := ty) (s := z) (t := 78) (o := om) rfl rfl rfl rfl ho x
     refine awp_skip (awp_seq (awp_block (awp_regDP tyOk tySz 5 (by kernel_rfl) (by decide) ?_)))
     refine ul_run 5 (by simp [go_sem, hAor, hsor, foS_gl, hyc] <;> rfl) ?_
     refine ul_nil ?_
     refine aL 1 (by simp [go_sem, hgm, hpk, foS_setS] <;> rfl) ?_
     refine al_nil (aS ?_)
     exact ⟨(k + 1), hlt, (by show _ - _ < _ - _; omega), (by show foS _ _ _ _ (_, ((sc.map (·.2)).take (k + 1)).foldl addS s.2) = _; rw [take_next (x := y.2) (by simp [hy]), List.foldl_append]; simp [go_sem]), rfl, by simp [go_sem], by simp [go_sem]⟩
    ·have hke : k = sc.length := by simp at h3; omega
     subst hke
     have hta : (sc.map (·.2)).take sc.length = sc.map (·.2) := List.take_of_length_le (by simp)
     refine awp_exit (then_exit (then_exit (inBlock_hit ?_)))
     first | (show Go.Aw.Ends ty _ _ Go.Exit.normal _) | (simp only [InBlock]; done) | simp only [InBlock] | unfold InBlock
     refine ends_normal (by first | rfl | (simp [go_sem] <;> rfl)) (by first | rfl | simp [go_sem]) ?_
     exact ⟨rfl, by (first | rw [hfin] | rw [hfin0, if_neg (by simp_all)]); first | exact hcut _ _ | (show Store.cut (foS _ _ _ (foS _ _ _ _ _) _) _ _ = _; rw [hss]; exact hcut _ _) | (simp only [hta]; exact hcut _ _) | (rw [hF.self]; simp [go_sem, Store.cut])⟩
   ·have hcc : ¬ (decide (d.text = x) && !(lookSc sc x).isSome) = true := by simp_all
    have hfin : fnd x d p sc s = s := by rw [hfin0, if_neg hcc]
    refine awp_skip ?_
    first | (show Go.Aw.Ends ty _ _ Go.Exit.normal _) | (simp only [InBlock]; done) | simp only [InBlock] | unfold InBlock
    refine ends_normal (by first | rfl | (simp [go_sem] <;> rfl)) (by first | rfl | simp [go_sem]) ?_
    exact ⟨rfl, by (first | rw [hfin] | rw [hfin0, if_neg (by simp_all)]); first | exact hcut _ _ | (show Store.cut (foS _ _ _ (foS _ _ _ _ _) _) _ _ = _; rw [hss]; exact hcut _ _) | (simp only [hta]; exact hcut _ _) | (rw [hF.self]; simp [go_sem, Store.cut])⟩
  ·refine aK 2 48 true ?_
   refine aT 1 ?_
   refine al_nil (awp_cond (b := false) (by simp [go_sem]) (fun h => ?_) (fun h => ?_))
   ·cases h
   refine awp_skip ?_
   first | (show Go.Aw.Ends ty _ _ Go.Exit.normal _) | (simp only [InBlock]; done) | simp only [InBlock] | unfold InBlock
   refine ends_normal (by first | rfl | (simp [go_sem] <;> rfl)) (by first | rfl | simp [go_sem]) ?_
   exact ⟨rfl, by (first | rw [hfin] | rw [hfin0, if_neg (by simp_all)]); first | exact hcut _ _ | (show Store.cut (foS _ _ _ (foS _ _ _ _ _) _) _ _ = _; rw [hss]; exact hcut _ _) | (simp only [hta]; exact hcut _ _) | (rw [hF.self]; simp [go_sem, Store.cut])⟩
 ·have hk2 : synKind d ≠ 2 := by simpa using h0
  refine awp_seq (sS ?_)
  refine awp_cond (by first | rfl | (simp [go_sem, hApl, hAom, hAox, hAor, hAov, hsox, hsor, hsov, hs0, hs1, hs3, foS_gl, foS_nt, hss, hwc, hcl, hcn, htk] <;> rfl)) (fun h4 => ?_) (fun h4 => ?_)
  ·have hk : synKind d = 5 ∨ synKind d = 9 := by first | exact .inl (by simpa using h4) | exact .inr (by simpa using h4)
   have hlen := hsl.1 (by omega)
   obtain ⟨x2, hx2, hx2m⟩ := get_lt (l := d.kids) (k := 2) (by omega)
   have hd2 : d2 d.kids = x2 := getD_of hx2
   have hxs := D.size_kid_lt hx2m
   have hq : subs d = [subL d 2 x2] := by rw [← hd2]; exact subs_of_fn hk
   have hfin := fnd_fn (x := x) (p := p) (sc := sc) (s := s) hk
   rw [hd2] at hfin
   have hqm : subL d 2 x2 ∈ subs d := by rw [hq]; simp
   have ihx := ih (subL d 2 x2) hqm
   simp only [subL] at ihx
   refine awp_skip (awp_cond (b := true) (by simp [go_sem, h4]) (fun h => ?_) (fun h => ?_))
   rotate_left
   ·cases h
   refine awp_regDP tyOk tySz 12 (by kernel_rfl) (by decide) ?_
   refine ul_run 7 (by simp [go_sem, hAov, hx2] <;> rfl) ?_
   refine ul_fn (by first | (intro _ _ hh; exact hh) | simp [go_sem]) rfl rfl rfl rfl (by simp [go_sem] <;> rfl) call101 ((c_joinW p [2] (by omega) (by simp) (by simp)) _ (by exact hgl)) (by simp [go_sem] <;> rfl) (by simp [go_sem, hcn, ipv]) rfl rfl ?_
   refine ul_run 2 (by simp [go_sem] <;> rfl) ?_
   refine ul_fn (by first | (intro _ _ hh; exact hh) | simp [go_sem]) rfl rfl rfl rfl (by simp [go_sem] <;> rfl) call71 ((c_Own d (by omega)) _ (by exact hgl)) (by simp [go_sem] <;> rfl) (by simp [go_sem]) rfl rfl ?_
   refine ul_fn (by first | (intro _ _ hh; exact hh) | simp [go_sem]) rfl rfl rfl rfl (by simp [go_sem] <;> rfl) call116 (c_own1 p (by omega) hpp (sc) (ownS d) (0) (by omega) (by omega) σ.objs.length (σ.objs.length + 1) _ (by exact hgl) (by simp [go_sem]) ((by simp [go_sem]))) (by simp [go_sem] <;> rfl) (by simp [go_sem]) rfl rfl ?_
   refine ul_nil ?_
   refine al_callW rfl rfl rfl (by simp [go_sem] <;> rfl) call115 (ihx (by show x2.size ≤ _; omega) (p ++ [2]) (by show _ + 3 * x2.size ≤ _; simp; omega) (pth_app hpp h2p) (wthSc sc (ownS d) (kyS p (ownS d) 0)) (s) (by rw [← hfin]; exact hb) _ (by exact hgl) (hUa _) (hXa _)) (by simp [go_sem] <;> rfl) (by simp [go_sem]) rfl rfl ?_
   rintro r σ' ⟨rfl, rfl⟩
   refine al_nil ?_
   first | (show Go.Aw.Ends ty _ _ Go.Exit.normal _) | (simp only [InBlock]; done) | simp only [InBlock] | unfold InBlock
   refine ends_normal (by first | rfl | (simp [go_sem] <;> rfl)) (by first | rfl | simp [go_sem]) ?_
   exact ⟨rfl, by (first | rw [hfin] | rw [hfin0, if_neg (by simp_all)]); first | exact hcut _ _ | (show Store.cut (foS _ _ _ (foS _ _ _ _ _) _) _ _ = _; rw [hss]; exact hcut _ _) | (simp only [hta]; exact hcut _ _) | (rw [hF.self]; simp [go_sem, Store.cut])⟩
  ·refine aS ?_
   refine awp_cond (by first | rfl | (simp [go_sem, hApl, hAom, hAox, hAor, hAov, hsox, hsor, hsov, hs0, hs1, hs3, foS_gl, foS_nt, hss, hwc, hcl, hcn, htk] <;> rfl)) (fun h5 => ?_) (fun h5 => ?_)
   ·have hk : synKind d = 5 ∨ synKind d = 9 := by first | exact .inl (by simpa using h5) | exact .inr (by simpa using h5)
    have hlen := hsl.1 (by omega)
    obtain ⟨x2, hx2, hx2m⟩ := get_lt (l := d.kids) (k := 2) (by omega)
    have hd2 : d2 d.kids = x2 := getD_of hx2
    have hxs := D.size_kid_lt hx2m
    have hq : subs d = [subL d 2 x2] := by rw [← hd2]; exact subs_of_fn hk
    have hfin := fnd_fn (x := x) (p := p) (sc := sc) (s := s) hk
    rw [hd2] at hfin
    have hqm : subL d 2 x2 ∈ subs d := by rw [hq]; simp
    have ihx := ih (subL d 2 x2) hqm
    simp only [subL] at ihx
    refine awp_regDP tyOk tySz 12 (by kernel_rfl) (by decide) ?_
    refine ul_run 7 (by simp [go_sem, hAov, hx2] <;> rfl) ?_
    refine ul_fn (by first | (intro _ _ hh; exact hh) | simp [go_sem]) rfl rfl rfl rfl (by simp [go_sem] <;> rfl) call101 ((c_joinW p [2] (by omega) (by simp) (by simp)) _ (by exact hgl)) (by simp [go_sem] <;> rfl) (by simp [go_sem, hcn, ipv]) rfl rfl ?_
    refine ul_run 2 (by simp [go_sem] <;> rfl) ?_
    refine ul_fn (by first | (intro _ _ hh; exact hh) | simp [go_sem]) rfl rfl rfl rfl (by simp [go_sem] <;> rfl) call71 ((c_Own d (by omega)) _ (by exact hgl)) (by simp [go_sem] <;> rfl) (by simp [go_sem]) rfl rfl ?_
    refine ul_fn (by first | (intro _ _ hh; exact hh) | simp [go_sem]) rfl rfl rfl rfl (by simp [go_sem] <;> rfl) call116 (c_own1 p (by omega) hpp (sc) (ownS d) (0) (by omega) (by omega) σ.objs.length (σ.objs.length + 1) _ (by exact hgl) (by simp [go_sem]) ((by simp [go_sem]))) (by simp [go_sem] <;> rfl) (by simp [go_sem]) rfl rfl ?_
    refine ul_nil ?_
    refine al_callW rfl rfl rfl (by simp [go_sem] <;> rfl) call115 (ihx (by show x2.size ≤ _; omega) (p ++ [2]) (by show _ + 3 * x2.size ≤ _; simp; omega) (pth_app hpp h2p) (wthSc sc (ownS d) (kyS p (ownS d) 0)) (s) (by rw [← hfin]; exact hb) _ (by exact hgl) (hUa _) (hXa _)) (by simp [go_sem] <;> rfl) (by simp [go_sem]) rfl rfl ?_
    rintro r σ' ⟨rfl, rfl⟩
    refine al_nil ?_
    first | (show Go.Aw.Ends ty _ _ Go.Exit.normal _) | (simp only [InBlock]; done) | simp only [InBlock] | unfold InBlock
    refine ends_normal (by first | rfl | (simp [go_sem] <;> rfl)) (by first | rfl | simp [go_sem]) ?_
    exact ⟨rfl, by (first | rw [hfin] | rw [hfin0, if_neg (by simp_all)]); first | exact hcut _ _ | (show Store.cut (foS _ _ _ (foS _ _ _ _ _) _) _ _ = _; rw [hss]; exact hcut _ _) | (simp only [hta]; exact hcut _ _) | (rw [hF.self]; simp [go_sem, Store.cut])⟩
   ·refine awp_seq (aS ?_)
    refine awp_cond (by first | rfl | (simp [go_sem, hApl, hAom, hAox, hAor, hAov, hsox, hsor, hsov, hs0, hs1, hs3, foS_gl, foS_nt, hss, hwc, hcl, hcn, htk] <;> rfl)) (fun h6 => ?_) (fun h6 => ?_)
    ·have hk : synKind d = 6 := by simpa using h6
     have hlen := hsl.2.1 hk
     obtain ⟨x2, hx2, hx2m⟩ := get_lt (l := d.kids) (k := 2) (by omega)
     have hd2 : d2 d.kids = x2 := getD_of hx2
     have hxs := D.size_kid_lt hx2m
     obtain ⟨x3, hx3, hx3m⟩ := get_lt (l := d.kids) (k := 3) (by omega)
     have hd3 : d.kids.getD 3 dnone = x3 := getD_of hx3
     have hxt := D.size_kid_lt hx3m
     have hq : subs d = [(⟨[2], []⟩, x2), subL d 3 x3] := by rw [← hd2, ← hd3]; exact subs_of_let hk
     have hfin := fnd_let (x := x) (p := p) (sc := sc) (s := s) hk
     rw [hd2, hd3] at hfin
     have hqm : (⟨[2], []⟩, x2) ∈ subs d := by rw [hq]; simp
     have hqm3 : subL d 3 x3 ∈ subs d := by rw [hq]; simp
     have ihx := ih (⟨[2], []⟩, x2) hqm
     have ihy := ih (subL d 3 x3) hqm3
     simp only [subL] at ihx ihy
     refine awp_seq (awp_regDP tyOk tySz 9 (by kernel_rfl) (by decide) ?_)
     refine ul_run 7 (by simp [go_sem, hAov, hx2] <;> rfl) ?_
     refine ul_fn (by first | (intro _ _ hh; exact hh) | simp [go_sem]) rfl rfl rfl rfl (by simp [go_sem] <;> rfl) call101 ((c_joinW p [2] (by omega) (by simp) (by simp)) _ (by exact hgl)) (by simp [go_sem] <;> rfl) (by simp [go_sem, hcn, ipv]) rfl rfl ?_
     refine ul_run 1 (by simp [go_sem] <;> rfl) ?_
     refine ul_nil ?_
     refine al_callW rfl rfl rfl (by simp [go_sem] <;> rfl) call115 (ihx (by show x2.size ≤ _; omega) (p ++ [2]) (by show _ + 3 * x2.size ≤ _; simp; omega) (pth_app hpp h2p) (sc) (s) (by rw [hfin] at hb; exact Nat.le_trans (fnd_mono _ _ _ _ _) hb) _ (by exact hgl) (hUa _) (hXa _)) (by simp [go_sem] <;> rfl) (by simp [go_sem]) rfl rfl ?_
     rintro r σ' ⟨rfl, rfl⟩
     refine al_nil (awp_regDP tyOk tySz 12 (by kernel_rfl) (by decide) ?_)
     refine ul_run 7 (by simp [go_sem, hAov, hsov, hs0, foS_gl, hx3] <;> rfl) ?_
     refine ul_fn (by first | (intro _ _ hh; exact hh) | simp [go_sem]) rfl rfl rfl rfl (by simp [go_sem] <;> rfl) call101 ((c_joinW p [3] (by omega) (by simp) (by simp)) _ (by exact hgl)) (by simp [go_sem, foS_gl] <;> rfl) (by simp [go_sem, hcn, ipv]) rfl rfl ?_
     refine ul_run 2 (by simp [go_sem, foS_gl] <;> rfl) ?_
     refine ul_fn (by first | (intro _ _ hh; exact hh) | simp [go_sem]) rfl rfl rfl rfl (by simp [go_sem] <;> rfl) call71 ((c_Own d (by omega)) _ (by exact hgl)) (by simp [go_sem, foS_gl] <;> rfl) (by simp [go_sem]) rfl rfl ?_
     refine ul_fn (by first | (intro _ _ hh; exact hh) | simp [go_sem]) rfl rfl rfl rfl (by simp [go_sem, foS_gl] <;> rfl) call116 (c_own1 p (by omega) hpp (sc) (ownS d) (0) (by omega) (by omega) σ.objs.length (σ.objs.length + 1) _ (by exact hgl) (by simp [go_sem, hs0]) ((hs1 _ _).trans (by simp))) (by simp [go_sem, foS_gl] <;> rfl) (by simp [go_sem]) rfl rfl ?_
     refine ul_nil ?_
     refine al_callW rfl rfl rfl (by simp [go_sem] <;> rfl) call115 (ihy (by show x3.size ≤ _; omega) (p ++ [3]) (by show _ + 3 * x3.size ≤ _; simp; omega) (pth_app hpp h3p) (wthSc sc (ownS d) (kyS p (ownS d) 0)) (fnd x x2 (p ++ [2]) sc s) (by rw [← hfin]; exact hb) _ (by exact hgl) ((hUa _).upd hne) (foX_has H (hXa _))) (by simp [go_sem] <;> rfl) (by simp [go_sem]) rfl rfl ?_
     rintro r σ' ⟨rfl, rfl⟩
     refine al_nil ?_
     first | (show Go.Aw.Ends ty _ _ Go.Exit.normal _) | (simp only [InBlock]; done) | simp only [InBlock] | unfold InBlock
     refine ends_normal (by first | rfl | (simp [go_sem] <;> rfl)) (by first | rfl | simp [go_sem]) ?_
     exact ⟨rfl, by (first | rw [hfin] | rw [hfin0, if_neg (by simp_all)]); first | exact hcut _ _ | (show Store.cut (foS _ _ _ (foS _ _ _ _ _) _) _ _ = _; rw [hss]; exact hcut _ _) | (simp only [hta]; exact hcut _ _) | (rw [hF.self]; simp [go_sem, Store.cut])⟩
    ·refine awp_seq (aS ?_)
     refine awp_cond (by first | rfl | (simp [go_sem, hApl, hAom, hAox, hAor, hAov, hsox, hsor, hsov, hs0, hs1, hs3, foS_gl, foS_nt, hss, hwc, hcl, hcn, htk] <;> rfl)) (fun h7 => ?_) (fun h7 => ?_)
     ·have hk : synKind d = 7 := by simpa using h7
      have hlen := hsl.1 (by omega)
      obtain ⟨x2, hx2, hx2m⟩ := get_lt (l := d.kids) (k := 2) (by omega)
      have hd2 : d2 d.kids = x2 := getD_of hx2
      have hxs := D.size_kid_lt hx2m
      obtain ⟨x1, hx1, hx1m⟩ := get_lt (l := d.kids) (k := 1) (by omega)
      have hd1 : d1 d.kids = x1 := getD_of hx1
      have hx1s := D.size_kid_lt hx1m
      have hx1l := D.kids_length_lt x1
      have hrk := hsl.2.2 hk
      have hrl := subs_rec_last hk
      have hra := fun (i : Nat) (x : D) => subs_rec_at (d := d) (i := i) (x := x) hk
      have hfr := fromS_le x1.kids
      have hszk := D.size_kids x1
      rw [hd1, hd2] at hrl
      rw [hd1] at hra hrk
      have hfin := fnd_rec (x := x) (p := p) (sc := sc) (s := s) hk
      rw [hd1, hd2] at hfin
      have ihx := ih (subL d 2 x2) (List.mem_of_getElem? hrl.1)
      simp only [subL] at ihx
      have hol : (ownS d).length = x1.kids.length := by unfold ownS; rw [hk, hd1]; simp
      have hb2 : (fndD x d p (wthSc sc (ownS d) (kyS p (ownS d) 0)) x1.kids.length s).1.length ≤ 1000000000 := by rw [hfin] at hb; exact Nat.le_trans (fnd_mono _ _ _ _ _) hb
      have hdl : ∀ k, k ≤ x1.kids.length → (fndD x d p (wthSc sc (ownS d) (kyS p (ownS d) 0)) k s).1.length ≤ (fndD x d p (wthSc sc (ownS d) (kyS p (ownS d) 0)) x1.kids.length s).1.length := fun k hk => fndD_le hk (by rw [hd1]; exact Nat.le_refl _)
      refine sG ?_
      refine aT 1 ?_
      refine aG call71 ((c_Own d (by omega)) _ (by exact hgl)) ?_
      refine aT 1 ?_
      refine al_nil (sG ?_)
      refine aT 2 ?_
      refine al_fn rfl rfl rfl (by simp [go_sem] <;> rfl) call116 (c_own1 p (by omega) hpp (sc) (ownS d) (0) (by omega) (by omega) σ.objs.length (σ.objs.length + 1) _ (by exact hgl) (by simp [go_sem]) ((by simp [go_sem]))) (by simp [go_sem] <;> rfl) (by simp [go_sem]) rfl rfl ?_
      refine aT 1 ?_
      refine al_nil (sS ?_)
      refine awp_seq (sA (by simp [go_sem, hx1] <;> rfl) ?_)
      refine awp_block (awp_loop_headJL 1 [6, 7, 8, 9, 10, 15, 122, 123] (fun i : Nat => [(16, .pv (.int .i64 (fromS x1.kids i))), (124, .pv (.int .i64 (i : Int)))]) (fun i => foS opl om tk (⟨σ.gl, σ.objs ++ [.box [.pv (wPV p)], .box [.pv ((encScG PV.str) (if i = 0 then sc else wthSc sc (ownS d) (kyS p (ownS d) 0)))]], σ.toks⟩ : Store) (fndD x d p (wthSc sc (ownS d) (kyS p (ownS d) 0)) i s)) (fun i => i ≤ x1.kids.length) (fun i => x1.kids.length - i) 0 (Nat.zero_le _) ⟨(by exact (hUa _).self), rfl, by simp [go_sem, fromS_zero, hol], by simp [go_sem]⟩ ?_)
      intro i hi
      refine sS ?_
      refine awp_seq (awp_cond (by first | rfl | (simp [go_sem, hApl, hAom, hAox, hAor, hAov, hsox, hsor, hsov, hs0, hs1, hs3, foS_gl, foS_nt, hss, hwc, hcl, hcn, htk, hx1, hx2] <;> rfl)) (fun h8 => ?_) (fun h8 => ?_))
      ·have hlt : i < x1.kids.length := by simp at h8; omega
       obtain ⟨y, hy, hym⟩ := get_lt hlt
       have hl3 := hrk y hym
       obtain ⟨y1, hy1, hy1m⟩ := get_lt (l := y.kids) (k := 1) (by omega)
       obtain ⟨y2, hy2, hy2m⟩ := get_lt (l := y.kids) (k := 2) (by omega)
       have hyd1 : d1 y.kids = y1 := getD_of hy1
       have hyd2 : d2 y.kids = y2 := getD_of hy2
       have hz0 := D.size_kid_lt hym
       have hz1 := D.size_kid_lt hy1m
       have hz2 := D.size_kid_lt hy2m
       have hz3 := D.kids_length_lt y1
       have hpx : parS y = y1.kids.map D.text := by unfold parS; rw [hyd1]
       have hpl : (parS y).length = y1.kids.length := by rw [hpx, List.length_map]
       have hqi := hra i y hy
       have ihi := ih (subR d i y) (List.mem_of_getElem? hqi)
       simp only [subR, hyd2] at ihi
       have hf1 := fromS_next hy
       have hf2 := hfr i (by omega)
       have hf3 := hfr (i + 1) (by omega)
       have hw2 : IntKind.i64.wrap (fromS x1.kids i + ((parS y).length : Int)) = fromS x1.kids (i + 1) := by rw [hf1]; exact wrap_id (by omega) (by omega)
       have hnx := fndD_next (x := x) (p := p) (inn := wthSc sc (ownS d) (kyS p (ownS d) 0)) (s := s) (by rw [hd1]; exact hy)
       rw [hd1, hyd2] at hnx
       have h1p : ∀ j, j ∈ ([1, (i : Int), 2] : List Int) → 0 ≤ j ∧ j ≤ 1000000000 := by intro j hj; simp at hj; omega
       have hw : IntKind.i64.wrap ((i : Int) + 1) = (i : Int) + 1 := wrap_succ (by omega)
       refine awp_skip (awp_seq (awp_block (sA (by simp [go_sem, hy] <;> rfl) ?_)))
       refine sG ?_
       refine aL 5 (by simp [go_sem, hy1] <;> rfl) ?_
       refine aG call103 ((c_Texts y1.kids (by omega)) _ (by exact hgl)) ?_
       refine aL 1 (by simp [go_sem, ← hpx] <;> rfl) ?_
       refine al_nil (sA (by simp [go_sem, hs1, foS_gl, hsets] <;> rfl) ?_)
       refine awp_seq (awp_regDP tyOk tySz 13 (by kernel_rfl) (by decide) ?_)
       refine ul_run 8 (by simp [go_sem, hAov, hsov, hs0, foS_gl, hy2] <;> rfl) ?_
       refine ul_fn (by first | (intro _ _ hh; exact hh) | simp [go_sem]) rfl rfl rfl rfl (by simp [go_sem] <;> rfl) call101 ((c_joinW p [1, (i : Int), 2] (by omega) (by simp) (by simp)) _ (by exact hgl)) (by simp [go_sem, foS_gl] <;> rfl) (by simp [go_sem, hcn, ipv]) rfl rfl ?_
       refine ul_run 3 (by simp [go_sem, foS_gl] <;> rfl) ?_
       refine ul_fn (by first | (intro _ _ hh; exact hh) | simp [go_sem]) rfl rfl rfl rfl (by simp [go_sem, foS_gl] <;> rfl) call116 (c_own1 p (by omega) hpp (wthSc sc (ownS d) (kyS p (ownS d) 0)) (parS y) (fromS x1.kids i) (by omega) (by omega) σ.objs.length (σ.objs.length + 1) _ (by exact hgl) (by simp [go_sem, hs0]) ((hs1 _ _).trans (by simp))) (by simp [go_sem, foS_gl] <;> rfl) (by simp [go_sem]) rfl rfl ?_
       refine ul_nil ?_
       refine al_callW rfl rfl rfl (by simp [go_sem] <;> rfl) call115 (ihi (by show y2.size ≤ _; omega) (p ++ [1, (i : Int), 2]) (by show _ + 3 * y2.size ≤ _; simp; omega) (pth_app hpp h1p) (wthSc (wthSc sc (ownS d) (kyS p (ownS d) 0)) (parS y) (kyS p (parS y) (fromS x1.kids i))) (fndD x d p (wthSc sc (ownS d) (kyS p (ownS d) 0)) i s) (by rw [← hnx]; exact Nat.le_trans (hdl (i + 1) (by omega)) hb2) _ (by exact hgl) ((hUa _).upd hne) (foX_has H (hXa _))) (by simp [go_sem] <;> rfl) (by simp [go_sem]) rfl rfl ?_
       rintro r σ' ⟨rfl, rfl⟩
       refine al_nil (aR (by simp [go_sem, hss, hw2] <;> rfl) ?_)
       refine aS ?_
       exact ⟨(i + 1), (by show i + 1 ≤ _; omega), (by show x1.kids.length - (i + 1) < x1.kids.length - i; omega), (by show foS _ _ _ _ (fndD x d p _ (i + 1) _) = _; rw [hnx]; simp [go_sem]), rfl, by simp [go_sem, hw], by simp [go_sem]⟩
      ·have hke : i = x1.kids.length := by simp at h8; omega
       subst hke
       refine awp_exit (then_exit (then_exit (inBlock_hit (awp_regDP tyOk tySz 9 (by kernel_rfl) (by decide) ?_))))
       refine ul_run 7 (by simp [go_sem, hAov, hsov, hs0, foS_gl, hx2] <;> rfl) ?_
       refine ul_fn (by first | (intro _ _ hh; exact hh) | simp [go_sem]) rfl rfl rfl rfl (by simp [go_sem] <;> rfl) call101 ((c_joinW p [2] (by omega) (by simp) (by simp)) _ (by exact hgl)) (by simp [go_sem, foS_gl] <;> rfl) (by simp [go_sem, hcn, ipv]) rfl rfl ?_
       refine ul_run 1 (by simp [go_sem, foS_gl] <;> rfl) ?_
       refine ul_nil ?_
       refine al_callW rfl rfl rfl (by simp [go_sem] <;> rfl) call115 (ihx (by show x2.size ≤ _; omega) (p ++ [2]) (by show _ + 3 * x2.size ≤ _; simp; omega) (pth_app hpp h2p) (wthSc sc (ownS d) (kyS p (ownS d) 0)) (fndD x d p (wthSc sc (ownS d) (kyS p (ownS d) 0)) x1.kids.length s) (by rw [← hfin]; exact hb) _ (by exact hgl) ((hUa _).upd hne) (foX_has H (hXa _))) (by simp [go_sem] <;> rfl) (by simp [go_sem]) rfl rfl ?_
       rintro r σ' ⟨rfl, rfl⟩
       refine al_nil ?_
       first | (show Go.Aw.Ends ty _ _ Go.Exit.normal _) | (simp only [InBlock]; done) | simp only [InBlock] | unfold InBlock
       refine ends_normal (by first | rfl | (simp [go_sem] <;> rfl)) (by first | rfl | simp [go_sem]) ?_
       exact ⟨rfl, by (first | rw [hfin] | rw [hfin0, if_neg (by simp_all)]); first | exact hcut _ _ | (show Store.cut (foS _ _ _ (foS _ _ _ _ _) _) _ _ = _; rw [hss]; exact hcut _ _) | (simp only [hta]; exact hcut _ _) | (rw [hF.self]; simp [go_sem, Store.cut])⟩
     ·have hkk : synKind d ≠ 5 ∧ synKind d ≠ 9 ∧ synKind d ≠ 6 ∧ synKind d ≠ 7 := by simp_all
      have hkk2 : synKind d ≠ 2 ∧ synKind d ≠ 5 ∧ synKind d ≠ 9 ∧ synKind d ≠ 6 ∧ synKind d ≠ 7 := ⟨hk2, hkk⟩
      refine sG ?_
      refine aT 1 ?_
      refine al_callW rfl rfl rfl (by simp [go_sem] <;> rfl) call104 (c_PartsMk d _) (by simp [go_sem] <;> rfl) (by simp [go_sem]) rfl rfl ?_
      rintro r σ' ⟨rfl, rfl⟩
      refine al_nil (awp_block (awp_rangeFunc [6, 8, 9] (by simp [go_sem] <;> rfl) call147 (by simp [go_sem]) (by simp [go_sem, keepT]) (by decide) fun l => ?_))
      refine acalls_gen ?_
      intro ST hST
      simp only [go_sem, keepT, List.map_cons, List.map_nil, List.append_assoc, List.cons_append, List.nil_append] at hST
      have hST2 : ST = ⟨σ.gl, ST.objs, σ.toks⟩ := by rw [hST]
      have hglS : ST.gl = σ.gl := by rw [hST]
      have hts : ST.toks = σ.toks := by rw [hST]
      have hlow : ST.objs.take σ.objs.length = σ.objs := by rw [hST]; simp [go_sem]
      have hlen : ST.objs.length = σ.objs.length + 4 := by rw [hST]; simp [go_sem]
      have f0 : ST.objs[σ.objs.length]? = some (.box [.pv (wPV p)]) := by rw [hST]; simp [go_sem]
      have f1 : ST.objs[σ.objs.length + 1]? = some (.box [.pv ((encScG PV.str) sc)]) := by rw [hST]; simp [go_sem]
      have f2 : ST.objs[σ.objs.length + 2]? = some (.box [.pv (.int .i64 d.kind), .pv (.int .i64 d.num), .pv (.str d.text), .pv (.slice (d.kids.map enc))]) := by rw [hST]; simp [go_sem]
      have fv : ST.objs[ov]? = some (.box [.func (.func 115) [.ptr ox 0, .ptr opl 0, .ptr oar 0, .ptr ov 0]]) := by rw [hST]; exact hAov _
      have hUS : FHas 44 opl om tk ST s := by rw [hST]; exact hUa _
      have hXS : HasU ST (foX x ox opl oar om ov 115) := by rw [hST]; exact hXa _
      obtain ⟨BT, hBT⟩ : ∃ BT, ST.objs = σ.objs ++ BT := ⟨_, by rw [hST]⟩
      obtain ⟨T0, ps0, as0, bd0, hL⟩ : ∃ T0 ps0 as0 bd0, ST.objs[σ.objs.length + 3]? = some (.loop l .ready none T0 165 ps0 as0 bd0) := ⟨_, _, _, _, by rw [hST]; exact get_app4⟩
      have hround : ∀ (i : Nat) (τ : Store) (q : Sub × D), (subs d)[i]? = some q → (τ = foS opl om tk ST (fndS x d p sc i s)) → ACallsY Tryz.prog l [.pv (.slice (ipv q.1.p)), .pv (enc q.2)] τ fun r τ' => (r = .pv (.bool true) ∧ τ' = foS opl om tk ST (fndS x d p sc (i + 1) s)) ∨ (r = .pv (.bool false) ∧ False) := by
       rintro i τ q hq hτ
       rw [hτ]
       have hqm : q ∈ subs d := List.mem_of_getElem? hq
       have hqs := subs_lt hqm
       have hqp := subs_plen hqm
       have hql := (List.getElem?_eq_some_iff.1 hq).1
       have hbi : (fnd x q.2 (p ++ q.1.p) sc (fndS x d p sc i s)).1.length ≤ 1000000000 := by rw [← fndS_next hq]; exact Nat.le_trans (fndS_le (k := (subs d).length) (by omega) (Nat.le_refl _)) (by rw [fndS_all hkk2]; exact hb)
       rw [fndS_next hq]
       generalize fndS x d p sc i s = R at hbi ⊢
       have e0 : (foS opl om tk ST R).objs[σ.objs.length]? = some (.box [.pv (wPV p)]) := (hs0 _ _).trans f0
       have e1 : (foS opl om tk ST R).objs[σ.objs.length + 1]? = some (.box [.pv ((encScG PV.str) sc)]) := (hs1 _ _).trans f1
       have ev : (foS opl om tk ST R).objs[ov]? = some (.box [.func (.func 115) [.ptr ox 0, .ptr opl 0, .ptr oar 0, .ptr ov 0]]) := (hsov _ _).trans fv
       have eL := (hs3 ST R).trans hL
       have hUR := (hUS.upd (s2 := R) hne).set (ob := .loop l .busy none T0 165 ps0 as0 bd0) (i := σ.objs.length + 3) (hks _ (by omega))
       have hXR := hasU_set (ob := .loop l .busy none T0 165 ps0 as0 bd0) (foX_has (tk := tk) H (s := R) hXS) (i := σ.objs.length + 3) (by intro hm; obtain ⟨q, hq, e⟩ := List.mem_map.1 hm; have := hXU.lt hq; omega)
       have hvl : ov ≠ σ.objs.length + 3 := by have := (List.getElem?_eq_some_iff.1 gov).1; omega
       have evs : ∀ ob, ((foS opl om tk ST R).objs.set (σ.objs.length + 3) ob)[ov]? = some (.box [.func (.func 115) [.ptr ox 0, .ptr opl 0, .ptr oar 0, .ptr ov 0]]) := fun ob => (List.getElem?_set_ne (fun e => hvl e.symm)).trans ev
       refine acallsY_of (o := σ.objs.length + 3) ((foS_ne (hks (σ.objs.length + 3) (by omega))).trans (by rw [hST]; exact get_app4)) rfl rfl ?_
       refine sS ?_
       refine aS ?_
       refine ⟨_, _, _, _, _, _, Eq.trans (b := some (.loop l .ready none T0 165 ps0 as0 bd0)) (by simp [go_sem, hs3, hL]) rfl, ?_⟩
       refine awp_block (awp_regDP tyOk tySz 6 (by kernel_rfl) (by decide) ?_)
       refine ul_run 4 (by simp [go_sem, hs0, foS_gl, f0, evs] <;> rfl) ?_
       refine ul_fn (by first | (intro _ _ hh; exact hh) | simp [go_sem]) rfl rfl rfl rfl (by simp [go_sem] <;> rfl) call101 ((c_joinW p q.1.p (by omega) (by omega) hqp.1) _ (by exact hglS.trans hgl)) (by simp [go_sem, foS_gl] <;> rfl) (by simp [go_sem, hcn]) rfl rfl ?_
       refine ul_run 1 (by simp [go_sem, hs1, foS_gl, f1] <;> rfl) ?_
       refine ul_nil ?_
       refine al_callW rfl rfl rfl (by simp [go_sem] <;> rfl) call115 (ih q hqm (by omega) (p ++ q.1.p) (by rw [List.length_append]; omega) (pth_app hpp (subs_pth hd hqm)) sc R hbi _ (by exact hglS.trans hgl) hUR hXR) (by simp [go_sem] <;> rfl) (by simp [go_sem]) rfl rfl ?_
       rintro r σ' ⟨rfl, rfl⟩
       refine al_nil (⟨_, _, _, _, _, _, Eq.trans (b := some (.loop l .busy none T0 165 ps0 as0 bd0)) (by simp [go_sem, hs3, hL, set_at]) rfl, ?_⟩)
       refine .inl ⟨rfl, ?_⟩
       exact (foS_rec (Y := foS opl om tk ST R) (hks _ (by omega)) eL).trans (foS_twice hne hUS.2)
      refine (ACalls.args (c_PartsIt d (by omega) (σ.objs.length + 2) l (fun i τ => τ = foS opl om tk ST (fndS x d p sc i s)) (fun _ => False) (fun i τ h => by rw [h]; exact hglS.trans hgl) (fun i τ h => by rw [h]; exact (foS_ne (hks _ (by omega))).trans f2) hround ST hUS.self.symm) (by simp [go_sem])).mono ?_
      rintro _ τ' (hτ | ⟨⟨⟩⟩)
      ·rw [hτ, fndS_all hkk2]
       have eL2 := (hs3 ST (fnd x d p sc s)).trans hL
       refine ⟨_, _, _, _, _, _, _, Eq.trans (b := some (.loop l .ready none T0 165 ps0 as0 bd0)) (by simp [go_sem, hs3, hL]) rfl, by decide, ?_⟩
       first | (show Go.Aw.Ends ty _ _ Go.Exit.normal _) | (simp only [InBlock]; done) | simp only [InBlock] | unfold InBlock
       refine ends_normal (by first | rfl | (simp [go_sem] <;> rfl)) (by first | rfl | simp [go_sem]) ?_
       refine ⟨rfl, ?_⟩
       refine cutSet_of (by first | omega | (simp [go_sem]; done) | (simp [go_sem]; omega)) ?_
       rw [hST2, hBT]
       exact hcut _ _

end Go.Proofs.YtigideidmcmfbaaGreatDoor

namespace Go.Proofs.YtigideidmcmfbaaGreatDoor
open Go Go.Aw
variable {kr : KR}
set_option maxHeartbeats 1000000 in
theorem c_found (d : D) (x : ByteArray) (hd : d.size ≤ 100000000) (hb : (fnd x d [] [] ([], [])).1.length ≤ 1000000000) (σ : Store) (hgl : σ.gl = (GL kr)) : ACalls Tryz.prog 79 [.pv (enc d), .pv (.str x)] σ (fun r σ' => r = .tuple [.acc ((fnd x d [] [] ([], [])).1.map wPV) σ.toks.length, .map (σ.objs.length + 3)] ∧ σ' = (⟨σ.gl, σ.objs ++ [AObj.box [.pv (.str x)], AObj.box [.acc ((fnd x d [] [] ([], [])).1.map wPV) σ.toks.length], AObj.box [.map (σ.objs.length + 3)], AObj.map (tK (fnd x d [] [] ([], [])).2) (tV (fnd x d [] [] ([], [])).2)], σ.toks ++ [⟨(fnd x d [] [] ([], [])).1.length, 44, 1⟩]⟩ : Store)) := by
 have hH : FnH x σ.objs.length (σ.objs.length + 1) (σ.objs.length + 2) (σ.objs.length + 3) (σ.objs.length + 4) 115 := ⟨by omega, fun q hq => by simp [foX] at hq; rcases hq with rfl | rfl | rfl <;> simp <;> omega⟩
 refine ACalls.keepTo2 (σ.objs.length + 4) (σ.toks.length + 1) (by omega) (by omega) (fun ob hob => ?_) ?_
 · rcases List.mem_append.1 hob with h | h
   · exact .inl h
   · refine .inr ?_
     simp only [List.mem_cons, List.not_mem_nil, or_false] at h
     rcases h with rfl | rfl | rfl | rfl <;> simp [AObj.clo, AV.clos, AV.clo]
 refine acalls_of tyOk Tryz.func79 rfl (by simp [Tryz.f79]) ?_
 refine awp_seq (awp_region_run (sh := [3, 4, 5]) tyOk (by simp [go_sem] <;> rfl) ?_)
 refine awp_seq (awp_adoptO (σ.objs.length + 1) 44 1 (by simp [go_sem]) ?_)
 simp only [set_app1]
 refine aS ?_
 refine awp_seq (awp_region_run (sh := [6]) tyOk (by simp [go_sem] <;> rfl) ?_)
 refine sS ?_
 refine sG ?_
 refine aT 2 ?_
 refine al_callW rfl rfl rfl (by simp [go_sem] <;> rfl) call115 (c_visit (tk := σ.toks.length) hH d hd [] (by simp; omega) (by intro j hj; simp at hj) [] ([], []) hb _ (by exact hgl) ⟨by intro q hq; simp [foU] at hq; rcases hq with rfl | rfl <;> simp [tK, tV], by simp⟩ (by intro q hq; simp [foX] at hq; rcases hq with rfl | rfl | rfl <;> simp)) (by simp [go_sem] <;> rfl) (by simp [go_sem, wPV, encScG]) rfl rfl ?_
 rintro r σ' ⟨rfl, rfl⟩
 rw [foS_new]
 refine al_nil (awp_seq (awp_regEnum tyOk tySz [[0, 1, 2, 3], [1, 0, 2, 3], [0, 2, 1, 3]] (by kernel_rfl) ?_))
 intro l hl
 simp only [List.mem_cons, List.not_mem_nil, or_false] at hl
 rcases hl with rfl | rfl | rfl
 ·show AOpsL _ _ _ _ [_, _, _, _] _ _
  refine aT 4 ?_
  refine al_nil (awp_ret (eR ?_))
  exact ⟨by simp [go_sem], by simp [go_sem]⟩
 ·show AOpsL _ _ _ _ [_, _, _, _] _ _
  refine aT 4 ?_
  refine al_nil (awp_ret (eR ?_))
  exact ⟨by simp [go_sem], by simp [go_sem]⟩
 ·show AOpsL _ _ _ _ [_, _, _, _] _ _
  refine aT 4 ?_
  refine al_nil (awp_ret (eR ?_))
  exact ⟨by simp [go_sem], by simp [go_sem]⟩

end Go.Proofs.YtigideidmcmfbaaGreatDoor

namespace Go.Proofs.YtigideidmcmfbaaGreatDoor
open Go Go.Aw
variable {kr : KR}
set_option maxHeartbeats 1000000 in
theorem c_sbTo (inn arn S : List ByteArray) (hS : S.length ≤ 2000000000) (p : List Int) (hl : p.length ≤ 400000000) (hp : ∀ j, j ∈ p → 0 ≤ j ∧ j ≤ 1000000000) (i : Int) (hi0 : 0 ≤ i) (hi1 : i ≤ 1000000000) (x : ByteArray) (oi mi oa ma oe me : Nat) (σ : Store) (hgl : σ.gl = (GL kr)) (g1 : σ.objs[oi]? = some (.box [.map mi])) (g2 : σ.objs[mi]? = some (.map (tK inn) (tV inn))) (g3 : σ.objs[oa]? = some (.box [.map ma])) (g4 : σ.objs[ma]? = some (.map (tK arn) (tV arn))) (g5 : σ.objs[oe]? = some (.box [.map me])) (g6 : σ.objs[me]? = some (.map (tK S) (tV S))) : ACalls Tryz.prog 82 [.pv (wPV p), .pv (.int .i64 i), .pv (.str x), .ptr oi 0, .ptr oa 0, .ptr oe 0] σ (fun r σ' => r = .pv (.str (sbTo inn arn p i x S).1) ∧ σ' = updS σ [(me, AObj.map (tK (sbTo inn arn p i x S).2) (tV (sbTo inn arn p i x S).2))]) := by
 have hlk1 := fun (z : St) (ho : z.σ.objs[mi]? = some (.map (tK inn) (tV inn))) => look_set (ty := ty) (s := z) (t := 78) (S := inn) (o := mi) rfl rfl rfl rfl rfl rfl rfl ho (x)
 have hlk2 := fun (z : St) (ho : z.σ.objs[ma]? = some (.map (tK arn) (tV arn))) => look_set (ty := ty) (s := z) (t := 78) (S := arn) (o := ma) rfl rfl rfl rfl rfl rfl rfl ho (bkS p i)
 have hml := (List.getElem?_eq_some_iff.1 g6).1
 have hwcl := wPV_cells p
 have hwcn := wPV_nrm p
 unfold PV.nrm at hwcn
 have hc1 : ∀ R, Store.cut (setS σ me R) σ.objs.length σ.toks.length = updS σ [(me, AObj.map (tK R) (tV R))] := fun R => setS_cut
 have hc2 : Store.cut σ σ.objs.length σ.toks.length = updS σ [(me, AObj.map (tK S) (tV S))] := by rw [updS_self (by intro q hq; rw [List.mem_singleton] at hq; subst hq; exact g6)]; simp [Store.cut]
 refine updAtW (by intro q hq; rw [List.mem_singleton] at hq; subst hq; rfl) ?_
 refine acalls_of tyOk Tryz.func82 rfl (by simp [Tryz.f82]) ?_
 refine sS ?_
 refine awp_seq (awp_seq (awp_regDP tyOk tySz 8 (by kernel_rfl) (by decide) ?_))
 refine ul_run 4 (by simp [go_sem, g1, g2, hlk1] <;> rfl) ?_
 refine ul_splitT 13 (by first | rfl | (simp [go_sem, g1, g2, g3, g4, g5, g6, hlk1, hlk2, hwcl, hwcn] <;> rfl)) (fun h0 => ?_) (fun h0 => ?_)
 ·refine ul_runG 3 13 true true (by simp [go_sem]) rfl (by simp [go_sem]) rfl rfl (by simp [go_sem, g3] <;> rfl) ?_
  refine ul_fnG 13 true true (by simp [go_sem]) rfl (by first | (intro _ _ hh; exact hh) | simp [go_sem]) (by simp [go_sem]) rfl rfl rfl (by simp [go_sem] <;> rfl) call83 ((c_key p i ⟨by omega, by omega⟩ hl hp) _ (by exact hgl)) (by simp [go_sem] <;> rfl) (by simp [go_sem, hwcn]) rfl rfl ?_
  refine ul_nil ?_
  refine aLG 1 13 true (by simp [go_sem, g4, hlk2] <;> rfl) ?_
  refine aT 1 ?_
  refine al_nil (awp_cond (by first | rfl | (simp [go_sem, g1, g2, g3, g4, g5, g6, hlk1, hlk2, hwcl, hwcn] <;> rfl)) (fun h1 => ?_) (fun h1 => ?_))
  ·refine awp_seq (awp_reg ?_)
   refine aL 1 (by simp [go_sem, g5] <;> rfl) ?_
   refine al_callW rfl rfl rfl (by simp [go_sem] <;> rfl) call53 (c_frsh S hS 0 (by omega) me _ (by exact hgl) (by exact g6)) (by simp [go_sem] <;> rfl) (by simp [go_sem]) rfl rfl ?_
   rintro r σ' ⟨rfl, rfl⟩
   refine aT 1 ?_
   refine al_nil (awp_ret (then_ret (eR ?_)))
   refine ⟨by simp only [sbTo, h0, h1, bF, if_true]; simp [go_sem], ?_⟩
   simp only [sbTo, h0, h1, bF, if_true]
   first | exact hc1 _ | exact hc2
  ·refine awp_skip (sS ?_)
   refine awp_ret (eR ?_)
   refine ⟨by simp only [sbTo, h0, h1, bH, Bool.false_eq_true, if_false]; simp [go_sem], ?_⟩
   simp only [sbTo, h0, h1, bH, Bool.false_eq_true, if_false]
   first | exact hc1 _ | exact hc2
 ·refine ul_skip 4 13 true (by simp [go_sem]) (by simp [go_sem]) rfl rfl ?_
  refine ul_nil ?_
  refine aK 1 13 true ?_
  refine aT 1 ?_
  refine al_nil (awp_cond (b := false) (by simp [go_sem]) (fun h => ?_) (fun h => ?_))
  ·cases h
  refine awp_skip (sS ?_)
  refine awp_ret (eR ?_)
  refine ⟨by simp only [sbTo, h0, bG, Bool.false_eq_true, if_false]; simp [go_sem], ?_⟩
  simp only [sbTo, h0, bG, Bool.false_eq_true, if_false]
  first | exact hc1 _ | exact hc2

end Go.Proofs.YtigideidmcmfbaaGreatDoor

namespace Go.Proofs.YtigideidmcmfbaaGreatDoor
open Go Go.Aw
variable {kr : KR}
def sbMs (me : Nat) (S : List ByteArray) : List (Nat × AObj) := [(me, AObj.map (tK S) (tV S))]
theorem sbToH (inn arn : List ByteArray) (L0 : Nat) (hL : L0 ≤ 1000000000) (oi mi oa ma oe me : Nat) (hd : me ∉ [oi, mi, oa, ma, oe]) :
    ToH Tryz.prog (GL kr) (sbMs me) [me] [(oi, .box [.map mi]), (mi, .map (tK inn) (tV inn)), (oa, .box [.map ma]), (ma, .map (tK arn) (tV arn)), (oe, .box [.map me])] 82 [.ptr oi 0, .ptr oa 0, .ptr oe 0] (sbTo inn arn) (fun m S => S.length ≤ L0 + m) := by
  simp only [List.mem_cons, List.not_mem_nil, or_false, not_or] at hd
  refine ⟨fun _ => rfl, by simp, fun q hq => ?_, call82, rfl, fun s no nt h q hq => ?_, fun p i x m s h => ?_, fun p i x m s σ hl hp h0 h1 hg hm hgl hU hX => ?_⟩
  · simp only [List.mem_cons, List.not_mem_nil, or_false] at hq ⊢
    rcases hq with rfl | rfl | rfl | rfl | rfl
    · exact fun e => hd.1 e.symm
    · exact fun e => hd.2.1 e.symm
    · exact fun e => hd.2.2.1 e.symm
    · exact fun e => hd.2.2.2.1 e.symm
    · exact fun e => hd.2.2.2.2 e.symm
  · rw [sbMs, List.mem_singleton] at hq; subst hq; rfl
  · have := sbTo_len inn arn p i x s; omega
  · exact c_sbTo inn arn s (by omega) p hl hp i h0 h1 x oi mi oa ma oe me σ hgl (hX (oi, _) (by simp)) (hX (mi, _) (by simp)) (hX (oa, _) (by simp)) (hX (ma, _) (by simp)) (hX (oe, _) (by simp)) (hU (me, _) (by simp [sbMs]))
def isNmW (x : ByteArray) : Bool := isSym isAtom x && wordN x == 0
def sSubst (e : D) (x : ByteArray) (a : D) : D × Int :=
  if (sis e != 0) = true then (dnone, sis e) else if (sis a != 0) = true then (dnone, sis a) else if (!isNmW x) = true then (dnone, 4) else if (dcheck (sbRes e x a) != 0) = true then (dnone, 3) else (sbRes e x a, 0)

set_option maxHeartbeats 1000000 in
theorem c_sIsName (x : ByteArray) : Pur Tryz.prog (GL kr) 42 [.pv (.str x)] (.pv (.bool (isNmW x))) := by
 refine pur_of fun σ hgl => ?_
 have hgw : lookupG σ.gl 0 = some (.ptr [.map (wdK kr) (wdV kr)]) := by rw [hgl]; exact gl_wd
 have hlw := fun (s : St) (x : ByteArray) => look_wd (W := kr) (ty := ty) (s := s) (t := 116) (x := x) rfl rfl rfl rfl rfl rfl rfl
 refine acalls_of tyOk Tryz.func42 rfl (by simp [Tryz.f42]) ?_
 refine sS ?_
 refine sG ?_
 refine aT 1 ?_
 refine aG call87 ((c_datum_IsSymbol x) _ (by exact hgl)) ?_
 refine aT 1 ?_
 refine al_splitT 5 (by first | rfl | (simp [go_sem, hgw, hlw] <;> rfl)) (fun h0 => ?_) (fun h0 => ?_)
 ·refine aLG 4 5 true (by simp [go_sem, hgw, hlw] <;> rfl) ?_
  refine aT 2 ?_
  refine al_nil (awp_ret (eR ?_))
  exact ⟨by simp only [isNmW, h0, bE]; simp [go_sem], by simp [go_sem]⟩
 ·refine aK 4 5 true ?_
  refine aT 2 ?_
  refine al_nil (awp_ret (eR ?_))
  exact ⟨by simp only [isNmW, h0, bG]; simp [go_sem], by simp [go_sem]⟩

end Go.Proofs.YtigideidmcmfbaaGreatDoor

namespace Go.Proofs.YtigideidmcmfbaaGreatDoor
open Go Go.Aw
variable {kr : KR}
theorem sis_formed {d : D} (h : sis d = 0) : formed d = true := by
  unfold sis schk at h
  split at h
  · rename_i h1
    simp only at h
    rw [h] at h1; cases h1
  · rename_i h1
    have h2 : dcheck d = 0 := by simpa using h1
    unfold dcheck at h2
    split at h2
    · cases h2
    · rename_i h3; simpa using h3
theorem pre6 {A : List AObj} {a b c d e y : AObj} {o : Nat} {ob : AObj} (h : (A ++ [a, b, c, d, e])[o]? = some ob) : (A ++ [a, b, c, d, e, y])[o]? = some ob := by
  have : A ++ [a, b, c, d, e, y] = (A ++ [a, b, c, d, e]) ++ [y] := by simp
  rw [this]; exact snoc_left h
theorem pre7 {A : List AObj} {a b c d e y z : AObj} {o : Nat} {ob : AObj} (h : (A ++ [a, b, c, d, e])[o]? = some ob) : (A ++ [a, b, c, d, e, y, z])[o]? = some ob := by
  have : A ++ [a, b, c, d, e, y, z] = (A ++ [a, b, c, d, e, y]) ++ [z] := by simp
  rw [this]; exact snoc_left (pre6 h)
theorem wPV_elems (p : List Int) : (AV.pv (wPV p)).elems = some (ipv p) := by
  unfold wPV
  split
  · subst_vars; rfl
  · rfl
theorem D.sub_len : ∀ (p : List Int) (d y : D), d.sub p = some y → p.length < d.size
  | [], d, y, _ => D.size_pos d
  | i :: p, d, y, h => by
    simp only [D.sub] at h
    split at h
    · obtain ⟨c, hc, h⟩ := Option.bind_eq_some_iff.1 h
      have h1 := D.sub_len p c y h
      have h2 := D.size_kid_lt (List.mem_of_getElem? hc)
      simp only [List.length_cons]; omega
    · cases h
theorem dCells_mk (d : D) : mkAgg (List.take 4 (dCells d)) = .pv (enc d) := by rw [enc_eq]; rfl
theorem setS7a {g : List (Nat × PV)} {A : List AObj} {t : List Tok} {a b c d e y z : AObj} {R : List ByteArray} : setS ⟨g, A ++ [a, b, c, d, e, y, z], t⟩ (A.length + 5) R = ⟨g, A ++ [a, b, c, d, e, .map (tK R) (tV R), z], t⟩ := by
  unfold setS
  simp only
  rw [List.set_append_right _ _ (by omega), Nat.add_sub_cancel_left]; rfl
theorem setS7b {g : List (Nat × PV)} {A : List AObj} {t : List Tok} {a b c d e y z : AObj} {R : List ByteArray} : setS ⟨g, A ++ [a, b, c, d, e, y, z], t⟩ (A.length + 6) R = ⟨g, A ++ [a, b, c, d, e, y, .map (tK R) (tV R)], t⟩ := by
  unfold setS
  simp only
  rw [List.set_append_right _ _ (by omega), Nat.add_sub_cancel_left]; rfl
theorem cut7 {g : List (Nat × PV)} {A : List AObj} {t : List Tok} {a b c d e y z : AObj} : Store.cut ⟨g, A ++ [a, b, c, d, e, y, z], t⟩ (A.length + 5) t.length = ⟨g, A ++ [a, b, c, d, e], t⟩ := by
  unfold Store.cut
  simp only
  rw [List.take_length, show A ++ [a, b, c, d, e, y, z] = (A ++ [a, b, c, d, e]) ++ [y, z] by simp, List.take_left' (by simp)]
theorem upd9 {g : List (Nat × PV)} {A : List AObj} {t : List Tok} {a b c d e y z v w : AObj} {R : List ByteArray} : (updS ⟨g, A ++ [a, b, c, d, e, y, z, v, w], t⟩ (sbMs (A.length + 6) R)).objs = A ++ [a, b, c, d, e, y, .map (tK R) (tV R), v, w] := by
  unfold updS sbMs
  simp only [setAll]
  rw [List.set_append_right _ _ (by omega), Nat.add_sub_cancel_left]; rfl

set_option maxHeartbeats 8000000 in
theorem c_Subst (e : D) (x : ByteArray) (a : D) (he : e.size ≤ 100000000) (ha : a.size ≤ 100000000) (hb : (fnd x e [] [] ([], [])).1.length ≤ 1000000000) (hrs : (sbRes e x a).size ≤ 1000000000) : Pur Tryz.prog (GL kr) 39 [.pv (enc e), .pv (.str x), .pv (enc a)] (.tuple [.pv (enc (sSubst e x a).1), .pv (.int .i64 (sSubst e x a).2)]) := by
 refine pur_of fun σ hgl => ?_
 have hw1 : IntKind.i64.wrap 1 = 1 := by decide
 have hw2 : IntKind.i64.wrap 2 = 2 := by decide
 have hF := c_found (kr := kr) e x he hb
 obtain ⟨PL, hPL⟩ : ∃ PL, PL = fnd x e [] [] ([], []) := ⟨_, rfl⟩
 rw [← hPL] at hF hb
 have hml := symSs_len [e, a] []
 have hen : ([e, a] : List D).map enc = [enc e, enc a] := rfl
 refine acalls_of tyOk Tryz.func39 rfl (by simp [Tryz.f39]) ?_
 refine sS ?_
 refine awp_seq (sS ?_)
 refine awp_block (awp_loopL (awpL_round ?_))
 refine sS ?_
 refine awp_seq (awp_cond (b := true) (by simp [go_sem]) (fun h => ?_) (fun h => ?_))
 rotate_left
 ·cases h
 refine awp_skip (awp_seq (awp_block (sS ?_)))
 refine sG ?_
 refine aT 1 ?_
 refine aG call44 ((c_sIs e he) _ (by exact hgl)) ?_
 refine aT 1 ?_
 refine al_nil (sS ?_)
 refine awp_cond (by first | rfl | (simp [go_sem, hw1, hw2, AD.av_cells, AD.cells_len, lay_cells_noL] <;> rfl)) (fun h0 => ?_) (fun h0 => ?_)
 ·refine awp_seq (aS ?_)
  refine awp_ret (inBlock_ret (then_ret (then_ret (inBlock_ret (then_ret (eR ?_))))))
  exact ⟨by simp only [sSubst, h0, if_true, enc_none]; simp [go_sem], by simp [go_sem]⟩
 ·refine awp_skip (aR (by simp [go_sem, hw1] <;> rfl) ?_)
  refine awpL_round ?_
  refine sS ?_
  refine awp_seq (awp_cond (b := true) (by simp [go_sem]) (fun h => ?_) (fun h => ?_))
  rotate_left
  ·cases h
  refine awp_skip (awp_seq (awp_block (sS ?_)))
  refine sG ?_
  refine aT 1 ?_
  refine aG call44 ((c_sIs a ha) _ (by exact hgl)) ?_
  refine aT 1 ?_
  refine al_nil (sS ?_)
  refine awp_cond (by first | rfl | (simp [go_sem, hw1, hw2, AD.av_cells, AD.cells_len, lay_cells_noL] <;> rfl)) (fun h1 => ?_) (fun h1 => ?_)
  ·refine awp_seq (aS ?_)
   refine awp_ret (inBlock_ret (then_ret (then_ret (inBlock_ret (then_ret (eR ?_))))))
   exact ⟨by simp only [sSubst, h0, h1, Bool.false_eq_true, if_true, if_false, enc_none]; simp [go_sem], by simp [go_sem]⟩
  ·refine awp_skip (aR (by simp [go_sem, hw2] <;> rfl) ?_)
   refine awpL_round ?_
   refine sS ?_
   refine awp_seq (awp_cond (b := false) (by simp [go_sem]) (fun h => ?_) (fun h => ?_))
   ·cases h
   refine awp_exit (then_exit (then_exit (inBlock_hit (awp_seq (sG ?_)))))
   refine aT 1 ?_
   refine aG call42 ((c_sIsName x) _ (by exact hgl)) ?_
   refine aT 1 ?_
   refine al_nil (awp_cond (by first | rfl | (simp [go_sem, hw1, hw2, AD.av_cells, AD.cells_len, lay_cells_noL] <;> rfl)) (fun h2 => ?_) (fun h2 => ?_))
   ·refine awp_seq (aS ?_)
    refine awp_ret (then_ret (eR ?_))
    exact ⟨by simp only [sSubst, h0, h1, h2, Bool.false_eq_true, if_true, if_false, enc_none]; simp [go_sem], by simp [go_sem]⟩
   ·refine awp_skip (sG ?_)
    refine al_run 2 (sh := [12]) tyOk (by simp [go_sem] <;> rfl) ?_
    refine al_callW rfl rfl rfl (by simp [go_sem] <;> rfl) call79 (hF _ (by exact hgl)) (by simp [go_sem] <;> rfl) (by simp [go_sem]) rfl rfl ?_
    rintro r σ' ⟨rfl, rfl⟩
    refine al_run 6 (sh := [12]) tyOk (by simp [go_sem] <;> rfl) ?_
    refine al_nil (awp_seq (awp_regDF2 tyOk tySz 1 2 7 8 (fun | true, true => [0, 1, 2, 3, 4, 5, 6, 7, 8, 9, 10] | true, false => [0, 1, 2, 3, 4, 5, 6, 8, 7, 9, 10] | false, true => [0, 2, 1, 3, 4, 5, 6, 7, 8, 9, 10] | false, false => [0, 2, 1, 3, 4, 5, 6, 8, 7, 9, 10]) (by kernel_rfl) ?_))
    intro x y
    cases x <;> cases y
    case' false.false =>
     show UL _ _ _ _ _ [_, _, _, _, _, _, _, _, _, _, _] _ _
     refine ul_run 2 (by simp [go_sem] <;> rfl) ?_
     refine ul_callW (by rintro _ _ ⟨_, rfl⟩ o ob ho; first | exact snoc_left ho | exact snoc_left (snoc_left ho) | exact snoc_left (pre6 ho) | exact pre6 ho | exact pre7 ho) rfl rfl rfl rfl (by simp [go_sem] <;> rfl) call80 (c_scFree a ha _ (by exact hgl)) (by simp [go_sem] <;> rfl) (by simp [go_sem]) rfl rfl ⟨_, _, rfl, rfl⟩ ?_
     rintro r σ' ⟨rfl, rfl⟩
     refine ul_run 3 (by simp [go_sem] <;> rfl) ?_
     refine ul_callW (by rintro _ _ ⟨_, rfl⟩ o ob ho; have hl : o < σ.objs.length + 5 := (by have h := (List.getElem?_eq_some_iff.1 ho).1; simpa [viewP] using h); first | exact pre6 ho | exact pre7 ho | exact (setS_ne (om := (σ.objs.length + 5)) (i := o) (by omega)).trans (pre7 ho) | exact (setS_ne (om := (σ.objs.length + 5)) (i := o) (by omega)).trans (snoc_left (snoc_left ho))) rfl rfl rfl rfl (by simp [go_sem] <;> rfl) call54 (c_symbols [e, a] (by simp) (by simp [D.sizes]; omega) (σ.objs.length + 5) [] _ (by exact hgl) (by simp [go_sem, tK, tV])) (by simp [go_sem] <;> rfl) (by simp [go_sem]) rfl rfl ⟨_, _, rfl, rfl⟩ ?_
     rintro r σ' ⟨rfl, rfl⟩
     refine ul_run 4 (by simp [go_sem] <;> rfl) ?_
     refine ul_nil ?_
     refine awp_seq ?_
     first | rw [setS7a] | rw [setS7b]
     refine awp_pub2 13 14 (M := σ.objs.length + 5) (nl := 5) (s2 := ⟨[(3, .lptr 0 0), (5, .lptr 1 0), (6, .lptr 2 0), (7, .pv (.int .i64 0)), (11, .acc (PL.1.map wPV) σ.toks.length), (12, .ptr (σ.objs.length + 4) 0)], [[.pv (.int .i64 e.kind), .pv (.int .i64 e.num), .pv (.str e.text), .pv (.slice (e.kids.map enc))], [.pv (.int .i64 a.kind), .pv (.int .i64 a.num), .pv (.str a.text), .pv (.slice (a.kids.map enc))], [.pv (.int .i64 0), .pv (.int .i64 0), .pv (.str ⟨#[]⟩), .pv .nils], [.pv (.int .i64 e.kind), .pv (.int .i64 e.num), .pv (.str e.text), .pv (.slice (e.kids.map enc))], [.pv (.int .i64 a.kind), .pv (.int .i64 a.num), .pv (.str a.text), .pv (.slice (a.kids.map enc))]], (⟨σ.gl, σ.objs ++ [AObj.box [.pv (.str x)], AObj.box [.acc (PL.1.map wPV) σ.toks.length], AObj.box [.map (σ.objs.length + 3)], AObj.map (tK PL.2) (tV PL.2), AObj.box [.map (σ.objs.length + 3)]], σ.toks ++ [(⟨PL.1.length, 44, 1⟩ : Tok)]⟩ : Store)⟩) (ks := tK (sfree a [] [])) (vs := tV (sfree a [] [])) (ks' := tK (symSs [e, a] [])) (vs' := tV (symSs [e, a] [])) rfl rfl (by decide) rfl rfl (by omega) (by simp) (by simp) (by omega) (by omega) (by decide) (by decide) (by decide) ⟨cut7.symm, rfl, by omega, by simp, by simp [go_sem], fun ob hob => ?_, by simp [go_sem]⟩ ?_
     · rcases List.mem_append.1 hob with h | h
       · exact .inl h
       · refine .inr ?_
         simp only [List.mem_cons, List.not_mem_nil, or_false] at h
         rcases h with rfl | rfl | rfl | rfl | rfl <;> simp [AObj.clo, AV.clos, AV.clo]
    case' false.true =>
     show UL _ _ _ _ _ [_, _, _, _, _, _, _, _, _, _, _] _ _
     refine ul_run 2 (by simp [go_sem] <;> rfl) ?_
     refine ul_callW (by rintro _ _ ⟨_, rfl⟩ o ob ho; first | exact snoc_left ho | exact snoc_left (snoc_left ho) | exact snoc_left (pre6 ho) | exact pre6 ho | exact pre7 ho) rfl rfl rfl rfl (by simp [go_sem] <;> rfl) call80 (c_scFree a ha _ (by exact hgl)) (by simp [go_sem] <;> rfl) (by simp [go_sem]) rfl rfl ⟨_, _, rfl, rfl⟩ ?_
     rintro r σ' ⟨rfl, rfl⟩
     refine ul_run 3 (by simp [go_sem] <;> rfl) ?_
     refine ul_callW (by rintro _ _ ⟨_, rfl⟩ o ob ho; have hl : o < σ.objs.length + 5 := (by have h := (List.getElem?_eq_some_iff.1 ho).1; simpa [viewP] using h); first | exact pre6 ho | exact pre7 ho | exact (setS_ne (om := (σ.objs.length + 5)) (i := o) (by omega)).trans (pre7 ho) | exact (setS_ne (om := (σ.objs.length + 5)) (i := o) (by omega)).trans (snoc_left (snoc_left ho))) rfl rfl rfl rfl (by simp [go_sem] <;> rfl) call54 (c_symbols [e, a] (by simp) (by simp [D.sizes]; omega) (σ.objs.length + 5) [] _ (by exact hgl) (by simp [go_sem, tK, tV])) (by simp [go_sem] <;> rfl) (by simp [go_sem]) rfl rfl ⟨_, _, rfl, rfl⟩ ?_
     rintro r σ' ⟨rfl, rfl⟩
     refine ul_run 4 (by simp [go_sem] <;> rfl) ?_
     refine ul_nil ?_
     refine awp_seq ?_
     first | rw [setS7a] | rw [setS7b]
     refine awp_pub2 13 14 (M := σ.objs.length + 5) (nl := 5) (s2 := ⟨[(3, .lptr 0 0), (5, .lptr 1 0), (6, .lptr 2 0), (7, .pv (.int .i64 0)), (11, .acc (PL.1.map wPV) σ.toks.length), (12, .ptr (σ.objs.length + 4) 0)], [[.pv (.int .i64 e.kind), .pv (.int .i64 e.num), .pv (.str e.text), .pv (.slice (e.kids.map enc))], [.pv (.int .i64 a.kind), .pv (.int .i64 a.num), .pv (.str a.text), .pv (.slice (a.kids.map enc))], [.pv (.int .i64 0), .pv (.int .i64 0), .pv (.str ⟨#[]⟩), .pv .nils], [.pv (.int .i64 e.kind), .pv (.int .i64 e.num), .pv (.str e.text), .pv (.slice (e.kids.map enc))], [.pv (.int .i64 a.kind), .pv (.int .i64 a.num), .pv (.str a.text), .pv (.slice (a.kids.map enc))]], (⟨σ.gl, σ.objs ++ [AObj.box [.pv (.str x)], AObj.box [.acc (PL.1.map wPV) σ.toks.length], AObj.box [.map (σ.objs.length + 3)], AObj.map (tK PL.2) (tV PL.2), AObj.box [.map (σ.objs.length + 3)]], σ.toks ++ [(⟨PL.1.length, 44, 1⟩ : Tok)]⟩ : Store)⟩) (ks := tK (sfree a [] [])) (vs := tV (sfree a [] [])) (ks' := tK (symSs [e, a] [])) (vs' := tV (symSs [e, a] [])) rfl rfl (by decide) rfl rfl (by omega) (by simp) (by simp) (by omega) (by omega) (by decide) (by decide) (by decide) ⟨cut7.symm, rfl, by omega, by simp, by simp [go_sem], fun ob hob => ?_, by simp [go_sem]⟩ ?_
     · rcases List.mem_append.1 hob with h | h
       · exact .inl h
       · refine .inr ?_
         simp only [List.mem_cons, List.not_mem_nil, or_false] at h
         rcases h with rfl | rfl | rfl | rfl | rfl <;> simp [AObj.clo, AV.clos, AV.clo]
    case' true.false =>
     show UL _ _ _ _ _ [_, _, _, _, _, _, _, _, _, _, _] _ _
     refine ul_run 1 (by simp [go_sem] <;> rfl) ?_
     refine ul_callW (by rintro _ _ ⟨_, rfl⟩ o ob ho; first | exact snoc_left ho | exact snoc_left (snoc_left ho) | exact snoc_left (pre6 ho) | exact pre6 ho | exact pre7 ho) rfl rfl rfl rfl (by simp [go_sem] <;> rfl) call80 (c_scFree a ha _ (by exact hgl)) (by simp [go_sem] <;> rfl) (by simp [go_sem]) rfl rfl ⟨_, _, rfl, rfl⟩ ?_
     rintro r σ' ⟨rfl, rfl⟩
     refine ul_run 4 (by simp [go_sem] <;> rfl) ?_
     refine ul_callW (by rintro _ _ ⟨_, rfl⟩ o ob ho; have hl : o < σ.objs.length + 5 := (by have h := (List.getElem?_eq_some_iff.1 ho).1; simpa [viewP] using h); first | exact pre6 ho | exact pre7 ho | exact (setS_ne (om := (σ.objs.length + 6)) (i := o) (by omega)).trans (pre7 ho) | exact (setS_ne (om := (σ.objs.length + 6)) (i := o) (by omega)).trans (snoc_left (snoc_left ho))) rfl rfl rfl rfl (by simp [go_sem] <;> rfl) call54 (c_symbols [e, a] (by simp) (by simp [D.sizes]; omega) (σ.objs.length + 6) [] _ (by exact hgl) (by simp [go_sem, tK, tV])) (by simp [go_sem] <;> rfl) (by simp [go_sem]) rfl rfl ⟨_, _, rfl, rfl⟩ ?_
     rintro r σ' ⟨rfl, rfl⟩
     refine ul_run 4 (by simp [go_sem] <;> rfl) ?_
     refine ul_nil ?_
     refine awp_seq ?_
     first | rw [setS7a] | rw [setS7b]
     refine awp_pub2 13 14 (M := σ.objs.length + 5) (nl := 5) (s2 := ⟨[(3, .lptr 0 0), (5, .lptr 1 0), (6, .lptr 2 0), (7, .pv (.int .i64 0)), (11, .acc (PL.1.map wPV) σ.toks.length), (12, .ptr (σ.objs.length + 4) 0)], [[.pv (.int .i64 e.kind), .pv (.int .i64 e.num), .pv (.str e.text), .pv (.slice (e.kids.map enc))], [.pv (.int .i64 a.kind), .pv (.int .i64 a.num), .pv (.str a.text), .pv (.slice (a.kids.map enc))], [.pv (.int .i64 0), .pv (.int .i64 0), .pv (.str ⟨#[]⟩), .pv .nils], [.pv (.int .i64 e.kind), .pv (.int .i64 e.num), .pv (.str e.text), .pv (.slice (e.kids.map enc))], [.pv (.int .i64 a.kind), .pv (.int .i64 a.num), .pv (.str a.text), .pv (.slice (a.kids.map enc))]], (⟨σ.gl, σ.objs ++ [AObj.box [.pv (.str x)], AObj.box [.acc (PL.1.map wPV) σ.toks.length], AObj.box [.map (σ.objs.length + 3)], AObj.map (tK PL.2) (tV PL.2), AObj.box [.map (σ.objs.length + 3)]], σ.toks ++ [(⟨PL.1.length, 44, 1⟩ : Tok)]⟩ : Store)⟩) (ks := tK (sfree a [] [])) (vs := tV (sfree a [] [])) (ks' := tK (symSs [e, a] [])) (vs' := tV (symSs [e, a] [])) rfl rfl (by decide) rfl rfl (by omega) (by simp) (by simp) (by omega) (by omega) (by decide) (by decide) (by decide) ⟨cut7.symm, rfl, by omega, by simp, by simp [go_sem], fun ob hob => ?_, by simp [go_sem]⟩ ?_
     · rcases List.mem_append.1 hob with h | h
       · exact .inl h
       · refine .inr ?_
         simp only [List.mem_cons, List.not_mem_nil, or_false] at h
         rcases h with rfl | rfl | rfl | rfl | rfl <;> simp [AObj.clo, AV.clos, AV.clo]
    case' true.true =>
     show UL _ _ _ _ _ [_, _, _, _, _, _, _, _, _, _, _] _ _
     refine ul_run 1 (by simp [go_sem] <;> rfl) ?_
     refine ul_callW (by rintro _ _ ⟨_, rfl⟩ o ob ho; first | exact snoc_left ho | exact snoc_left (snoc_left ho) | exact snoc_left (pre6 ho) | exact pre6 ho | exact pre7 ho) rfl rfl rfl rfl (by simp [go_sem] <;> rfl) call80 (c_scFree a ha _ (by exact hgl)) (by simp [go_sem] <;> rfl) (by simp [go_sem]) rfl rfl ⟨_, _, rfl, rfl⟩ ?_
     rintro r σ' ⟨rfl, rfl⟩
     refine ul_run 4 (by simp [go_sem] <;> rfl) ?_
     refine ul_callW (by rintro _ _ ⟨_, rfl⟩ o ob ho; have hl : o < σ.objs.length + 5 := (by have h := (List.getElem?_eq_some_iff.1 ho).1; simpa [viewP] using h); first | exact pre6 ho | exact pre7 ho | exact (setS_ne (om := (σ.objs.length + 6)) (i := o) (by omega)).trans (pre7 ho) | exact (setS_ne (om := (σ.objs.length + 6)) (i := o) (by omega)).trans (snoc_left (snoc_left ho))) rfl rfl rfl rfl (by simp [go_sem] <;> rfl) call54 (c_symbols [e, a] (by simp) (by simp [D.sizes]; omega) (σ.objs.length + 6) [] _ (by exact hgl) (by simp [go_sem, tK, tV])) (by simp [go_sem] <;> rfl) (by simp [go_sem]) rfl rfl ⟨_, _, rfl, rfl⟩ ?_
     rintro r σ' ⟨rfl, rfl⟩
     refine ul_run 4 (by simp [go_sem] <;> rfl) ?_
     refine ul_nil ?_
     refine awp_seq ?_
     first | rw [setS7a] | rw [setS7b]
     refine awp_pub2 13 14 (M := σ.objs.length + 5) (nl := 5) (s2 := ⟨[(3, .lptr 0 0), (5, .lptr 1 0), (6, .lptr 2 0), (7, .pv (.int .i64 0)), (11, .acc (PL.1.map wPV) σ.toks.length), (12, .ptr (σ.objs.length + 4) 0)], [[.pv (.int .i64 e.kind), .pv (.int .i64 e.num), .pv (.str e.text), .pv (.slice (e.kids.map enc))], [.pv (.int .i64 a.kind), .pv (.int .i64 a.num), .pv (.str a.text), .pv (.slice (a.kids.map enc))], [.pv (.int .i64 0), .pv (.int .i64 0), .pv (.str ⟨#[]⟩), .pv .nils], [.pv (.int .i64 e.kind), .pv (.int .i64 e.num), .pv (.str e.text), .pv (.slice (e.kids.map enc))], [.pv (.int .i64 a.kind), .pv (.int .i64 a.num), .pv (.str a.text), .pv (.slice (a.kids.map enc))]], (⟨σ.gl, σ.objs ++ [AObj.box [.pv (.str x)], AObj.box [.acc (PL.1.map wPV) σ.toks.length], AObj.box [.map (σ.objs.length + 3)], AObj.map (tK PL.2) (tV PL.2), AObj.box [.map (σ.objs.length + 3)]], σ.toks ++ [(⟨PL.1.length, 44, 1⟩ : Tok)]⟩ : Store)⟩) (ks := tK (sfree a [] [])) (vs := tV (sfree a [] [])) (ks' := tK (symSs [e, a] [])) (vs' := tV (symSs [e, a] [])) rfl rfl (by decide) rfl rfl (by omega) (by simp) (by simp) (by omega) (by omega) (by decide) (by decide) (by decide) ⟨cut7.symm, rfl, by omega, by simp, by simp [go_sem], fun ob hob => ?_, by simp [go_sem]⟩ ?_
     · rcases List.mem_append.1 hob with h | h
       · exact .inl h
       · refine .inr ?_
         simp only [List.mem_cons, List.not_mem_nil, or_false] at h
         rcases h with rfl | rfl | rfl | rfl | rfl <;> simp [AObj.clo, AV.clos, AV.clo]
    all_goals
     refine awp_weakJL 5 (s2 := ⟨(13, .ptr (σ.objs.length + 7) 0) :: (14, .ptr (σ.objs.length + 8) 0) :: [(3, .lptr 0 0), (5, .lptr 1 0), (6, .lptr 2 0), (7, .pv (.int .i64 0)), (11, .acc (PL.1.map wPV) σ.toks.length), (12, .ptr (σ.objs.length + 4) 0)], [[.pv (.int .i64 e.kind), .pv (.int .i64 e.num), .pv (.str e.text), .pv (.slice (e.kids.map enc))], [.pv (.int .i64 a.kind), .pv (.int .i64 a.num), .pv (.str a.text), .pv (.slice (a.kids.map enc))], [.pv (.int .i64 0), .pv (.int .i64 0), .pv (.str ⟨#[]⟩), .pv .nils], [.pv (.int .i64 e.kind), .pv (.int .i64 e.num), .pv (.str e.text), .pv (.slice (e.kids.map enc))], [.pv (.int .i64 a.kind), .pv (.int .i64 a.num), .pv (.str a.text), .pv (.slice (a.kids.map enc))]], (⟨σ.gl, σ.objs ++ [AObj.box [.pv (.str x)], AObj.box [.acc (PL.1.map wPV) σ.toks.length], AObj.box [.map (σ.objs.length + 3)], AObj.map (tK PL.2) (tV PL.2), AObj.box [.map (σ.objs.length + 3)], AObj.map (tK (sfree a [] [])) (tV (sfree a [] [])), AObj.map (tK (symSs [e, a] [])) (tV (symSs [e, a] [])), AObj.box [.map (σ.objs.length + 5)], AObj.box [.map (σ.objs.length + 6)]], σ.toks ++ [(⟨PL.1.length, 44, 1⟩ : Tok)]⟩ : Store)⟩) ⟨by simp, by simp, by simp [go_sem], by simp [go_sem]⟩ ?_
     have hMl : (symSs [e, a] []).length ≤ 1000000000 := by simp [D.sizes] at hml; omega
     have hRr := c_rename (sbToH (kr := kr) (sfree a [] []) PL.2 (symSs [e, a] []).length hMl (σ.objs.length + 7) (σ.objs.length + 5) (σ.objs.length + 4) (σ.objs.length + 3) (σ.objs.length + 8) (σ.objs.length + 6) (by simp)) e he (symSs [e, a] []) (by simp) (by have := ncnt_le e; omega) (⟨σ.gl, σ.objs ++ [AObj.box [.pv (.str x)], AObj.box [.acc (PL.1.map wPV) σ.toks.length], AObj.box [.map (σ.objs.length + 3)], AObj.map (tK PL.2) (tV PL.2), AObj.box [.map (σ.objs.length + 3)], AObj.map (tK (sfree a [] [])) (tV (sfree a [] [])), AObj.map (tK (symSs [e, a] [])) (tV (symSs [e, a] [])), AObj.box [.map (σ.objs.length + 5)], AObj.box [.map (σ.objs.length + 6)]], σ.toks ++ [(⟨PL.1.length, 44, 1⟩ : Tok)]⟩ : Store) (by simp [AV.clos, AV.clo]) (by exact hgl) (by intro q hq; simp [sbMs] at hq; subst hq; simp) (by intro q hq; simp at hq; rcases hq with rfl | rfl | rfl | rfl | rfl <;> simp)
     obtain ⟨RN, hRN⟩ : ∃ RN, RN = rnRes (sbTo (sfree a [] []) PL.2) e (symSs [e, a] []) := ⟨_, rfl⟩
     have hlen9 : (σ.objs ++ [AObj.box [.pv (.str x)], AObj.box [.acc (PL.1.map wPV) σ.toks.length], AObj.box [.map (σ.objs.length + 3)], AObj.map (tK PL.2) (tV PL.2), AObj.box [.map (σ.objs.length + 3)], AObj.map (tK (sfree a [] [])) (tV (sfree a [] [])), AObj.map (tK (symSs [e, a] [])) (tV (symSs [e, a] [])), AObj.box [.map (σ.objs.length + 5)], AObj.box [.map (σ.objs.length + 6)]]).length = σ.objs.length + 9 := by simp
     rw [← hRN, upd9] at hRr
     simp only [hlen9] at hRr
     have hRe : RN.1.er = e.er := by rw [hRN]; exact rnRes_er _ _ _
     refine awp_reg ?_
     refine al_run 2 (sh := [15]) tyOk (by simp [go_sem] <;> rfl) ?_
     refine al_callW rfl rfl rfl (by simp [go_sem] <;> rfl) call81 (hRr) (by simp [go_sem] <;> rfl) (by simp [go_sem]) rfl rfl ?_
     rintro r σ' ⟨rfl, rfl⟩
     refine al_run 2 (sh := [15]) tyOk (by simp [go_sem, AD.av_cells, AD.cells_len, lay_cells_noL] <;> rfl) ?_
     refine al_nil (awp_seq (awp_seq ?_))
     obtain ⟨A, hA⟩ : ∃ A, A = (σ.objs ++ [AObj.box [.pv (.str x)], AObj.box [.acc (PL.1.map wPV) σ.toks.length], AObj.box [.map (σ.objs.length + 3)], AObj.map (tK PL.2) (tV PL.2), AObj.box [.map (σ.objs.length + 3)], AObj.map (tK (sfree a [] [])) (tV (sfree a [] [])), AObj.map (tK RN.2) (tV RN.2), AObj.box [.map (σ.objs.length + 5)], AObj.box [.map (σ.objs.length + 6)]]) ++ AObj.box [.func (.func 82) [.ptr (σ.objs.length + 7) 0, .ptr (σ.objs.length + 4) 0, .ptr (σ.objs.length + 8) 0]] :: lobjs (σ.objs.length + 9 + 1) RN.1 := ⟨_, rfl⟩
     have hAl : A.length = σ.objs.length + 10 + msz RN.1 := by rw [hA]; simp [lobjs_len]; omega
     refine awp_weakJL 5 (s2 := ⟨[(15, .ptr A.length 0), (5, .lptr 1 0), (6, .lptr 2 0), (7, .pv (.int .i64 0)), (11, .acc (PL.1.map wPV) σ.toks.length)], [[.pv (.int .i64 e.kind), .pv (.int .i64 e.num), .pv (.str e.text), .pv (.slice (e.kids.map enc))], [.pv (.int .i64 a.kind), .pv (.int .i64 a.num), .pv (.str a.text), .pv (.slice (a.kids.map enc))], [.pv (.int .i64 0), .pv (.int .i64 0), .pv (.str ⟨#[]⟩), .pv .nils], [.pv (.int .i64 e.kind), .pv (.int .i64 e.num), .pv (.str e.text), .pv (.slice (e.kids.map enc))], [.pv (.int .i64 a.kind), .pv (.int .i64 a.num), .pv (.str a.text), .pv (.slice (a.kids.map enc))]], (⟨σ.gl, A ++ [AObj.box (lay (σ.objs.length + 9 + 1) RN.1).cells], σ.toks ++ [(⟨PL.1.length, 44, 1⟩ : Tok)]⟩ : Store)⟩) ⟨by simp [go_sem, hA], by simp [go_sem], by simp [go_sem, hA], by simp [go_sem]⟩ ?_
     refine awp_boxArr A.length (lay (σ.objs.length + 9 + 1) RN.1).cells (by simp) ?_
     simp only [set_snoc]
     have hok0 : GOk σ.gl (σ.toks ++ [(⟨PL.1.length, 44, 1⟩ : Tok)]) σ.objs.length A.length (A ++ [AObj.arr (lay (σ.objs.length + 9 + 1) RN.1).cells], (lay (σ.objs.length + 9 + 1) RN.1)) := by
      refine ⟨fun q hq => ?_, ?_, fun i hi => ?_⟩
      · rcases List.mem_cons.1 hq with rfl | hq
        · exact get_mid rfl
        · have h3 := lay_has (σ := ⟨σ.gl, A ++ [AObj.arr (lay (σ.objs.length + 9 + 1) RN.1).cells], σ.toks ++ [(⟨PL.1.length, 44, 1⟩ : Tok)]⟩) (A := (σ.objs ++ [AObj.box [.pv (.str x)], AObj.box [.acc (PL.1.map wPV) σ.toks.length], AObj.box [.map (σ.objs.length + 3)], AObj.map (tK PL.2) (tV PL.2), AObj.box [.map (σ.objs.length + 3)], AObj.map (tK (sfree a [] [])) (tV (sfree a [] [])), AObj.map (tK RN.2) (tV RN.2), AObj.box [.map (σ.objs.length + 5)], AObj.box [.map (σ.objs.length + 6)]]) ++ [AObj.box [.func (.func 82) [.ptr (σ.objs.length + 7) 0, .ptr (σ.objs.length + 4) 0, .ptr (σ.objs.length + 8) 0]]]) (C := [AObj.arr (lay (σ.objs.length + 9 + 1) RN.1).cells]) (d := RN.1) (by simp [hA])
          rw [show ((σ.objs ++ [AObj.box [.pv (.str x)], AObj.box [.acc (PL.1.map wPV) σ.toks.length], AObj.box [.map (σ.objs.length + 3)], AObj.map (tK PL.2) (tV PL.2), AObj.box [.map (σ.objs.length + 3)], AObj.map (tK (sfree a [] [])) (tV (sfree a [] [])), AObj.map (tK RN.2) (tV RN.2), AObj.box [.map (σ.objs.length + 5)], AObj.box [.map (σ.objs.length + 6)]]) ++ [AObj.box [.func (.func 82) [.ptr (σ.objs.length + 7) 0, .ptr (σ.objs.length + 4) 0, .ptr (σ.objs.length + 8) 0]]]).length = σ.objs.length + 9 + 1 by simp] at h3
          exact h3 q hq
      · rw [rootU_keys, lay_keys]
        exact List.nodup_cons.2 ⟨by rw [List.mem_range'_1]; omega, List.nodup_range'⟩
      · rw [rootU_keys, lay_keys] at hi
        rcases List.mem_cons.1 hi with e | hi
        · omega
        · rw [List.mem_range'_1] at hi; omega
     have hse : sis e = 0 := by first | simpa using HSE | simp_all
     have hPl2 : PL = sbPl e x := hPL
     have hsb : ∀ p, p ∈ PL.1 → ∃ y, (lay (σ.objs.length + 9 + 1) RN.1).sub p = some y := fun p hp => by
       rw [hPl2] at hp
       obtain ⟨y, hy, _⟩ := places_sub hp
       obtain ⟨z, hz, _⟩ := D.sub_of_er hRe hy
       obtain ⟨u, hu, _⟩ := lay_sub p RN.1 (σ.objs.length + 9 + 1) hz
       exact ⟨u, hu⟩
     have hap : ApartP PL.1 := by rw [hPl2]; exact places_apart (sis_formed hse)
     have h0n : ∀ p, p ∈ PL.1 → ∀ j, j ∈ p → 0 ≤ j := fun p hp j hj => by
       rw [hPl2] at hp
       obtain ⟨y, hy, _⟩ := places_sub hp
       exact (sub_pth he hy j hj).1
     have hG := gK_ok hok0 a hsb hap h0n
     have hpln : ∀ p, p ∈ PL.1 → p.length ≤ 100000000 := fun p hp => by
       rw [hPl2] at hp
       obtain ⟨y, hy, _⟩ := places_sub hp
       have := D.sub_len p e y hy; omega
     refine aS ?_
     refine awp_block (awp_loop_headJL 7 [5, 6, 7, 15, 56, 57] (fun k : Nat => [(58, .pv (.int .i64 ↑k))]) (fun k => (⟨σ.gl, (gK a A.length PL.1 (A ++ [AObj.arr (lay (σ.objs.length + 9 + 1) RN.1).cells], (lay (σ.objs.length + 9 + 1) RN.1)) k).1, σ.toks ++ [(⟨PL.1.length, 44, 1⟩ : Tok)]⟩ : Store)) (fun k => k ≤ PL.1.length) (fun k => PL.1.length - k) 0 (Nat.zero_le _) ⟨rfl, rfl, by simp [go_sem], by simp [go_sem]⟩ ?_)
     intro k hk
     refine sS ?_
     refine awp_seq (awp_cond (by first | rfl | (simp [go_sem, hw1, hw2, AD.av_cells, AD.cells_len, lay_cells_noL] <;> rfl)) (fun h3 => ?_) (fun h3 => ?_))
     ·have hlt : k < PL.1.length := by simp at h3; omega
      have hw : IntKind.i64.wrap (↑k + 1) = (k : Int) + 1 := wrap_succ (by omega)
      obtain ⟨pp, hpp, hppm⟩ := get_lt hlt
      obtain ⟨hok, hsubk, hdat, htake, hlen⟩ := hG k (Nat.le_of_lt hlt)
      have hpk : PL.1[k]? = some pp := by first | exact hx | exact hpp
      have hppm := List.mem_of_getElem? hpk
      obtain ⟨u, hu⟩ := hsubk pp hppm
      have hpe := wPV_elems pp
      unfold AV.elems at hpe
      have hpcl := wPV_cells pp
      have hpcn := wPV_nrm pp
      have hppl := hpln pp hppm
      obtain ⟨st, hst⟩ : ∃ st, st = gK a A.length PL.1 (A ++ [AObj.arr (lay (σ.objs.length + 9 + 1) RN.1).cells], (lay (σ.objs.length + 9 + 1) RN.1)) k := ⟨_, rfl⟩
      rw [← hst] at hok hu hlen
      have hst := hst.symm
      have hil := ipv_len pp
      refine awp_skip (awp_seq (awp_block (sA (by simp [go_sem, hpp, hpcl, hst] <;> rfl) ?_)))
      refine sS ?_
      refine awp_seq (sA (by simp [go_sem, hpe, hil] <;> rfl) ?_)
      refine awp_block (awp_loop_headJL 7 [5, 6, 7, 15, 56, 57, 58, 62, 63] (fun k : Nat => [(18, .ptr (AD.loc (A.length, 0) st.2 (pp.take k)).1 (AD.loc (A.length, 0) st.2 (pp.take k)).2), (64, .pv (.int .i64 ↑k))]) (fun k => (⟨σ.gl, st.1, σ.toks ++ [(⟨PL.1.length, 44, 1⟩ : Tok)]⟩ : Store)) (fun k => k ≤ pp.length) (fun k => pp.length - k) 0 (Nat.zero_le _) ⟨(by first | rfl | exact congrArg (fun z : List AObj × AD => (⟨σ.gl, z.1, σ.toks ++ [(⟨PL.1.length, 44, 1⟩ : Tok)]⟩ : Store)) hst.symm | exact congrArg (fun z : List AObj × AD => (⟨σ.gl, z.1, σ.toks ++ [(⟨PL.1.length, 44, 1⟩ : Tok)]⟩ : Store)) hst), rfl, by simp [go_sem, AD.loc, List.take_zero], by simp [go_sem]⟩ ?_)
      intro k hk
      refine sS ?_
      refine awp_seq (awp_cond (by first | rfl | (simp [go_sem, hw1, hw2, AD.av_cells, AD.cells_len, lay_cells_noL, hpp, hpk, hpe, hpcl, hpcn, hst, hil] <;> rfl)) (fun h4 => ?_) (fun h4 => ?_))
      ·have hlt : k < pp.length := by simp at h4; omega
       have hw : IntKind.i64.wrap (↑k + 1) = (k : Int) + 1 := wrap_succ (by omega)
       obtain ⟨i, hi, him⟩ := get_lt hlt
       have hii : pp[k]? = some i := by first | exact hx | exact hi
       obtain ⟨v, c, hv, hx0, hvc, hxl, hkv, hnx⟩ := AD.sub_take hu hii (A.length, 0)
       obtain ⟨cells, rest, hce, hcd⟩ := AD.loc_load hok.hU hv
       have hxi := ipv_get hii
       refine awp_skip (awp_seq (awp_block (sA (by simp [go_sem, hpe, hxi] <;> rfl) ?_)))
       refine aR (by simp [go_sem, hce, hcd, hx0, hxl, hkv] <;> rfl) ?_
       refine aS ?_
       exact ⟨k + 1, hlt, (by show _ - _ < _ - _; omega), rfl, rfl, by simp [go_sem, hnx, hw], by simp [go_sem]⟩
      ·have hke : k = pp.length := by simp at h4; omega
       subst hke
       refine awp_exit (then_exit (then_exit (inBlock_hit (awp_reg ?_))))
       refine aL 2 (by simp [go_sem, List.take_length] <;> rfl) ?_
       refine al_callW rfl rfl rfl (by simp [go_sem] <;> rfl) call84 (c_Clone a ha _) (by simp [go_sem] <;> rfl) (by simp [go_sem]) rfl rfl ?_
       rintro r σ' ⟨rfl, rfl⟩
       refine aT 1 ?_
       refine al_graftStore (a := a) (gl := σ.gl) (tk := σ.toks ++ [(⟨PL.1.length, 44, 1⟩ : Tok)]) (M := σ.objs.length) (ob := A.length) (st := st) (p := pp) hok hu rfl tyOk rfl rfl rfl rfl rfl (by simp [go_sem]) (by simp [go_sem]) ?_
       refine al_nil (aS ?_)
       exact ⟨k + 1, hlt, (by show _ - _ < _ - _; omega), (by show (⟨σ.gl, (gK a A.length PL.1 _ (k + 1)).1, _⟩ : Store) = _; rw [gK_next hpk, hst]), rfl, by simp [go_sem, hw], by simp [go_sem]⟩
     ·have hke : k = PL.1.length := by simp at h3; omega
      subst hke
      refine awp_exit (then_exit (then_exit (inBlock_hit (awp_seq (awp_seq ?_)))))
      obtain ⟨hok, hsubk, hdat, htake, hlen⟩ := hG PL.1.length (Nat.le_refl _)
      generalize gK a A.length PL.1 (A ++ [AObj.arr (lay (σ.objs.length + 9 + 1) RN.1).cells], (lay (σ.objs.length + 9 + 1) RN.1)) PL.1.length = st at *
      have hres : st.2.dat = sbRes e x a := by rw [hdat, List.take_length, lay_dat, hRN, hPl2]; rfl
      have htk : st.1.take σ.objs.length = σ.objs := by rw [htake, hA]; simp
      refine awp_freezeRoot 15 (M := σ.objs.length) (ob := A.length) (t := st.2) (s2 := ⟨[(6, .lptr 2 0), (7, .pv (.int .i64 0))], [[.pv (.int .i64 e.kind), .pv (.int .i64 e.num), .pv (.str e.text), .pv (.slice (e.kids.map enc))], [.pv (.int .i64 a.kind), .pv (.int .i64 a.num), .pv (.str a.text), .pv (.slice (a.kids.map enc))], [.pv (.int .i64 0), .pv (.int .i64 0), .pv (.str ⟨#[]⟩), .pv .nils], [.pv (.int .i64 e.kind), .pv (.int .i64 e.num), .pv (.str e.text), .pv (.slice (e.kids.map enc))], [.pv (.int .i64 a.kind), .pv (.int .i64 a.num), .pv (.str a.text), .pv (.slice (a.kids.map enc))]], ⟨σ.gl, σ.objs, σ.toks ++ [(⟨PL.1.length, 44, 1⟩ : Tok)]⟩⟩) rfl (hok.hU (A.length, _) (by simp [rootU])) (fun q hq => hok.hU q (List.mem_cons_of_mem _ hq)) (by omega) (fun q hq => ⟨hok.ge _ (List.mem_cons_of_mem _ (List.mem_map.2 ⟨q, hq, rfl⟩)), fun e2 => by have h9 := hok.nd; rw [rootU_keys] at h9; exact (List.nodup_cons.1 h9).1 (by rw [← e2]; exact List.mem_map.2 ⟨q, hq, rfl⟩)⟩) ⟨by simp [Store.cut, htk, List.take_of_length_le], rfl, Nat.le_refl _, by simp, by simp [go_sem], fun ob hob => .inl hob, by simp [go_sem]⟩ ?_
      rw [hres]
      have hld := dCells_mk (sbRes e x a)
      unfold mkAgg at hld
      have hl4 : 4 ≤ (dCells (sbRes e x a)).length := Nat.le_refl _
      refine awp_reg ?_
      refine aL 1 (by simp [go_sem, hld, hl4] <;> rfl) ?_
      refine aG call52 ((c_datum_Check (sbRes e x a) hrs) _ (by exact hgl)) ?_
      refine aT 1 ?_
      refine al_nil (awp_cond (by first | rfl | (simp [go_sem, hw1, hw2, AD.av_cells, AD.cells_len, lay_cells_noL, hld, hl4] <;> rfl)) (fun h5 => ?_) (fun h5 => ?_))
      ·refine awp_seq (aS ?_)
       refine awp_ret (then_ret (eR ?_))
       exact ⟨by simp only [sSubst, h0, h1, h2, h5, Bool.false_eq_true, if_true, if_false, enc_none]; simp [go_sem], by simp [go_sem]⟩
      ·refine awp_skip (sA (by simp [go_sem, hld, hl4] <;> rfl) ?_)
       refine awp_ret (eR ?_)
       exact ⟨by simp only [sSubst, h0, h1, h2, h5, Bool.false_eq_true, if_false]; simp [go_sem], by simp [go_sem]⟩

end Go.Proofs.YtigideidmcmfbaaGreatDoor
