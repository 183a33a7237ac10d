/- Part of the proof that the statement holds for every input that its row lets in: the contracts of the program's functions, printed by a program out of annotations; the statement itself stands at the end of the last part. -/
import Derived.Test.YtnibcmaaehkhlaaGreatDoorZS1
import Derived.Test.YtnibcmaaehkhlaaGreatDoorZA3
import Derived.Shelf.LaysM
import Derived.Shelf.LaysC
import Derived.Shelf.Strconv.Itoa4
import Derived.Shelf.Spec.SlicesGrow
set_option linter.unusedSimpArgs false
set_option linter.unusedVariables false
namespace Go.Proofs.YtnibcmaaehkhlaaGreatDoor
open Go Go.Aw
variable {kr : KR}
theorem c_calls_nil (d : D) (σ : Store) (om : Nat) (hgl : σ.gl = (GL kr)) (hok : okE d = true) (hom : σ.objs[om]? = some (.map [] [])) (hb : d.size ≤ 1000000000) :
    ACalls Tryz.prog 203 [.pv (enc d), .pv .nils, .map om] σ (fun r σ' => r = .pv (.slice ((callsOf d).map enc)) ∧ σ' = { σ with objs := σ.objs.set om (.map (mapK (callsD d ([], [])).2) (mapV pbool (callsD d ([], [])).2)) }) := by
  have h := c_flat_calls d [] [] { σ with toks := σ.toks ++ [⟨0, 24, 4⟩] } om σ.toks.length hgl hok ⟨hom, by simp⟩ (by simpa using hb)
  refine (ACalls.adoptArg (pre := [.pv (enc d)]) (post := [.map om]) h).less ?_
  rintro _ _ ⟨rfl, rfl⟩
  refine ⟨σ.objs.length, σ.toks.length, _, (WV.pv rfl : WV _ _ _ _ (.pv (.slice ((callsOf d).map enc)))), Nat.le_refl _, Nat.le_refl _, fun ob hob => ?_, rfl, ?_⟩
  · exact setCM_mem (List.mem_of_mem_take hob) _ _ _
  · have hn : σ.objs.length = (σ.objs.set om (.map (mapK (callsD d ([], [])).2) (mapV pbool (callsD d ([], [])).2))).length := by simp
    simp only [setCM, Store.cut, Store.tok]
    rw [List.take_of_length_le (by simp), modify_app, List.take_append_of_le_length (Nat.le_refl _), List.take_length]

set_option maxHeartbeats 1000000 in
theorem c_flat_reach (p : D) (R : Right p) : Pur Tryz.prog (GL kr) 126 [.pv (enc p)] (.pv (.slice ((reach p).map enc))) := by
 refine pur_of fun σ hgl => ?_
 have hsz := R.sz
 have hkl := D.kids_length_lt p
 obtain ⟨p0, pr, hpk⟩ := kids_cons R.ne
 have hp0 : p.kids[0]? = some p0 := by rw [hpk]; rfl
 have hph := head_cons hpk
 have hp0m : p0 ∈ p.kids := List.mem_of_getElem? hp0
 obtain ⟨q0, qr, hqk⟩ := kids_cons (R.kids_ne hp0m)
 have hq0 : p0.kids[0]? = some q0 := by rw [hqk]; rfl
 have hqh := head_cons hqk
 have hr0 : rst p 0 = ([p0], [(q0, true)]) := by show ([p.head], [(p.head.head, true)]) = _; rw [hph, hqh]
 have hmg := fun (m : List (D × D)) => withM_get (σ := σ) (m := m)
 have hpt0 := fun (s : St) (d : D) (v : Bool) (ho : s.σ.objs[σ.objs.length + 1]? = some (.map [] [])) => put_seen (m := []) ho d v
 have hmk : mapK [(q0, true)] = [keyPV q0] := rfl
 have hmv : mapV pbool [(q0, true)] = [.bool true] := rfl
 refine acalls_of tyOk Tryz.func126 rfl (by simp [Tryz.f126]) ?_
 refine awp_seq (aR (by simp [go_sem] <;> rfl) ?_)
 refine awp_seq (awp_reg ?_)
 refine aL 1 (by simp [go_sem] <;> rfl) ?_
 refine al_callW rfl rfl rfl (by simp [go_sem] <;> rfl) call202 (c_flat_defs p (by omega) (fun x hx => R.kids_ne hx) σ hgl) (by simp [go_sem] <;> rfl) (by simp [go_sem]) rfl rfl ?_
 rintro r σ' ⟨rfl, rfl⟩
 refine aL 1 (by simp [go_sem] <;> rfl) ?_
 refine al_nil ?_
 refine awp_seq (aR (by simp [go_sem, hp0] <;> rfl) ?_)
 refine awp_seq (awp_reg ?_)
 refine aL 8 (by simp [go_sem, hp0, hq0, withM, hpt0] <;> rfl) ?_
 refine aF call127 ((c_flat_keyOf q0) _ (by exact hgl)) (by simp [go_sem, hp0, hq0, withM, hpt0] <;> rfl) (by simp [go_sem, hp0, hq0, withM, hpt0]) ?_
 refine aL 3 (by simp [go_sem, hp0, hq0, withM, hpt0] <;> rfl) ?_
 refine al_nil ?_
 refine awp_seq (awp_seq (aR (by simp [go_sem, hp0, hq0, withM, hpt0] <;> rfl) ?_))
 refine awp_adopt' 4 24 4 (by simp [go_sem] <;> rfl) ?_
 refine awp_block ?_
 refine awp_loop_headK (σ.objs.length + 2) (σ.toks.length + 1) 1 [2, 3, 5] (fun k : Nat => [(4, .acc ((rst p k).1.map enc) σ.toks.length), (6, .pv (.int .i64 ↑k))]) (fun k => withR σ (defsL p.kids) 24 (rst p k)) (fun k => k ≤ (rst p k).1.length) (fun k => p.kids.length - k) 0 (Nat.zero_le _) ⟨by show withR σ (defsL p.kids) 24 (rst p 0) = _; rw [hr0]; simp [withR, hmk, hmv, go_sem, List.take_of_length_le, kset, pbool], rfl, by simp, by simp, by simp [go_sem, hp0, hq0, withM, hpt0, hr0], fun ob h => withR_mem h _ _ _, by simp [go_sem]⟩ ?_
 intro k hk
 refine awp_seq (awp_seq (aR (by simp [go_sem, hp0, hq0, withM, hpt0] <;> rfl) ?_))
 refine awp_cond (by first | rfl | (simp [go_sem, hp0, hq0, withM, hpt0] <;> rfl)) (fun h0 => ?_) (fun h0 => ?_)
 ·have hlt : k < (rst p k).1.length := by simpa using h0
  have hkl2 := (rst_inv R k).len
  have hw : IntKind.i64.wrap (↑k + 1) = (k : Int) + 1 := wrap_succ (by omega)
  obtain ⟨x, hx, hxm⟩ := get_lt hlt
  have hxp := (rst_inv R k).mem x hxm
  obtain ⟨x0, x1, x2, ns, hkk, _⟩ := R.def hxp
  have hx2 : x.kids[2]? = some x2 := by rw [hkk]; rfl
  have hd2 : d2 x.kids = x2 := by rw [hkk]; rfl
  have hok := R.ok hxp
  rw [hd2] at hok
  have hsx := D.size_kid_lt hxp
  have hsx2 := D.size_kid_lt (d := x) (k := x2) (by rw [hkk]; simp)
  have hnx := rst_next hx
  rw [hd2] at hnx
  have hcl : (callsOf x2).length ≤ x2.size := by have := callsD_len x2 ([], []); simp only [List.length_nil, Nat.zero_add] at this; exact this
  have hkn := fun f hf => R.known (f := f) hxp (by rw [hd2]; exact hf)
  refine awp_skip ?_
  refine awp_seq (awp_block ?_)
  refine awp_seq (awp_reg ?_)
  refine aL 8 (by simp [go_sem, hp0, hq0, withM, hpt0, hx, hx2, withR_no] <;> rfl) ?_
  refine al_callW rfl rfl rfl (by simp [go_sem, hp0, hq0, withM, hpt0, hx, hx2, withR_no] <;> rfl) call203 (c_calls_nil x2 _ (σ.objs.length + 2) (by exact hgl) hok (by simp [withR]) (by omega)) (by simp [go_sem, hp0, hq0, withM, hpt0, hx, hx2, withR_no] <;> rfl) (by simp [go_sem, hp0, hq0, withM, hpt0, hx, hx2, withR_no]) rfl rfl ?_
  rintro r σ' ⟨rfl, rfl⟩
  refine aL 2 (by simp [go_sem, hp0, hq0, withM, hpt0, hx, hx2, withR_no] <;> rfl) ?_
  refine al_nil ?_
  refine awp_block ?_
  refine awp_loop_headK (σ.objs.length + 2) (σ.toks.length + 1) 1 [2, 3, 5, 6, 40, 41] (fun j : Nat => [(4, .acc ((rin p (rst p k) (callsOf x2) j).1.map enc) σ.toks.length), (42, .pv (.int .i64 ↑j))]) (fun j => withR σ (defsL p.kids) 24 (rin p (rst p k) (callsOf x2) j)) (fun j => j ≤ (callsOf x2).length) (fun j => (callsOf x2).length - j) 0 (Nat.zero_le _) ⟨by show withR σ (defsL p.kids) 24 (rin p (rst p k) (callsOf x2) 0) = Store.cut _ _ _; rw [rin_zero]; simp [withR, go_sem, List.take_of_length_le], rfl, by simp, by simp, by simp [go_sem, hp0, hq0, withM, hpt0, hx, hx2, rin_zero, withR_nt], fun ob h => withR_mem h _ _ _, by simp [go_sem]⟩ ?_
  intro j hk
  refine awp_seq (aR (by simp [go_sem, hp0, hq0, withM, hpt0, hx, hx2] <;> rfl) ?_)
  refine awp_seq (awp_cond (by first | rfl | (simp [go_sem, hp0, hq0, withM, hpt0, hx, hx2] <;> rfl)) (fun h1 => ?_) (fun h1 => ?_))
  ·have hlt : j < (callsOf x2).length := by simp at h1; omega
   have hw : IntKind.i64.wrap (↑j + 1) = (j : Int) + 1 := wrap_succ (by omega)
   obtain ⟨y, hy, hym⟩ := get_lt hlt
   obtain ⟨e, he, hqe, hge⟩ := hkn y hym
   have hri := (rin_inv (rst_inv R k) hkn j).len
   have hg0 := withR_get0 (σ := σ) (m := defsL p.kids) (e := 24) (st := (rin p (rst p k) (callsOf x2) j))
   have hg1 := withR_get1 (σ := σ) (m := defsL p.kids) (e := 24) (st := (rin p (rst p k) (callsOf x2) j))
   have htk := withR_tok (σ := σ) (m := defsL p.kids) (e := 24) (st := (rin p (rst p k) (callsOf x2) j))
   have hbb : ((rin p (rst p k) (callsOf x2) j).1.length + 1) * 56 ≤ 140737488355328 := by omega
   have hlk := fun (s : St) (d : D) (ho : s.σ.objs[σ.objs.length + 1]? = some (.map (mapK (rin p (rst p k) (callsOf x2) j).2) (mapV pbool (rin p (rst p k) (callsOf x2) j).2))) => look_seen ho d
   have hpt := fun (s : St) (d : D) (v : Bool) (ho : s.σ.objs[σ.objs.length + 1]? = some (.map (mapK (rin p (rst p k) (callsOf x2) j).2) (mapV pbool (rin p (rst p k) (callsOf x2) j).2))) => put_seen ho d v
   have hld := fun (s : St) (ho : s.σ.objs[σ.objs.length]? = some (.map (mapK (defsL p.kids)) (mapV enc (defsL p.kids)))) => look_def ho y e hge
   refine awp_skip ?_
   refine awp_seq (awp_block ?_)
   refine awp_seq (aR (by simp [go_sem, hp0, hq0, withM, hpt0, hx, hx2, hy, hg0, hg1, htk, hlk, hpt, hld, hbb] <;> rfl) ?_)
   refine awp_seq (awp_reg ?_)
   refine aL 2 (by simp [go_sem, hp0, hq0, withM, hpt0, hx, hx2, hy, hg0, hg1, htk, hlk, hpt, hld, hbb] <;> rfl) ?_
   refine aF call127 ((c_flat_keyOf y) _ (by exact hgl)) (by simp [go_sem, hp0, hq0, withM, hpt0, hx, hx2, hy, hg0, hg1, htk, hlk, hpt, hld, hbb] <;> rfl) (by simp [go_sem, hp0, hq0, withM, hpt0, hx, hx2, hy, hg0, hg1, htk, hlk, hpt, hld, hbb]) ?_
   refine aL 2 (by simp [go_sem, hp0, hq0, withM, hpt0, hx, hx2, hy, hg0, hg1, htk, hlk, hpt, hld, hbb] <;> rfl) ?_
   refine al_nil ?_
   refine awp_cond (by first | rfl | (simp [go_sem, hp0, hq0, withM, hpt0, hx, hx2, hy, hg0, hg1, htk, hlk, hpt, hld, hbb] <;> rfl)) (fun h2 => ?_) (fun h2 => ?_)
   ·have hrn : rin p (rst p k) (callsOf x2) (j + 1) = ((rin p (rst p k) (callsOf x2) j).1 ++ [e], kset (rin p (rst p k) (callsOf x2) j).2 y true) := by rw [rin_next hy]; exact reachStep_new (by simpa using h2) hge
    refine awp_seq (awp_reg ?_)
    refine aL 2 (by simp [go_sem, hp0, hq0, withM, hpt0, hx, hx2, hy, hg0, hg1, htk, hlk, hpt, hld, hbb] <;> rfl) ?_
    refine aF call127 ((c_flat_keyOf y) _ (by exact hgl)) (by simp [go_sem, hp0, hq0, withM, hpt0, hx, hx2, hy, hg0, hg1, htk, hlk, hpt, hld, hbb] <;> rfl) (by simp [go_sem, hp0, hq0, withM, hpt0, hx, hx2, hy, hg0, hg1, htk, hlk, hpt, hld, hbb]) ?_
    refine aL 1 (by simp [go_sem, hp0, hq0, withM, hpt0, hx, hx2, hy, hg0, hg1, htk, hlk, hpt, hld, hbb] <;> rfl) ?_
    refine al_nil ?_
    refine awp_reg ?_
    refine aL 3 (by simp [go_sem, hp0, hq0, withM, hpt0, hx, hx2, hy, hg0, hg1, htk, hlk, hpt, hld, hbb] <;> rfl) ?_
    refine aF call127 ((c_flat_keyOf y) _ (by exact hgl)) (by simp [go_sem, hp0, hq0, withM, hpt0, hx, hx2, hy, hg0, hg1, htk, hlk, hpt, hld, hbb] <;> rfl) (by simp [go_sem, hp0, hq0, withM, hpt0, hx, hx2, hy, hg0, hg1, htk, hlk, hpt, hld, hbb]) ?_
    refine aL 4 (by simp [go_sem, hp0, hq0, withM, hpt0, hx, hx2, hy, hg0, hg1, htk, hlk, hpt, hld, hbb] <;> rfl) ?_
    refine al_nil ?_
    refine aR (by simp [go_sem, hp0, hq0, withM, hpt0, hx, hx2, hy, hg0, hg1, htk, hlk, hpt, hld, hbb] <;> rfl) ?_
    exact next_intro (j + 1) (σ.objs.length + 2) (σ.toks.length + 1) 1 (hlt) (by omega) ⟨by show withR σ (defsL p.kids) 24 (rin p (rst p k) (callsOf x2) (j + 1)) = Store.cut _ _ _; rw [hrn]; simp [withR, go_sem, List.take_of_length_le], rfl, by simp, by simp, by simp [go_sem, hp0, hq0, withM, hpt0, hx, hx2, hy, hg0, hg1, htk, hlk, hpt, hld, hbb, hw, hrn, withR_nt], fun ob h => withR_mem h _ _ _, by simp [go_sem]⟩
   ·have hrn : rin p (rst p k) (callsOf x2) (j + 1) = (rin p (rst p k) (callsOf x2) j) := by rw [rin_next hy]; exact reachStep_old (by simpa using h2)
    refine awp_skip ?_
    refine aR (by simp [go_sem, hp0, hq0, withM, hpt0, hx, hx2, hy, hg0, hg1, htk, hlk, hpt, hld, hbb] <;> rfl) ?_
    exact next_intro (j + 1) (σ.objs.length + 2) (σ.toks.length + 1) 1 (hlt) (by omega) ⟨by show withR σ (defsL p.kids) 24 (rin p (rst p k) (callsOf x2) (j + 1)) = Store.cut _ _ _; rw [hrn]; simp [withR, go_sem, List.take_of_length_le], rfl, by simp, by simp, by simp [go_sem, hp0, hq0, withM, hpt0, hx, hx2, hy, hg0, hg1, htk, hlk, hpt, hld, hbb, hw, hrn, withR_nt], fun ob h => withR_mem h _ _ _, by simp [go_sem]⟩
  ·have hke : j = (callsOf x2).length := by simp at h1; omega
   subst hke
   have hout : rst p (k + 1) = rin p (rst p k) (callsOf x2) (callsOf x2).length := by rw [hnx, rin_all]
   refine awp_exit ?_
   refine then_exit ?_
   refine then_exit ?_
   refine inBlock_hit ?_
   refine aR (by simp [go_sem, hp0, hq0, withM, hpt0, hx, hx2] <;> rfl) ?_
   exact next_intro (k + 1) (σ.objs.length + 2) (σ.toks.length + 1) 1 (by have := rst_len hx; omega) (by have := (rst_inv R k).len; omega) ⟨by show withR σ (defsL p.kids) 24 (rst p (k + 1)) = Store.cut _ _ _; rw [hout]; exact withR_cut.symm, rfl, by simp, by simp, by simp [go_sem, hp0, hq0, withM, hpt0, hx, hx2, hw, hout], fun ob h => withR_mem h _ _ _, by simp [go_sem]⟩
 ·have hke : (rst p k).1.length ≤ k := by simpa using h0
  have hfin := reach_done hke (by have := (rst_inv R k).len; omega)
  refine awp_exit ?_
  refine then_exit ?_
  refine then_exit ?_
  refine inBlock_hit ?_
  refine awp_seq (aR (by simp [go_sem, hp0, hq0, withM, hpt0] <;> rfl) ?_)
  refine awp_ret ?_
  refine ends_ret (by simp [go_sem] <;> rfl) (by simp [go_sem]) ?_
  exact ⟨by simp [go_sem, hfin], withR_cut0⟩

end Go.Proofs.YtnibcmaaehkhlaaGreatDoor

namespace Go.Proofs.YtnibcmaaehkhlaaGreatDoor
open Go Go.Aw
variable {kr : KR}
set_option maxHeartbeats 1000000 in
theorem c_flat_renamer_expr (O : List AObj) (ro : Nat) (fl fn : FuncId) (cl cn : List AV) (bare : Bool) (lab nm : D → D) (hro : O[ro]? = some (renBox fl fn cl cn bare)) (HL : RenAt Tryz.prog (GL kr) O fl cl lab) (HN : RenAt Tryz.prog (GL kr) O fn cn nm) (d : D) : ∀ σ : Store, σ.gl = (GL kr) → σ.objs = O → okE d = true → formed d = true → d.size ≤ 1000000000 → PurAt Tryz.prog σ 204 [.ptr ro 0, .pv (enc d)] (.pv (enc (rexpr lab nm bare d))) := by
 induction d using D.ind with
 | _ kind num text kids ih =>
 generalize hD : D.mk kind num text kids = d at *
 have hk : d.kids = kids := by rw [← hD]; rfl
 clear hD
 subst hk
 have hkl := D.kids_length_lt d
 intro σ hgl hO hok hf hd
 have hor := (List.getElem?_eq_some_iff.1 hro).1
 have hpl := parts_len d
 refine purAt_of ?_
 refine acalls_of tyOk Tryz.func204 rfl (by simp [Tryz.f204]) ?_
 refine awp_seq (aR (by simp [go_sem, hO, hro] <;> rfl) ?_)
 refine awp_seq (awp_block ?_)
 refine awp_seq (aR (by simp [go_sem, hO, hro] <;> rfl) ?_)
 refine awp_cond (by first | rfl | (simp [go_sem, hO, hro] <;> rfl)) (fun h0 => ?_) (fun h0 => ?_)
 ·refine awp_seq ?_
  refine aR (by simp [go_sem, hO, hro] <;> rfl) ?_
  refine awp_ret ?_
  refine inBlock_ret ?_
  refine then_ret ?_
  refine ends_ret (by simp [go_sem] <;> rfl) (by simp [go_sem]) ?_
  exact ⟨by simp [go_sem, rexpr_num h0], by subst hO; simp [go_sem]⟩
 ·refine awp_seq ?_
  refine aR (by simp [go_sem, hO, hro] <;> rfl) ?_
  refine awp_cond (by first | rfl | (simp [go_sem, hO, hro] <;> rfl)) (fun h1 => ?_) (fun h1 => ?_)
  ·refine awp_seq ?_
   refine awp_regDP tyOk tySz 5 (by kernel_rfl) (by decide) ?_
   refine ul_run 5 (by simp [go_sem, hO, hro] <;> rfl) ?_
   refine ul_nil ?_
   refine al_fn rfl rfl rfl (by simp [go_sem, hO, hro] <;> rfl) HN.1 (HN.2.2 _ (by exact hgl) (by first | exact hO | rfl) d hd (formed_text hf)) (by simp [go_sem, hO, hro] <;> rfl) (by simp [go_sem, hO, hro]) (by simp [go_sem, HN.2.1]) rfl ?_
   refine aL 1 (by simp [go_sem, hO, hro] <;> rfl) ?_
   refine al_nil ?_
   refine awp_ret ?_
   refine inBlock_ret ?_
   refine then_ret ?_
   refine ends_ret (by simp [go_sem] <;> rfl) (by simp [go_sem]) ?_
   exact ⟨by simp [go_sem, rexpr_sym h0 h1], by subst hO; simp [go_sem]⟩
  ·have hk3 : d.kind = 3 := by rcases okE_kind hok with h | h | h; exact (nomatch (show (d.kind == 1) = true by rw [h]; rfl).symm.trans h0); exact (nomatch (show (d.kind == 2) = true by rw [h]; rfl).symm.trans h1); exact h
   have hx0 : ∃ x0, d.kids[0]? = some x0 := by obtain ⟨x0, r, e⟩ := kids_cons (okE_ne hok hk3); exact ⟨x0, by rw [e]; rfl⟩
   obtain ⟨x0, hx0⟩ := hx0
   have hh := D.head_of hx0
   have hx0m := List.mem_of_getElem? hx0
   have hs0 := D.size_kid_lt hx0m
   refine awp_skip ?_
   refine awp_seq (aR (by simp [go_sem, hO, hro, hx0] <;> rfl) ?_)
   refine awp_seq (awp_seq (aR (by simp [go_sem, hO, hro, hx0] <;> rfl) ?_))
   refine awp_block ?_
   refine awp_seq (aR (by simp [go_sem, hO, hro, hx0] <;> rfl) ?_)
   refine awp_cond (by first | rfl | (simp [go_sem, hO, hro, hx0] <;> rfl)) (fun h2 => ?_) (fun h2 => ?_)
   ·refine awp_seq ?_
    refine awp_reg ?_
    refine aL 1 (by simp [go_sem, hO, hro, hx0] <;> rfl) ?_
    refine aF call62 ((c_own d hd) _ (by exact hgl)) (by simp [go_sem, hO, hro, hx0] <;> rfl) (by simp [go_sem, hO, hro, hx0]) ?_
    refine aL 1 (by simp [go_sem, hO, hro, hx0] <;> rfl) ?_
    refine al_nil ?_
    refine awp_ret ?_
    refine inBlock_ret ?_
    refine then_ret ?_
    refine ends_ret (by simp [go_sem] <;> rfl) (by simp [go_sem]) ?_
    exact ⟨by simp [go_sem, rexpr_quote h0 h1 (by rw [hh]; exact h2)], by subst hO; simp [go_sem]⟩
   ·refine awp_seq ?_
    refine aR (by simp [go_sem, hO, hro, hx0] <;> rfl) ?_
    refine awp_cond (by first | rfl | (simp [go_sem, hO, hro, hx0] <;> rfl)) (fun h3 => ?_) (fun h3 => ?_)
    ·have h2l := okE_two hok hk3 (.inl (by rw [hh]; exact of_decide_eq_true h3))
     obtain ⟨x1, hx1, hx1m⟩ := get_lt (l := d.kids) (k := 1) (by omega)
     have hd1 : d1 d.kids = x1 := getD_of hx1
     have hs1 := D.size_kid_lt hx1m
     obtain ⟨pre, hpre⟩ : ∃ pre, pre = [x0, nm x1] := ⟨_, rfl⟩
     have hsp := rexpr_let (lab := lab) (nm := nm) (bare := bare) h0 h1 (by rw [hh]; exact h2) (by rw [hh]; exact h3)
     rw [hh, hd1, ← hpre] at hsp
     refine awp_regDP tyOk tySz 13 (by kernel_rfl) (by decide) ?_
     refine ul_run 12 (by simp [go_sem, hO, hro, hx0, hx1] <;> rfl) ?_
     refine ul_fn (by first | (intro _ _ hh; exact hh) | simp [go_sem]) rfl rfl rfl rfl (by simp [go_sem, hO, hro, hx0, hx1] <;> rfl) HN.1 (HN.2.2 _ (by exact hgl) (by first | exact hO | rfl) x1 (by omega) (formed_text (formed_kids hf hx1m))) (by simp [go_sem, hO, hro, hx0, hx1] <;> rfl) (by simp [go_sem, hO, hro, hx0, hx1]) (by simp [go_sem, HN.2.1]) rfl ?_
     refine ul_nil ?_
     refine aL 2 (by simp [go_sem, hO, hro, hx0, hx1] <;> rfl) ?_
     refine al_nil ?_
     refine awp_seq (awp_seq (awp_reg ?_))
     refine aL 1 (by simp [go_sem, hO, hro, hx0, hx1] <;> rfl) ?_
     refine aF call211 ((c_flat_Parts d (okE_ne hok) (okE_two hok)) _ (by exact hgl)) (by simp [go_sem, hO, hro, hx0, hx1] <;> rfl) (by simp [go_sem, hO, hro, hx0, hx1]) ?_
     refine aL 2 (by simp [go_sem, hO, hro, hx0, hx1] <;> rfl) ?_
     refine al_nil ?_
     refine awp_adopt' 5 24 4 (by simp [go_sem] <;> rfl) ?_
     refine awp_block ?_
     refine awp_loop_headK σ.objs.length (σ.toks.length + 1) 2 [0, 4, 76, 77] (fun k : Nat => [(5, .acc ((outK pre (parts d) (rexpr lab nm bare) k).map enc) σ.toks.length), (78, .pv (.int .i64 ↑k))]) (fun k => { σ with toks := σ.toks ++ [⟨pre.length + k, 24, 4⟩] }) (fun k => k ≤ (parts d).length) (fun k => (parts d).length - k) 0 (Nat.zero_le _) ⟨by simp [go_sem, hpre, hO], rfl, by simp, by simp, by simp [go_sem, hO, hro, hx0, hx1, hpre, outK_zero, hor], fun ob h => .inl (by simpa [go_sem, hO, hro, hx0, hx1, hpre, outK_zero, hor] using h), by simp [go_sem]⟩ ?_
     intro k hk
     refine awp_seq (aR (by simp [go_sem, hO, hro, hx0, hx1] <;> rfl) ?_)
     refine awp_seq (awp_cond (by first | rfl | (simp [go_sem, hO, hro, hx0, hx1] <;> rfl)) (fun h4 => ?_) (fun h4 => ?_))
     ·have hlt : k < (parts d).length := by simp at h4; omega
      have hw : IntKind.i64.wrap (↑k + 1) = (k : Int) + 1 := wrap_succ (by omega)
      obtain ⟨x, hx, hxm⟩ := get_lt hlt
      have hon := outK_next (pre := pre) (h := rexpr lab nm bare) hx
      have hol := outK_len (pre := pre) (h := rexpr lab nm bare) hk
      have hpr : pre.length ≤ 2 := by rw [hpre]; simp
      have hbb : (pre.length + k + 1) * 56 ≤ 140737488355328 := by omega
      refine awp_skip ?_
      refine awp_seq (awp_block ?_)
      refine awp_seq (aR (by simp [go_sem, hO, hro, hx0, hx1, hx, hol, hbb] <;> rfl) ?_)
      refine awp_reg ?_
      refine aL 3 (by simp [go_sem, hO, hro, hx0, hx1, hx, hol, hbb] <;> rfl) ?_
      refine aF call204 (ih x (parts_mem hxm) _ (by exact hgl) (by first | exact hO | rfl) (okE_parts hok x hxm) (formed_kids hf (parts_mem hxm)) (by have := D.size_kid_lt (parts_mem hxm); omega)) (by simp [go_sem, hO, hro, hx0, hx1, hx, hol, hbb] <;> rfl) (by simp [go_sem, hO, hro, hx0, hx1, hx, hol, hbb]) ?_
      refine aL 3 (by simp [go_sem, hO, hro, hx0, hx1, hx, hol, hbb] <;> rfl) ?_
      refine al_nil ?_
      refine aR (by simp [go_sem, hO, hro, hx0, hx1, hx, hol, hbb] <;> rfl) ?_
      exact next_intro (k + 1) σ.objs.length (σ.toks.length + 1) 2 (hlt) (by omega) ⟨by simp [go_sem, hO, hro, hx0, hx1, hx, hol, hbb, hw, hon, hor, Nat.add_assoc], rfl, by simp, by simp, by simp [go_sem, hO, hro, hx0, hx1, hx, hol, hbb, hw, hon, hor, Nat.add_assoc], fun ob h => .inl (by simpa [go_sem, hO, hro, hx0, hx1, hx, hol, hbb, hw, hon, hor, Nat.add_assoc] using h), by simp [go_sem]⟩
     ·have hke : k = (parts d).length := by simp at h4; omega
      subst hke
      refine awp_exit ?_
      refine then_exit ?_
      refine then_exit ?_
      refine inBlock_hit ?_
      refine awp_seq (awp_reg ?_)
      refine aL 1 (by simp [go_sem, hO, hro, hx0, hx1, outK_all] <;> rfl) ?_
      refine aF call61 ((c_flat_List (pre ++ (parts d).map (rexpr lab nm bare))) _ (by exact hgl)) (by simp [go_sem, hO, hro, hx0, hx1, outK_all] <;> rfl) (by simp [go_sem, hO, hro, hx0, hx1, outK_all]) ?_
      refine aL 1 (by simp [go_sem, hO, hro, hx0, hx1, outK_all] <;> rfl) ?_
      refine al_nil ?_
      refine awp_ret ?_
      refine ends_ret (by simp [go_sem] <;> rfl) (by simp [go_sem]) ?_
      exact ⟨by simp [go_sem, hsp], by subst hO; simp [go_sem]⟩
    ·refine awp_seq ?_
     refine aR (by simp [go_sem, hO, hro, hx0] <;> rfl) ?_
     refine awp_cond (by first | rfl | (simp [go_sem, hO, hro, hx0] <;> rfl)) (fun h5 => ?_) (fun h5 => ?_)
     ·have h2l := okE_two hok hk3 (.inr (by rw [hh]; exact of_decide_eq_true h5))
      obtain ⟨x1, hx1, hx1m⟩ := get_lt (l := d.kids) (k := 1) (by omega)
      have hd1 : d1 d.kids = x1 := getD_of hx1
      have hs1 := D.size_kid_lt hx1m
      have hsp := rexpr_call (lab := lab) (nm := nm) (bare := bare) h0 h1 (by rw [hh]; exact h2) (by rw [hh]; exact h3) (by rw [hh]; exact h5)
      refine awp_seq (awp_regDP tyOk tySz 13 (by kernel_rfl) (by decide) ?_)
      refine ul_run 12 (by simp [go_sem, hO, hro, hx0, hx1] <;> rfl) ?_
      refine ul_fn (by first | (intro _ _ hh; exact hh) | simp [go_sem]) rfl rfl rfl rfl (by simp [go_sem, hO, hro, hx0, hx1] <;> rfl) HL.1 (HL.2.2 _ (by exact hgl) (by first | exact hO | rfl) x1 (by omega) (formed_text (formed_kids hf hx1m))) (by simp [go_sem, hO, hro, hx0, hx1] <;> rfl) (by simp [go_sem, hO, hro, hx0, hx1]) (by simp [go_sem, HL.2.1]) rfl ?_
      refine ul_nil ?_
      refine aL 2 (by simp [go_sem, hO, hro, hx0, hx1] <;> rfl) ?_
      refine al_nil ?_
      refine awp_seq (aR (by simp [go_sem, hO, hro, hx0, hx1] <;> rfl) ?_)
      refine awp_cond (by first | rfl | (simp [go_sem, hO, hro, hx0, hx1] <;> rfl)) (fun h6 => ?_) (fun h6 => ?_)
      ·obtain ⟨pre, hpre⟩ : ∃ pre, pre = [lab x1] := ⟨_, rfl⟩
       rw [if_pos h6, hd1, ← hpre] at hsp
       refine aR (by simp [go_sem, hO, hro, hx0, hx1] <;> rfl) ?_
       refine awp_seq (awp_seq (awp_reg ?_))
       refine aL 1 (by simp [go_sem, hO, hro, hx0, hx1] <;> rfl) ?_
       refine aF call211 ((c_flat_Parts d (okE_ne hok) (okE_two hok)) _ (by exact hgl)) (by simp [go_sem, hO, hro, hx0, hx1] <;> rfl) (by simp [go_sem, hO, hro, hx0, hx1]) ?_
       refine aL 2 (by simp [go_sem, hO, hro, hx0, hx1] <;> rfl) ?_
       refine al_nil ?_
       refine awp_adopt' 5 24 4 (by simp [go_sem] <;> rfl) ?_
       refine awp_block ?_
       refine awp_loop_headK σ.objs.length (σ.toks.length + 1) 2 [0, 4, 76, 77] (fun k : Nat => [(5, .acc ((outK pre (parts d) (rexpr lab nm bare) k).map enc) σ.toks.length), (78, .pv (.int .i64 ↑k))]) (fun k => { σ with toks := σ.toks ++ [⟨pre.length + k, 24, 4⟩] }) (fun k => k ≤ (parts d).length) (fun k => (parts d).length - k) 0 (Nat.zero_le _) ⟨by simp [go_sem, hpre, hO], rfl, by simp, by simp, by simp [go_sem, hO, hro, hx0, hx1, hpre, outK_zero, hor], fun ob h => .inl (by simpa [go_sem, hO, hro, hx0, hx1, hpre, outK_zero, hor] using h), by simp [go_sem]⟩ ?_
       intro k hk
       refine awp_seq (aR (by simp [go_sem, hO, hro, hx0, hx1] <;> rfl) ?_)
       refine awp_seq (awp_cond (by first | rfl | (simp [go_sem, hO, hro, hx0, hx1] <;> rfl)) (fun h7 => ?_) (fun h7 => ?_))
       ·have hlt : k < (parts d).length := by simp at h7; omega
        have hw : IntKind.i64.wrap (↑k + 1) = (k : Int) + 1 := wrap_succ (by omega)
        obtain ⟨x, hx, hxm⟩ := get_lt hlt
        have hon := outK_next (pre := pre) (h := rexpr lab nm bare) hx
        have hol := outK_len (pre := pre) (h := rexpr lab nm bare) hk
        have hpr : pre.length ≤ 2 := by rw [hpre]; simp
        have hbb : (pre.length + k + 1) * 56 ≤ 140737488355328 := by omega
        refine awp_skip ?_
        refine awp_seq (awp_block ?_)
        refine awp_seq (aR (by simp [go_sem, hO, hro, hx0, hx1, hx, hol, hbb] <;> rfl) ?_)
        refine awp_reg ?_
        refine aL 3 (by simp [go_sem, hO, hro, hx0, hx1, hx, hol, hbb] <;> rfl) ?_
        refine aF call204 (ih x (parts_mem hxm) _ (by exact hgl) (by first | exact hO | rfl) (okE_parts hok x hxm) (formed_kids hf (parts_mem hxm)) (by have := D.size_kid_lt (parts_mem hxm); omega)) (by simp [go_sem, hO, hro, hx0, hx1, hx, hol, hbb] <;> rfl) (by simp [go_sem, hO, hro, hx0, hx1, hx, hol, hbb]) ?_
        refine aL 3 (by simp [go_sem, hO, hro, hx0, hx1, hx, hol, hbb] <;> rfl) ?_
        refine al_nil ?_
        refine aR (by simp [go_sem, hO, hro, hx0, hx1, hx, hol, hbb] <;> rfl) ?_
        exact next_intro (k + 1) σ.objs.length (σ.toks.length + 1) 2 (hlt) (by omega) ⟨by simp [go_sem, hO, hro, hx0, hx1, hx, hol, hbb, hw, hon, hor, Nat.add_assoc], rfl, by simp, by simp, by simp [go_sem, hO, hro, hx0, hx1, hx, hol, hbb, hw, hon, hor, Nat.add_assoc], fun ob h => .inl (by simpa [go_sem, hO, hro, hx0, hx1, hx, hol, hbb, hw, hon, hor, Nat.add_assoc] using h), by simp [go_sem]⟩
       ·have hke : k = (parts d).length := by simp at h7; omega
        subst hke
        refine awp_exit ?_
        refine then_exit ?_
        refine then_exit ?_
        refine inBlock_hit ?_
        refine awp_seq (awp_reg ?_)
        refine aL 1 (by simp [go_sem, hO, hro, hx0, hx1, outK_all] <;> rfl) ?_
        refine aF call61 ((c_flat_List (pre ++ (parts d).map (rexpr lab nm bare))) _ (by exact hgl)) (by simp [go_sem, hO, hro, hx0, hx1, outK_all] <;> rfl) (by simp [go_sem, hO, hro, hx0, hx1, outK_all]) ?_
        refine aL 1 (by simp [go_sem, hO, hro, hx0, hx1, outK_all] <;> rfl) ?_
        refine al_nil ?_
        refine awp_ret ?_
        refine ends_ret (by simp [go_sem] <;> rfl) (by simp [go_sem]) ?_
        exact ⟨by simp [go_sem, hsp], by subst hO; simp [go_sem]⟩
      ·obtain ⟨pre, hpre⟩ : ∃ pre, pre = [x0, lab x1] := ⟨_, rfl⟩
       rw [if_neg (by rw [h6]; decide), hd1, hh, ← hpre] at hsp
       refine awp_skip ?_
       refine awp_seq (awp_seq (awp_reg ?_))
       refine aL 1 (by simp [go_sem, hO, hro, hx0, hx1] <;> rfl) ?_
       refine aF call211 ((c_flat_Parts d (okE_ne hok) (okE_two hok)) _ (by exact hgl)) (by simp [go_sem, hO, hro, hx0, hx1] <;> rfl) (by simp [go_sem, hO, hro, hx0, hx1]) ?_
       refine aL 2 (by simp [go_sem, hO, hro, hx0, hx1] <;> rfl) ?_
       refine al_nil ?_
       refine awp_adopt' 5 24 4 (by simp [go_sem] <;> rfl) ?_
       refine awp_block ?_
       refine awp_loop_headK σ.objs.length (σ.toks.length + 1) 2 [0, 4, 76, 77] (fun k : Nat => [(5, .acc ((outK pre (parts d) (rexpr lab nm bare) k).map enc) σ.toks.length), (78, .pv (.int .i64 ↑k))]) (fun k => { σ with toks := σ.toks ++ [⟨pre.length + k, 24, 4⟩] }) (fun k => k ≤ (parts d).length) (fun k => (parts d).length - k) 0 (Nat.zero_le _) ⟨by simp [go_sem, hpre, hO], rfl, by simp, by simp, by simp [go_sem, hO, hro, hx0, hx1, hpre, outK_zero, hor], fun ob h => .inl (by simpa [go_sem, hO, hro, hx0, hx1, hpre, outK_zero, hor] using h), by simp [go_sem]⟩ ?_
       intro k hk
       refine awp_seq (aR (by simp [go_sem, hO, hro, hx0, hx1] <;> rfl) ?_)
       refine awp_seq (awp_cond (by first | rfl | (simp [go_sem, hO, hro, hx0, hx1] <;> rfl)) (fun h8 => ?_) (fun h8 => ?_))
       ·have hlt : k < (parts d).length := by simp at h8; omega
        have hw : IntKind.i64.wrap (↑k + 1) = (k : Int) + 1 := wrap_succ (by omega)
        obtain ⟨x, hx, hxm⟩ := get_lt hlt
        have hon := outK_next (pre := pre) (h := rexpr lab nm bare) hx
        have hol := outK_len (pre := pre) (h := rexpr lab nm bare) hk
        have hpr : pre.length ≤ 2 := by rw [hpre]; simp
        have hbb : (pre.length + k + 1) * 56 ≤ 140737488355328 := by omega
        refine awp_skip ?_
        refine awp_seq (awp_block ?_)
        refine awp_seq (aR (by simp [go_sem, hO, hro, hx0, hx1, hx, hol, hbb] <;> rfl) ?_)
        refine awp_reg ?_
        refine aL 3 (by simp [go_sem, hO, hro, hx0, hx1, hx, hol, hbb] <;> rfl) ?_
        refine aF call204 (ih x (parts_mem hxm) _ (by exact hgl) (by first | exact hO | rfl) (okE_parts hok x hxm) (formed_kids hf (parts_mem hxm)) (by have := D.size_kid_lt (parts_mem hxm); omega)) (by simp [go_sem, hO, hro, hx0, hx1, hx, hol, hbb] <;> rfl) (by simp [go_sem, hO, hro, hx0, hx1, hx, hol, hbb]) ?_
        refine aL 3 (by simp [go_sem, hO, hro, hx0, hx1, hx, hol, hbb] <;> rfl) ?_
        refine al_nil ?_
        refine aR (by simp [go_sem, hO, hro, hx0, hx1, hx, hol, hbb] <;> rfl) ?_
        exact next_intro (k + 1) σ.objs.length (σ.toks.length + 1) 2 (hlt) (by omega) ⟨by simp [go_sem, hO, hro, hx0, hx1, hx, hol, hbb, hw, hon, hor, Nat.add_assoc], rfl, by simp, by simp, by simp [go_sem, hO, hro, hx0, hx1, hx, hol, hbb, hw, hon, hor, Nat.add_assoc], fun ob h => .inl (by simpa [go_sem, hO, hro, hx0, hx1, hx, hol, hbb, hw, hon, hor, Nat.add_assoc] using h), by simp [go_sem]⟩
       ·have hke : k = (parts d).length := by simp at h8; omega
        subst hke
        refine awp_exit ?_
        refine then_exit ?_
        refine then_exit ?_
        refine inBlock_hit ?_
        refine awp_seq (awp_reg ?_)
        refine aL 1 (by simp [go_sem, hO, hro, hx0, hx1, outK_all] <;> rfl) ?_
        refine aF call61 ((c_flat_List (pre ++ (parts d).map (rexpr lab nm bare))) _ (by exact hgl)) (by simp [go_sem, hO, hro, hx0, hx1, outK_all] <;> rfl) (by simp [go_sem, hO, hro, hx0, hx1, outK_all]) ?_
        refine aL 1 (by simp [go_sem, hO, hro, hx0, hx1, outK_all] <;> rfl) ?_
        refine al_nil ?_
        refine awp_ret ?_
        refine ends_ret (by simp [go_sem] <;> rfl) (by simp [go_sem]) ?_
        exact ⟨by simp [go_sem, hsp], by subst hO; simp [go_sem]⟩
     ·obtain ⟨pre, hpre⟩ : ∃ pre, pre = [x0] := ⟨_, rfl⟩
      have hsp := rexpr_other (lab := lab) (nm := nm) (bare := bare) h0 h1 (by rw [hh]; exact h2) (by rw [hh]; exact h3) (by rw [hh]; exact h5)
      rw [hh, ← hpre] at hsp
      refine aR (by simp [go_sem, hO, hro, hx0] <;> rfl) ?_
      refine awp_seq (awp_seq (awp_reg ?_))
      refine aL 1 (by simp [go_sem, hO, hro, hx0] <;> rfl) ?_
      refine aF call211 ((c_flat_Parts d (okE_ne hok) (okE_two hok)) _ (by exact hgl)) (by simp [go_sem, hO, hro, hx0] <;> rfl) (by simp [go_sem, hO, hro, hx0]) ?_
      refine aL 2 (by simp [go_sem, hO, hro, hx0] <;> rfl) ?_
      refine al_nil ?_
      refine awp_adopt' 5 24 4 (by simp [go_sem] <;> rfl) ?_
      refine awp_block ?_
      refine awp_loop_headK σ.objs.length (σ.toks.length + 1) 2 [0, 4, 76, 77] (fun k : Nat => [(5, .acc ((outK pre (parts d) (rexpr lab nm bare) k).map enc) σ.toks.length), (78, .pv (.int .i64 ↑k))]) (fun k => { σ with toks := σ.toks ++ [⟨pre.length + k, 24, 4⟩] }) (fun k => k ≤ (parts d).length) (fun k => (parts d).length - k) 0 (Nat.zero_le _) ⟨by simp [go_sem, hpre, hO], rfl, by simp, by simp, by simp [go_sem, hO, hro, hx0, hpre, outK_zero, hor], fun ob h => .inl (by simpa [go_sem, hO, hro, hx0, hpre, outK_zero, hor] using h), by simp [go_sem]⟩ ?_
      intro k hk
      refine awp_seq (aR (by simp [go_sem, hO, hro, hx0] <;> rfl) ?_)
      refine awp_seq (awp_cond (by first | rfl | (simp [go_sem, hO, hro, hx0] <;> rfl)) (fun h9 => ?_) (fun h9 => ?_))
      ·have hlt : k < (parts d).length := by simp at h9; omega
       have hw : IntKind.i64.wrap (↑k + 1) = (k : Int) + 1 := wrap_succ (by omega)
       obtain ⟨x, hx, hxm⟩ := get_lt hlt
       have hon := outK_next (pre := pre) (h := rexpr lab nm bare) hx
       have hol := outK_len (pre := pre) (h := rexpr lab nm bare) hk
       have hpr : pre.length ≤ 2 := by rw [hpre]; simp
       have hbb : (pre.length + k + 1) * 56 ≤ 140737488355328 := by omega
       refine awp_skip ?_
       refine awp_seq (awp_block ?_)
       refine awp_seq (aR (by simp [go_sem, hO, hro, hx0, hx, hol, hbb] <;> rfl) ?_)
       refine awp_reg ?_
       refine aL 3 (by simp [go_sem, hO, hro, hx0, hx, hol, hbb] <;> rfl) ?_
       refine aF call204 (ih x (parts_mem hxm) _ (by exact hgl) (by first | exact hO | rfl) (okE_parts hok x hxm) (formed_kids hf (parts_mem hxm)) (by have := D.size_kid_lt (parts_mem hxm); omega)) (by simp [go_sem, hO, hro, hx0, hx, hol, hbb] <;> rfl) (by simp [go_sem, hO, hro, hx0, hx, hol, hbb]) ?_
       refine aL 3 (by simp [go_sem, hO, hro, hx0, hx, hol, hbb] <;> rfl) ?_
       refine al_nil ?_
       refine aR (by simp [go_sem, hO, hro, hx0, hx, hol, hbb] <;> rfl) ?_
       exact next_intro (k + 1) σ.objs.length (σ.toks.length + 1) 2 (hlt) (by omega) ⟨by simp [go_sem, hO, hro, hx0, hx, hol, hbb, hw, hon, hor, Nat.add_assoc], rfl, by simp, by simp, by simp [go_sem, hO, hro, hx0, hx, hol, hbb, hw, hon, hor, Nat.add_assoc], fun ob h => .inl (by simpa [go_sem, hO, hro, hx0, hx, hol, hbb, hw, hon, hor, Nat.add_assoc] using h), by simp [go_sem]⟩
      ·have hke : k = (parts d).length := by simp at h9; omega
       subst hke
       refine awp_exit ?_
       refine then_exit ?_
       refine then_exit ?_
       refine inBlock_hit ?_
       refine awp_seq (awp_reg ?_)
       refine aL 1 (by simp [go_sem, hO, hro, hx0, outK_all] <;> rfl) ?_
       refine aF call61 ((c_flat_List (pre ++ (parts d).map (rexpr lab nm bare))) _ (by exact hgl)) (by simp [go_sem, hO, hro, hx0, outK_all] <;> rfl) (by simp [go_sem, hO, hro, hx0, outK_all]) ?_
       refine aL 1 (by simp [go_sem, hO, hro, hx0, outK_all] <;> rfl) ?_
       refine al_nil ?_
       refine awp_ret ?_
       refine ends_ret (by simp [go_sem] <;> rfl) (by simp [go_sem]) ?_
       exact ⟨by simp [go_sem, hsp], by subst hO; simp [go_sem]⟩

end Go.Proofs.YtnibcmaaehkhlaaGreatDoor

namespace Go.Proofs.YtnibcmaaehkhlaaGreatDoor
open Go Go.Aw
variable {kr : KR}
theorem look_par0 {s : St} {om : Nat} {ps : List (D × Int)} (ho : s.σ.objs[om]? = some (.map (mapK ps) (mapV pint ps))) (d : D) :
    lookAV ty s 139 (.map om) (.pv (keyPV d)) false = some (.pv (.int .i64 (kpar ps d).1)) := by
  rw [look_map (f := pint) rfl rfl rfl rfl rfl ho]
  unfold kpar
  cases kget ps d <;> rfl

set_option maxHeartbeats 1000000 in
theorem c_canon_1 (O : List AObj) (ol oa om : Nat) (fl : FuncId) (cl : List AV) (at_ : List (D × Int)) (label : Int → D) (h0 : O[ol]? = some (.box [.func (.func fl) cl])) (h1 : O[oa]? = some (.box [.map om])) (h2 : O[om]? = some (.map (mapK at_) (mapV pint at_))) (HB : LabAt Tryz.prog (GL kr) O fl cl label) (hbd : ∀ d, 0 ≤ (kpar at_ d).1 ∧ (kpar at_ d).1 ≤ 1000000000) (d : D) (σ : Store) (hgl : σ.gl = (GL kr)) (hO : σ.objs = O) : PurAt Tryz.prog σ 128 [.pv (enc d), .ptr ol 0, .ptr oa 0] (.pv (enc (label (kpar at_ d).1))) := by
 have hlk := fun (s : St) (d : D) (ho : s.σ.objs[om]? = some (.map (mapK at_) (mapV pint at_))) => look_par0 ho d
 refine purAt_of ?_
 refine acalls_of tyOk Tryz.func128 rfl (by simp [Tryz.f128]) ?_
 refine awp_seq (aR (by simp [go_sem, hO, h0, h1, h2, hlk] <;> rfl) ?_)
 refine awp_seq (awp_regDP tyOk tySz 5 (by kernel_rfl) (by decide) ?_)
 refine ul_run 3 (by simp [go_sem, hO, h0, h1, h2, hlk] <;> rfl) ?_
 refine ul_fn (by first | (intro _ _ hh; exact hh) | simp [go_sem]) rfl rfl rfl rfl (by simp [go_sem, hO, h0, h1, h2, hlk] <;> rfl) call127 ((c_flat_keyOf d) _ (by exact hgl)) (by simp [go_sem, hO, h0, h1, h2, hlk] <;> rfl) (by simp [go_sem, hO, h0, h1, h2, hlk]) rfl rfl ?_
 refine ul_run 1 (by simp [go_sem, hO, h0, h1, h2, hlk] <;> rfl) ?_
 refine ul_nil ?_
 refine al_fn rfl rfl rfl (by simp [go_sem, hO, h0, h1, h2, hlk] <;> rfl) HB.1 (HB.2.2 _ (by exact hgl) (by first | exact hO | rfl) (kpar at_ d).1 (hbd d).1 (hbd d).2) (by simp [go_sem, hO, h0, h1, h2, hlk] <;> rfl) (by simp [go_sem, hO, h0, h1, h2, hlk]) (by simp [go_sem, HB.2.1]) rfl ?_
 refine aL 1 (by simp [go_sem, hO, h0, h1, h2, hlk] <;> rfl) ?_
 refine al_nil ?_
 refine awp_ret ?_
 refine ends_ret (by simp [go_sem] <;> rfl) (by simp [go_sem]) ?_
 exact ⟨by simp [go_sem], by subst hO; simp [go_sem]⟩

set_option maxHeartbeats 1000000 in
theorem c_def (O : List AObj) (ro : Nat) (fl fn : FuncId) (cl cn : List AV) (bare : Bool) (lab nm : D → D) (hro : O[ro]? = some (renBox fl fn cl cn bare)) (HL : RenAt Tryz.prog (GL kr) O fl cl lab) (HN : RenAt Tryz.prog (GL kr) O fn cn nm) (d x0 x1 x2 : D) (hk3 : d.kids = [x0, x1, x2]) (hok : okE x2 = true) (hf : formed d = true) (hd : d.size ≤ 1000000000) (σ : Store) (hgl : σ.gl = (GL kr)) (hO : σ.objs = O) : PurAt Tryz.prog σ 129 [.ptr ro 0, .pv (enc d)] (.pv (enc (rdef lab nm bare d))) := by
 have hor := (List.getElem?_eq_some_iff.1 hro).1
 have hx0 : d.kids[0]? = some x0 := by rw [hk3]; rfl
 have hx1 : d.kids[1]? = some x1 := by rw [hk3]; rfl
 have hx2 : d.kids[2]? = some x2 := by rw [hk3]; rfl
 have hs0 := D.size_kid_lt (List.mem_of_getElem? hx0)
 have hs1 := D.size_kid_lt (List.mem_of_getElem? hx1)
 have hs2 := D.size_kid_lt (List.mem_of_getElem? hx2)
 have hkl := D.kids_length_lt x1
 have hkd := D.kids_length_lt d
 have hsp : rdef lab nm bare d = dlist [lab x0, dlist (x1.kids.map nm), rexpr lab nm bare x2] := by unfold rdef; rw [head_cons hk3, hk3]; rfl
 refine purAt_of ?_
 refine acalls_of tyOk Tryz.func129 rfl (by simp [Tryz.f129]) ?_
 refine awp_seq (aR (by simp [go_sem, hO, hro, hx0, hx1, hx2] <;> rfl) ?_)
 refine awp_seq (aR (by simp [go_sem, hO, hro, hx0, hx1, hx2] <;> rfl) ?_)
 refine awp_seq (awp_seq (aR (by simp [go_sem, hO, hro, hx0, hx1, hx2] <;> rfl) ?_))
 refine awp_adopt' 5 24 4 (by simp [go_sem] <;> rfl) ?_
 refine awp_block ?_
 refine awp_loop_headK σ.objs.length (σ.toks.length + 1) 2 [0, 3, 4, 12, 13] (fun k : Nat => [(5, .acc ((outK [] x1.kids nm k).map enc) σ.toks.length), (14, .pv (.int .i64 ↑k))]) (fun k => { σ with toks := σ.toks ++ [⟨k, 24, 4⟩] }) (fun k => k ≤ x1.kids.length) (fun k => x1.kids.length - k) 0 (Nat.zero_le _) ⟨by simp [go_sem, hO], rfl, by simp, by simp, by simp [go_sem, hO, hro, hx0, hx1, hx2, outK_zero, hor], fun ob h => .inl (by simpa [go_sem, hO, hro, hx0, hx1, hx2, outK_zero, hor] using h), by simp [go_sem]⟩ ?_
 intro k hk
 refine awp_seq (aR (by simp [go_sem, hO, hro, hx0, hx1, hx2] <;> rfl) ?_)
 refine awp_seq (awp_cond (by first | rfl | (simp [go_sem, hO, hro, hx0, hx1, hx2] <;> rfl)) (fun h0 => ?_) (fun h0 => ?_))
 ·have hlt : k < x1.kids.length := by simp at h0; omega
  have hw : IntKind.i64.wrap (↑k + 1) = (k : Int) + 1 := wrap_succ (by omega)
  obtain ⟨x, hx, hxm⟩ := get_lt hlt
  have hon := outK_next (pre := []) (h := nm) hx
  have hol := outK_len (pre := []) (h := nm) hk
  rw [List.length_nil, Nat.zero_add] at hol
  have hbb : (k + 1) * 56 ≤ 140737488355328 := by omega
  refine awp_skip ?_
  refine awp_seq (awp_block ?_)
  refine awp_seq (aR (by simp [go_sem, hO, hro, hx0, hx1, hx2, hx, hol, hbb] <;> rfl) ?_)
  refine awp_regDP tyOk tySz 8 (by kernel_rfl) (by decide) ?_
  refine ul_run 6 (by simp [go_sem, hO, hro, hx0, hx1, hx2, hx, hol, hbb] <;> rfl) ?_
  refine ul_fn (by first | (intro _ _ hh; exact hh) | simp [go_sem]) rfl rfl rfl rfl (by simp [go_sem, hO, hro, hx0, hx1, hx2, hx, hol, hbb] <;> rfl) HN.1 (HN.2.2 _ (by exact hgl) (by first | exact hO | rfl) x (by have := D.size_kid_lt hxm; omega) (formed_text (formed_kids (formed_kids hf (List.mem_of_getElem? hx1)) hxm))) (by simp [go_sem, hO, hro, hx0, hx1, hx2, hx, hol, hbb] <;> rfl) (by simp [go_sem, hO, hro, hx0, hx1, hx2, hx, hol, hbb]) (by simp [go_sem, HN.2.1]) rfl ?_
  refine ul_run 1 (by simp [go_sem, hO, hro, hx0, hx1, hx2, hx, hol, hbb] <;> rfl) ?_
  refine ul_nil ?_
  refine aL 2 (by simp [go_sem, hO, hro, hx0, hx1, hx2, hx, hol, hbb] <;> rfl) ?_
  refine al_nil ?_
  refine aR (by simp [go_sem, hO, hro, hx0, hx1, hx2, hx, hol, hbb] <;> rfl) ?_
  exact next_intro (k + 1) σ.objs.length (σ.toks.length + 1) 2 (hlt) (by omega) ⟨by simp [go_sem, hO, hro, hx0, hx1, hx2, hx, hol, hbb, hw, hon, hor], rfl, by simp, by simp, by simp [go_sem, hO, hro, hx0, hx1, hx2, hx, hol, hbb, hw, hon, hor], fun ob h => .inl (by simpa [go_sem, hO, hro, hx0, hx1, hx2, hx, hol, hbb, hw, hon, hor] using h), by simp [go_sem]⟩
 ·have hke : k = x1.kids.length := by simp at h0; omega
  subst hke
  refine awp_exit ?_
  refine then_exit ?_
  refine then_exit ?_
  refine inBlock_hit ?_
  refine awp_seq (awp_regDP tyOk tySz 16 (by kernel_rfl) (by decide) ?_)
  refine ul_run 8 (by simp [go_sem, hO, hro, hx0, hx1, hx2, outK_all] <;> rfl) ?_
  refine ul_fn (by first | (intro _ _ hh; exact hh) | simp [go_sem]) rfl rfl rfl rfl (by simp [go_sem, hO, hro, hx0, hx1, hx2, outK_all] <;> rfl) HL.1 (HL.2.2 _ (by exact hgl) (by first | exact hO | rfl) x0 (by omega) (formed_text (formed_kids hf (List.mem_of_getElem? hx0)))) (by simp [go_sem, hO, hro, hx0, hx1, hx2, outK_all] <;> rfl) (by simp [go_sem, hO, hro, hx0, hx1, hx2, outK_all]) (by simp [go_sem, HL.2.1]) rfl ?_
  refine ul_run 1 (by simp [go_sem, hO, hro, hx0, hx1, hx2, outK_all] <;> rfl) ?_
  refine ul_fn (by first | (intro _ _ hh; exact hh) | simp [go_sem]) rfl rfl rfl rfl (by simp [go_sem, hO, hro, hx0, hx1, hx2, outK_all] <;> rfl) call61 ((c_flat_List (x1.kids.map nm)) _ (by exact hgl)) (by simp [go_sem, hO, hro, hx0, hx1, hx2, outK_all] <;> rfl) (by simp [go_sem, hO, hro, hx0, hx1, hx2, outK_all]) rfl rfl ?_
  refine ul_run 5 (by simp [go_sem, hO, hro, hx0, hx1, hx2, outK_all] <;> rfl) ?_
  refine ul_nil ?_
  refine aF call204 (c_flat_renamer_expr O ro fl fn cl cn bare lab nm hro HL HN x2 _ (by exact hgl) (by first | exact hO | rfl) hok (formed_kids hf (List.mem_of_getElem? hx2)) (by omega)) (by simp [go_sem, hO, hro, hx0, hx1, hx2, outK_all] <;> rfl) (by simp [go_sem, hO, hro, hx0, hx1, hx2, outK_all]) ?_
  refine aL 1 (by simp [go_sem, hO, hro, hx0, hx1, hx2, outK_all] <;> rfl) ?_
  refine aF call61 ((c_flat_List [lab x0, dlist (x1.kids.map nm), rexpr lab nm bare x2]) _ (by exact hgl)) (by simp [go_sem, hO, hro, hx0, hx1, hx2, outK_all] <;> rfl) (by simp [go_sem, hO, hro, hx0, hx1, hx2, outK_all]) ?_
  refine aL 1 (by simp [go_sem, hO, hro, hx0, hx1, hx2, outK_all] <;> rfl) ?_
  refine al_nil ?_
  refine awp_ret ?_
  refine ends_ret (by simp [go_sem] <;> rfl) (by simp [go_sem]) ?_
  exact ⟨by simp [go_sem, hsp], by subst hO; simp [go_sem]⟩

set_option maxHeartbeats 1000000 in
theorem c_canon (p : D) (R : Right p) (fl fn : FuncId) (bare : Bool) (label : Int → D) (nm : D → D) (hlab : ∀ O, LabAt Tryz.prog (GL kr) O fl [] label) (hnm : ∀ O, RenAt Tryz.prog (GL kr) O fn [] nm) : Pur Tryz.prog (GL kr) 59 [.pv (enc p), .func (.func fl) [], .func (.func fn) [], .pv (.bool bare)] (.pv (.slice ((canonL (reach p) label nm bare).map enc))) := by
 refine pur_of fun σ hgl => ?_
 have hsz := R.sz
 have hkl := D.kids_length_lt p
 have hrl : (reach p).length ≤ p.kids.length := (rst_inv R _).len
 have hrm : ∀ x, x ∈ reach p → x ∈ p.kids := (rst_inv R _).mem
 refine acalls_of tyOk Tryz.func59 rfl (by simp [Tryz.f59]) ?_
 refine awp_seq (awp_region_run (sh := [5]) tyOk (by simp [go_sem] <;> rfl) ?_)
 refine awp_seq (awp_reg ?_)
 refine aL 1 (by simp [go_sem] <;> rfl) ?_
 refine aF call126 ((c_flat_reach p R) _ (by exact hgl)) (by simp [go_sem] <;> rfl) (by simp [go_sem]) ?_
 refine aL 1 (by simp [go_sem] <;> rfl) ?_
 refine al_nil ?_
 refine awp_seq (awp_region_run (sh := [10]) tyOk (by simp [go_sem] <;> rfl) ?_)
 refine awp_seq (awp_seq (aR (by simp [go_sem] <;> rfl) ?_))
 refine awp_block ?_
 refine awp_loop_headK (σ.objs.length + 3) σ.toks.length 1 [2, 3, 5, 8, 9, 10, 20, 21] (fun k : Nat => [(22, .pv (.int .i64 ↑k))]) (fun k => withA σ fl (atK (reach p) k)) (fun k => k ≤ (reach p).length) (fun k => (reach p).length - k) 0 (Nat.zero_le _) ⟨by show withA σ fl (atK (reach p) 0) = _; rw [atK_zero]; simp [withA, mapK, mapV, go_sem, List.take_of_length_le], rfl, by simp, by simp, by simp [go_sem], fun ob h => withA_mem h, by simp [go_sem]⟩ ?_
 intro k hk
 refine awp_seq (aR (by simp [go_sem] <;> rfl) ?_)
 refine awp_seq (awp_cond (by first | rfl | (simp [go_sem] <;> rfl)) (fun h0 => ?_) (fun h0 => ?_))
 ·have hlt : k < (reach p).length := by simp at h0; omega
  have hw : IntKind.i64.wrap (↑k + 1) = (k : Int) + 1 := wrap_succ (by omega)
  obtain ⟨x, hx, hxm⟩ := get_lt hlt
  have hxp := hrm x hxm
  obtain ⟨x0, x1, x2, ns, hkk, _⟩ := R.def hxp
  have hx0 : x.kids[0]? = some x0 := by rw [hkk]; rfl
  have hsx := D.size_kid_lt hxp
  have hat := atK_next hx
  rw [head_cons hkk] at hat
  have hg2 := withA_get2 (σ := σ) (fl := fl) (ps := atK (reach p) k)
  have hg1 := withA_get1 (σ := σ) (fl := fl) (ps := atK (reach p) k)
  have hpt := fun (s : St) (d : D) (v : Int) (ho : s.σ.objs[σ.objs.length + 1]? = some (.map (mapK (atK (reach p) k)) (mapV pint (atK (reach p) k)))) => put_par ho d v
  refine awp_skip ?_
  refine awp_seq (awp_block ?_)
  refine awp_seq (aR (by simp [go_sem, hx, hx0, hg1, hg2, hpt] <;> rfl) ?_)
  refine awp_regDP tyOk tySz 7 (by kernel_rfl) (by decide) ?_
  refine ul_run 5 (by simp [go_sem, hx, hx0, hg1, hg2, hpt] <;> rfl) ?_
  refine ul_fn (by first | (intro _ _ hh; exact hh) | simp [go_sem]) rfl rfl rfl rfl (by simp [go_sem, hx, hx0, hg1, hg2, hpt] <;> rfl) call127 ((c_flat_keyOf x0) _ (by exact hgl)) (by simp [go_sem, hx, hx0, hg1, hg2, hpt] <;> rfl) (by simp [go_sem, hx, hx0, hg1, hg2, hpt]) rfl rfl ?_
  refine ul_run 1 (by simp [go_sem, hx, hx0, hg1, hg2, hpt] <;> rfl) ?_
  refine ul_nil ?_
  refine aL 1 (by simp [go_sem, hx, hx0, hg1, hg2, hpt] <;> rfl) ?_
  refine al_nil ?_
  refine aR (by simp [go_sem, hx, hx0, hg1, hg2, hpt] <;> rfl) ?_
  exact next_intro (k + 1) (σ.objs.length + 3) σ.toks.length 1 (hlt) (by omega) ⟨by show withA σ fl (atK (reach p) (k + 1)) = Store.cut _ _ _; rw [hat]; simp [withA, go_sem, List.take_of_length_le], rfl, by simp, by simp, by simp [go_sem, hx, hx0, hg1, hg2, hpt, hw], fun ob h => withA_mem h, by simp [go_sem]⟩
 ·have hke : k = (reach p).length := by simp at h0; omega
  subst hke
  have haa := atK_all (l := reach p)
  refine awp_exit ?_
  refine then_exit ?_
  refine then_exit ?_
  refine inBlock_hit ?_
  refine awp_seq (awp_region_run (sh := [39]) tyOk (by simp [go_sem, haa, withA_no, withA_toks] <;> rfl) ?_)
  refine awp_seq (aR (by simp [go_sem, haa, withA_no, withA_toks] <;> rfl) ?_)
  refine awp_seq (awp_seq (aR (by simp [go_sem, haa, withA_no, withA_toks] <;> rfl) ?_))
  refine awp_adopt' 14 24 4 (by simp [go_sem] <;> rfl) ?_
  have HB : RenAt Tryz.prog (GL kr) (withB σ 128 fl fn (atL (reach p)) bare).objs 128 [.ptr σ.objs.length 0, .ptr (σ.objs.length + 2) 0] (fun f => label (kpar (atL (reach p)) f).1) := ⟨call128, rfl, fun σ2 hgl2 hO2 x hx _ => c_canon_1 _ σ.objs.length (σ.objs.length + 2) (σ.objs.length + 1) fl [] (atL (reach p)) label withB_get0 withB_get2 withB_get1 (hlab _) (fun d => atL_bound d (by omega)) x σ2 hgl2 hO2⟩
  refine awp_block ?_
  refine awp_loop_headK (σ.objs.length + 4) (σ.toks.length + 1) 1 [8, 13, 40, 41] (fun k : Nat => [(14, .acc ((outK [] (reach p) (rdef (fun f => label (kpar (atL (reach p)) f).1) nm bare) k).map enc) σ.toks.length), (42, .pv (.int .i64 ↑k))]) (fun k => { withB σ 128 fl fn (atL (reach p)) bare with toks := σ.toks ++ [⟨k, 24, 4⟩] }) (fun k => k ≤ (reach p).length) (fun k => (reach p).length - k) 0 (Nat.zero_le _) ⟨by show ({ withB σ 128 fl fn (atL (reach p)) bare with toks := _ } : Store) = _; simp [withB, withA, go_sem, haa, List.take_of_length_le], rfl, by simp, by simp, by simp [go_sem, haa, withA_no, withA_toks, outK_zero, withA_toks], fun ob h => withB_mem h, by simp [go_sem]⟩ ?_
  intro k hk
  refine awp_seq (aR (by simp [go_sem, haa, withA_no, withA_toks] <;> rfl) ?_)
  refine awp_seq (awp_cond (by first | rfl | (simp [go_sem, haa, withA_no, withA_toks] <;> rfl)) (fun h1 => ?_) (fun h1 => ?_))
  ·have hlt : k < (reach p).length := by simp at h1; omega
   have hw : IntKind.i64.wrap (↑k + 1) = (k : Int) + 1 := wrap_succ (by omega)
   obtain ⟨x, hx, hxm⟩ := get_lt hlt
   have hxp := hrm x hxm
   obtain ⟨x0, x1, x2, ns, hkk, _⟩ := R.def hxp
   have hok := R.ok hxp
   rw [show d2 x.kids = x2 by rw [hkk]; rfl] at hok
   have hsx := D.size_kid_lt hxp
   have hon := outK_next (pre := []) (h := rdef (fun f => label (kpar (atL (reach p)) f).1) nm bare) hx
   have hol := outK_len (pre := []) (h := rdef (fun f => label (kpar (atL (reach p)) f).1) nm bare) hk
   rw [List.length_nil, Nat.zero_add] at hol
   have hbb : (k + 1) * 56 ≤ 140737488355328 := by omega
   refine awp_skip ?_
   refine awp_seq (awp_block ?_)
   refine awp_seq (aR (by simp [go_sem, haa, withA_no, withA_toks, hx, hol, hbb] <;> rfl) ?_)
   refine awp_reg ?_
   refine aL 3 (by simp [go_sem, haa, withA_no, withA_toks, hx, hol, hbb] <;> rfl) ?_
   refine aF call129 (c_def (withB σ 128 fl fn (atL (reach p)) bare).objs (σ.objs.length + 3) 128 fn [.ptr σ.objs.length 0, .ptr (σ.objs.length + 2) 0] [] bare (fun f => label (kpar (atL (reach p)) f).1) nm withB_get3 HB (hnm _) x x0 x1 x2 hkk hok (formed_kids R.formed hxp) (by omega) _ (by exact hgl) rfl) (by simp [go_sem, haa, withA_no, withA_toks, hx, hol, hbb] <;> rfl) (by simp [go_sem, haa, withA_no, withA_toks, hx, hol, hbb]) ?_
   refine aL 3 (by simp [go_sem, haa, withA_no, withA_toks, hx, hol, hbb] <;> rfl) ?_
   refine al_nil ?_
   refine aR (by simp [go_sem, haa, withA_no, withA_toks, hx, hol, hbb] <;> rfl) ?_
   exact next_intro (k + 1) (σ.objs.length + 4) (σ.toks.length + 1) 1 (hlt) (by omega) ⟨by simp [go_sem, withB_take, withB_toks], rfl, by simp, by simp, by simp [go_sem, haa, withA_no, withA_toks, hx, hol, hbb, hw, hon, withB_toks], fun ob h => withB_mem h, by simp [go_sem]⟩
  ·have hke : k = (reach p).length := by simp at h1; omega
   subst hke
   refine awp_exit ?_
   refine then_exit ?_
   refine then_exit ?_
   refine inBlock_hit ?_
   refine awp_seq (aR (by simp [go_sem, haa, withA_no, withA_toks, outK_all] <;> rfl) ?_)
   refine awp_ret ?_
   refine ends_ret (by simp [go_sem] <;> rfl) (by simp [go_sem]) ?_
   exact ⟨by simp [go_sem, canonL, outK_all], by simp [go_sem, withB_take0, withB_gl, withB_toks]⟩

end Go.Proofs.YtnibcmaaehkhlaaGreatDoor

namespace Go.Proofs.YtnibcmaaehkhlaaGreatDoor
open Go Go.Aw
variable {kr : KR}
set_option maxHeartbeats 1000000 in
theorem c_flat_Canon (p : D) (hp : p.size ≤ 900000000) : Pur Tryz.prog (GL kr) 66 [.pv (enc p)] (.tuple [.pv (enc (fcanon p).1), .pv (.int .i64 (fcanon p).2)]) := by
 refine pur_of fun σ hgl => ?_
 refine acalls_of tyOk Tryz.func66 rfl (by simp [Tryz.f66]) ?_
 refine awp_seq (aR (by simp [go_sem] <;> rfl) ?_)
 refine awp_seq (awp_seq (awp_reg ?_))
 refine aL 1 (by simp [go_sem] <;> rfl) ?_
 refine aF call54 ((c_flat_Check p hp) _ (by exact hgl)) (by simp [go_sem] <;> rfl) (by simp [go_sem]) ?_
 refine aL 1 (by simp [go_sem] <;> rfl) ?_
 refine al_nil ?_
 refine awp_seq (aR (by simp [go_sem] <;> rfl) ?_)
 refine awp_cond (by first | rfl | (simp [go_sem] <;> rfl)) (fun h0 => ?_) (fun h0 => ?_)
 ·refine awp_seq ?_
  refine aR (by simp [go_sem] <;> rfl) ?_
  refine awp_ret ?_
  refine then_ret ?_
  refine ends_ret (by simp [go_sem] <;> rfl) (by simp [go_sem]) ?_
  exact ⟨by simp only [fcanon, enc_none, h0, bA, bB, bC, bD, bE, bF, bG, bH, bI, bJ, Bool.false_eq_true, if_true, if_false]; simp [go_sem], by simp [go_sem]⟩
 ·have R : Right p := ⟨by simpa using h0, hp⟩
  refine awp_skip ?_
  refine awp_seq (awp_reg ?_)
  refine aL 1 (by simp [go_sem] <;> rfl) ?_
  refine aF call59 ((c_canon p R 135 137 false dnum id (fun O => ⟨call135, rfl, fun σ hgl _ n _ _ => c_flat_Canon_1 n σ hgl⟩) (fun O => ⟨call137, rfl, fun σ hgl _ x _ _ => c_flat_Canon_2 x σ hgl⟩)) _ (by exact hgl)) (by simp [go_sem] <;> rfl) (by simp [go_sem]) ?_
  refine aF call61 ((c_flat_List (canonL (reach p) dnum id false)) _ (by exact hgl)) (by simp [go_sem] <;> rfl) (by simp [go_sem]) ?_
  refine aL 2 (by simp [go_sem] <;> rfl) ?_
  refine al_nil ?_
  refine awp_ret ?_
  refine ends_ret (by simp [go_sem] <;> rfl) (by simp [go_sem]) ?_
  exact ⟨by simp only [fcanon, canonD, h0, bA, bB, bC, bD, bE, bF, bG, bH, bI, bJ, Bool.false_eq_true, if_true, if_false]; simp [go_sem], by simp [go_sem]⟩

set_option maxHeartbeats 1000000 in
theorem c_size (d : D) : ∀ σ : Store, σ.gl = (GL kr) → okE d = true → d.size ≤ 1000000000 → PurAt Tryz.prog σ 134 [.pv (enc d)] (.pv (.int .i64 (fsize d))) := by
 induction d using D.ind with
 | _ kind num text kids ih =>
 generalize hD : D.mk kind num text kids = d at *
 have hk : d.kids = kids := by rw [← hD]; rfl
 clear hD
 subst hk
 have hkl := D.kids_length_lt d
 intro σ hgl hok hd
 have hpl := parts_len d
 have hsl := fsize_le d
 have hsp := sizes_parts d
 refine purAt_of ?_
 refine acalls_of tyOk Tryz.func134 rfl (by simp [Tryz.f134]) ?_
 refine awp_seq (aR (by simp [go_sem] <;> rfl) ?_)
 refine awp_seq (aR (by simp [go_sem] <;> rfl) ?_)
 refine awp_seq (awp_seq (awp_reg ?_))
 refine aL 1 (by simp [go_sem] <;> rfl) ?_
 refine aF call211 ((c_flat_Parts d (okE_ne hok) (okE_two hok)) _ (by exact hgl)) (by simp [go_sem] <;> rfl) (by simp [go_sem]) ?_
 refine aL 2 (by simp [go_sem] <;> rfl) ?_
 refine al_nil ?_
 refine awp_block ?_
 refine awp_loop_headK σ.objs.length σ.toks.length 1 [2, 7, 8] (fun k : Nat => [(3, .pv (.int .i64 (1 + ((sumTo fsize (parts d) k : Nat) : Int)))), (9, .pv (.int .i64 ↑k))]) (fun k => σ) (fun k => k ≤ (parts d).length) (fun k => (parts d).length - k) 0 (Nat.zero_le _) ⟨by simp [go_sem, sumTo_zero], rfl, by simp, by simp, by simp [go_sem, sumTo_zero], fun ob h => .inl (by simpa [go_sem, sumTo_zero] using h), by simp [go_sem]⟩ ?_
 intro k hk
 refine awp_seq (aR (by simp [go_sem] <;> rfl) ?_)
 refine awp_seq (awp_cond (by first | rfl | (simp [go_sem] <;> rfl)) (fun h0 => ?_) (fun h0 => ?_))
 ·have hlt : k < (parts d).length := by simp at h0; omega
  have hw : IntKind.i64.wrap (↑k + 1) = (k : Int) + 1 := wrap_succ (by omega)
  obtain ⟨x, hx, hxm⟩ := get_lt hlt
  have hsn := sumTo_next (f := fsize) hx
  have hs1 := sumTo_le (f := fsize) (l := parts d) (k := k) (fun x _ => fsize_le x)
  have hs2 := sumTo_le (f := fsize) (l := parts d) (k := k + 1) (fun x _ => fsize_le x)
  have hwa : IntKind.i64.wrap (1 + ((sumTo fsize (parts d) k : Nat) : Int) + (fsize x : Int)) = 1 + ((sumTo fsize (parts d) (k + 1) : Nat) : Int) := by rw [wrap_id (by omega) (by omega)]; omega
  refine awp_skip ?_
  refine awp_seq (awp_block ?_)
  refine awp_seq (aR (by simp [go_sem, hx, hwa] <;> rfl) ?_)
  refine awp_reg ?_
  refine aL 2 (by simp [go_sem, hx, hwa] <;> rfl) ?_
  refine aF call134 (ih x (parts_mem hxm) _ (by exact hgl) (okE_parts hok x hxm) (by have := D.size_kid_lt (parts_mem hxm); omega)) (by simp [go_sem, hx, hwa] <;> rfl) (by simp [go_sem, hx, hwa]) ?_
  refine aL 2 (by simp [go_sem, hx, hwa] <;> rfl) ?_
  refine al_nil ?_
  refine aR (by simp [go_sem, hx, hwa] <;> rfl) ?_
  exact next_intro (k + 1) σ.objs.length σ.toks.length 1 (hlt) (by omega) ⟨by simp [go_sem, hx, hwa, hw], rfl, by simp, by simp, by simp [go_sem, hx, hwa, hw], fun ob h => .inl (by simpa [go_sem, hx, hwa, hw] using h), by simp [go_sem]⟩
 ·have hke : k = (parts d).length := by simp at h0; omega
  subst hke
  have hsa := sumTo_all (f := fsize) (l := parts d)
  have hse := fsize_eq d
  rw [← hsa] at hse
  refine awp_exit ?_
  refine then_exit ?_
  refine then_exit ?_
  refine inBlock_hit ?_
  refine awp_seq (aR (by simp [go_sem] <;> rfl) ?_)
  refine awp_ret ?_
  refine ends_ret (by simp [go_sem] <;> rfl) (by simp [go_sem]) ?_
  exact ⟨by rw [hse]; simp [go_sem], by simp [go_sem]⟩

set_option maxHeartbeats 1000000 in
theorem c_flat_Size (p : D) (hp : p.size ≤ 900000000) : Pur Tryz.prog (GL kr) 65 [.pv (enc p)] (.tuple [.pv (.int .i64 (fSize p).1), .pv (.int .i64 (fSize p).2)]) := by
 have hkl := D.kids_length_lt p
 have hsk := sizes_kids p
 refine pur_of fun σ hgl => ?_
 refine acalls_of tyOk Tryz.func65 rfl (by simp [Tryz.f65]) ?_
 refine awp_seq (aR (by simp [go_sem] <;> rfl) ?_)
 refine awp_seq (awp_seq (awp_reg ?_))
 refine aL 1 (by simp [go_sem] <;> rfl) ?_
 refine aF call54 ((c_flat_Check p hp) _ (by exact hgl)) (by simp [go_sem] <;> rfl) (by simp [go_sem]) ?_
 refine aL 1 (by simp [go_sem] <;> rfl) ?_
 refine al_nil ?_
 refine awp_seq (aR (by simp [go_sem] <;> rfl) ?_)
 refine awp_cond (by first | rfl | (simp [go_sem] <;> rfl)) (fun h0 => ?_) (fun h0 => ?_)
 ·refine awp_seq ?_
  refine aR (by simp [go_sem] <;> rfl) ?_
  refine awp_ret ?_
  refine then_ret ?_
  refine ends_ret (by simp [go_sem] <;> rfl) (by simp [go_sem]) ?_
  exact ⟨by simp only [fSize, h0, bA, bB, bC, bD, bE, bF, bG, bH, bI, bJ, Bool.false_eq_true, if_true, if_false]; simp [go_sem], by simp [go_sem]⟩
 ·have R : Right p := ⟨by simpa using h0, hp⟩
  refine awp_skip ?_
  refine awp_seq (aR (by simp [go_sem] <;> rfl) ?_)
  refine awp_seq (awp_seq (aR (by simp [go_sem] <;> rfl) ?_))
  refine awp_block ?_
  refine awp_loop_headK σ.objs.length σ.toks.length 1 [2, 3, 14, 15] (fun k : Nat => [(5, .pv (.int .i64 ((sumTo bsize p.kids k : Nat) : Int))), (16, .pv (.int .i64 ↑k))]) (fun k => σ) (fun k => k ≤ p.kids.length) (fun k => p.kids.length - k) 0 (Nat.zero_le _) ⟨by simp [go_sem, sumTo_zero], rfl, by simp, by simp, by simp [go_sem, sumTo_zero], fun ob h => .inl (by simpa [go_sem, sumTo_zero] using h), by simp [go_sem]⟩ ?_
  intro k hk
  refine awp_seq (aR (by simp [go_sem] <;> rfl) ?_)
  refine awp_seq (awp_cond (by first | rfl | (simp [go_sem] <;> rfl)) (fun h1 => ?_) (fun h1 => ?_))
  ·have hlt : k < p.kids.length := by simp at h1; omega
   have hw : IntKind.i64.wrap (↑k + 1) = (k : Int) + 1 := wrap_succ (by omega)
   obtain ⟨x, hx, hxm⟩ := get_lt hlt
   obtain ⟨x0, x1, x2, ns, hkk, _⟩ := R.def hxm
   have hok := R.ok hxm
   have hd2 : d2 x.kids = x2 := by rw [hkk]; rfl
   rw [hd2] at hok
   have hx2 : x.kids[2]? = some x2 := by rw [hkk]; rfl
   have hsx := D.size_kid_lt hxm
   have hsx2 := D.size_kid_lt (List.mem_of_getElem? hx2)
   have hsn := sumTo_next (f := bsize) hx
   rw [show bsize x = fsize x2 by unfold bsize; rw [hd2]] at hsn
   have hs2 := sumTo_le (f := bsize) (l := p.kids) (k := k + 1) (fun x hx => R.bsize_le hx)
   have hwa : IntKind.i64.wrap (((sumTo bsize p.kids k : Nat) : Int) + (fsize x2 : Int)) = ((sumTo bsize p.kids (k + 1) : Nat) : Int) := by rw [wrap_add (by omega), ← hsn]
   refine awp_skip ?_
   refine awp_seq (awp_block ?_)
   refine awp_seq (aR (by simp [go_sem, hx, hx2, hwa] <;> rfl) ?_)
   refine awp_reg ?_
   refine aL 5 (by simp [go_sem, hx, hx2, hwa] <;> rfl) ?_
   refine aF call134 (c_size x2 _ (by exact hgl) hok (by omega)) (by simp [go_sem, hx, hx2, hwa] <;> rfl) (by simp [go_sem, hx, hx2, hwa]) ?_
   refine aL 2 (by simp [go_sem, hx, hx2, hwa] <;> rfl) ?_
   refine al_nil ?_
   refine aR (by simp [go_sem, hx, hx2, hwa] <;> rfl) ?_
   exact next_intro (k + 1) σ.objs.length σ.toks.length 1 (hlt) (by omega) ⟨by simp [go_sem, hx, hx2, hwa, hw], rfl, by simp, by simp, by simp [go_sem, hx, hx2, hwa, hw], fun ob h => .inl (by simpa [go_sem, hx, hx2, hwa, hw] using h), by simp [go_sem]⟩
  ·have hke : k = p.kids.length := by simp at h1; omega
   subst hke
   have hsa := sumTo_all (f := bsize) (l := p.kids)
   refine awp_exit ?_
   refine then_exit ?_
   refine then_exit ?_
   refine inBlock_hit ?_
   refine awp_seq (aR (by simp [go_sem] <;> rfl) ?_)
   refine awp_ret ?_
   refine ends_ret (by simp [go_sem] <;> rfl) (by simp [go_sem]) ?_
   have hs : fSize p = (((sumTo bsize p.kids p.kids.length : Nat) : Int), 0) := by simp only [fSize, h0, bA, bB, bC, bD, bE, bF, bG, bH, bI, bJ, Bool.false_eq_true, if_true, if_false]; rw [hsa]
   exact ⟨by simp [go_sem, hs], by simp [go_sem]⟩

set_option maxHeartbeats 1000000 in
theorem c_flat_Reach (p : D) (hp : p.size ≤ 900000000) : Pur Tryz.prog (GL kr) 67 [.pv (enc p)] (.tuple [.pv (.slice ((fReach p).1.map enc)), .pv (.int .i64 (fReach p).2)]) := by
 have hkl := D.kids_length_lt p
 refine pur_of fun σ hgl => ?_
 refine acalls_of tyOk Tryz.func67 rfl (by simp [Tryz.f67]) ?_
 refine awp_seq (aR (by simp [go_sem] <;> rfl) ?_)
 refine awp_seq (awp_seq (awp_reg ?_))
 refine aL 1 (by simp [go_sem] <;> rfl) ?_
 refine aF call54 ((c_flat_Check p hp) _ (by exact hgl)) (by simp [go_sem] <;> rfl) (by simp [go_sem]) ?_
 refine aL 1 (by simp [go_sem] <;> rfl) ?_
 refine al_nil ?_
 refine awp_seq (aR (by simp [go_sem] <;> rfl) ?_)
 refine awp_cond (by first | rfl | (simp [go_sem] <;> rfl)) (fun h0 => ?_) (fun h0 => ?_)
 ·refine awp_seq ?_
  refine aR (by simp [go_sem] <;> rfl) ?_
  refine awp_ret ?_
  refine then_ret ?_
  refine ends_ret (by simp [go_sem] <;> rfl) (by simp [go_sem]) ?_
  exact ⟨by simp only [fReach, h0, bA, bB, bC, bD, bE, bF, bG, bH, bI, bJ, Bool.false_eq_true, if_true, if_false]; simp [go_sem], by simp [go_sem]⟩
 ·have R : Right p := ⟨by simpa using h0, hp⟩
  have hrl : (reach p).length ≤ p.kids.length := (rst_inv R _).len
  have hrm : ∀ x, x ∈ reach p → x ∈ p.kids := (rst_inv R _).mem
  refine awp_skip ?_
  refine awp_seq (aR (by simp [go_sem] <;> rfl) ?_)
  refine awp_seq (awp_seq (awp_reg ?_))
  refine aL 1 (by simp [go_sem] <;> rfl) ?_
  refine aF call126 ((c_flat_reach p R) _ (by exact hgl)) (by simp [go_sem] <;> rfl) (by simp [go_sem]) ?_
  refine aL 2 (by simp [go_sem] <;> rfl) ?_
  refine al_nil ?_
  refine awp_adopt' 5 24 4 (by simp [go_sem] <;> rfl) ?_
  refine awp_block ?_
  refine awp_loop_headK σ.objs.length (σ.toks.length + 1) 1 [2, 3, 14, 15] (fun k : Nat => [(5, .acc ((outK [] (reach p) D.head k).map enc) σ.toks.length), (16, .pv (.int .i64 ↑k))]) (fun k => { σ with toks := σ.toks ++ [⟨k, 24, 4⟩] }) (fun k => k ≤ (reach p).length) (fun k => (reach p).length - k) 0 (Nat.zero_le _) ⟨by simp [go_sem, outK_zero], rfl, by simp, by simp, by simp [go_sem, outK_zero], fun ob h => .inl (by simpa [go_sem, outK_zero] using h), by simp [go_sem]⟩ ?_
  intro k hk
  refine awp_seq (aR (by simp [go_sem] <;> rfl) ?_)
  refine awp_seq (awp_cond (by first | rfl | (simp [go_sem] <;> rfl)) (fun h1 => ?_) (fun h1 => ?_))
  ·have hlt : k < (reach p).length := by simp at h1; omega
   have hw : IntKind.i64.wrap (↑k + 1) = (k : Int) + 1 := wrap_succ (by omega)
   obtain ⟨x, hx, hxm⟩ := get_lt hlt
   have hxp := hrm x hxm
   obtain ⟨x0, x1, x2, ns, hkk, _⟩ := R.def hxp
   have hx0 : x.kids[0]? = some x0 := by rw [hkk]; rfl
   have hsx := D.size_kid_lt hxp
   have hsx0 := D.size_kid_lt (List.mem_of_getElem? hx0)
   have hon := outK_next (pre := []) (h := D.head) hx
   rw [head_cons hkk] at hon
   have hol := outK_len (pre := []) (h := D.head) hk
   rw [List.length_nil, Nat.zero_add] at hol
   have hbb : (k + 1) * 56 ≤ 140737488355328 := by omega
   refine awp_skip ?_
   refine awp_seq (awp_block ?_)
   refine awp_seq (aR (by simp [go_sem, hx, hx0, hol, hbb] <;> rfl) ?_)
   refine awp_reg ?_
   refine aL 5 (by simp [go_sem, hx, hx0, hol, hbb] <;> rfl) ?_
   refine aF call62 ((c_own x0 (by omega)) _ (by exact hgl)) (by simp [go_sem, hx, hx0, hol, hbb] <;> rfl) (by simp [go_sem, hx, hx0, hol, hbb]) ?_
   refine aL 3 (by simp [go_sem, hx, hx0, hol, hbb] <;> rfl) ?_
   refine al_nil ?_
   refine aR (by simp [go_sem, hx, hx0, hol, hbb] <;> rfl) ?_
   exact next_intro (k + 1) σ.objs.length (σ.toks.length + 1) 1 (hlt) (by omega) ⟨by simp [go_sem, hx, hx0, hol, hbb, hw, hon], rfl, by simp, by simp, by simp [go_sem, hx, hx0, hol, hbb, hw, hon], fun ob h => .inl (by simpa [go_sem, hx, hx0, hol, hbb, hw, hon] using h), by simp [go_sem]⟩
  ·have hke : k = (reach p).length := by simp at h1; omega
   subst hke
   refine awp_exit ?_
   refine then_exit ?_
   refine then_exit ?_
   refine inBlock_hit ?_
   refine awp_seq (aR (by simp [go_sem, outK_all] <;> rfl) ?_)
   refine awp_ret ?_
   refine ends_ret (by simp [go_sem] <;> rfl) (by simp [go_sem]) ?_
   have hs : fReach p = ((reach p).map D.head, 0) := by simp only [fReach, outK_all, h0, bA, bB, bC, bD, bE, bF, bG, bH, bI, bJ, Bool.false_eq_true, if_true, if_false]
   exact ⟨by simp [go_sem, hs], by simp [go_sem]⟩

end Go.Proofs.YtnibcmaaehkhlaaGreatDoor

namespace Go.Proofs.YtnibcmaaehkhlaaGreatDoor
open Go Go.Aw
variable {kr : KR}
end Go.Proofs.YtnibcmaaehkhlaaGreatDoor

namespace Go.Proofs.YtnibcmaaehkhlaaGreatDoor
open Go Go.Aw
variable {kr : KR}
set_option maxHeartbeats 1000000 in
theorem c_cut (d : D) : ∀ (oc lf : Nat) (dp : Int) (σ : Store), σ.gl = (GL kr) → σ.objs[oc]? = some (.box [.pv (.int .i64 lf)]) → 0 < lf → lf ≤ 3000 → 1 ≤ dp → dp ≤ 2000 → ACalls Tryz.prog 100 [.ptr oc 0, .pv (enc d), .pv (.int .i64 dp)] σ (CutR oc lf σ) := by
 induction d using D.ind with
 | _ kind num text kids ih =>
 generalize hD : D.mk kind num text kids = d at *
 have hk : d.kids = kids := by rw [← hD]; rfl
 clear hD
 subst hk
 intro oc lf dp σ hgl hoc hlf0 hlf hdp hdp2
 have hol := (List.getElem?_eq_some_iff.1 hoc).1
 obtain ⟨tx, htx⟩ : ∃ tx : ByteArray, tx = d.text.extract 0 (if (42 : Int) < d.text.size then (42 : Int) else d.text.size).toNat := ⟨_, rfl⟩
 have hm1 : (0 : Int) ≤ (if (42 : Int) < d.text.size then (42 : Int) else d.text.size) := by split <;> omega
 have hm2 : (if (42 : Int) < d.text.size then (42 : Int) else d.text.size) ≤ d.text.size := by split <;> omega
 have hw1 : IntKind.i64.wrap ((lf : Int) - 1) = ((lf - 1 : Nat) : Int) := by rw [wrap_id (by omega) (by omega)]; omega
 refine cut_less (k := d.kind) (n := d.num) (tx := tx) ?_
 refine acalls_of tyOk Tryz.func100 rfl (by simp [Tryz.f100]) ?_
 refine awp_seq (aR (by simp [go_sem, hoc, hm1, hm2, hw1] <;> rfl) ?_)
 refine awp_seq (aR (by simp [go_sem, hoc, hm1, hm2, hw1] <;> rfl) ?_)
 refine awp_seq (awp_regDP tyOk tySz 13 (by kernel_rfl) (by decide) ?_)
 refine ul_run 13 (by simp [go_sem, hoc, hm1, hm2, hw1] <;> rfl) ?_
 refine ul_nil ?_
 refine aL 1 (by simp [go_sem, hoc, hm1, hm2, hw1] <;> rfl) ?_
 refine al_nil ?_
 refine awp_seq (awp_seq (aR (by simp [go_sem, hoc, hm1, hm2, hw1] <;> rfl) ?_))
 refine awp_adoptL' 2 3 24 4 (by simp [go_sem] <;> rfl) ?_
 refine awp_block ?_
 refine awp_loop_headKL σ.objs.length (σ.toks.length + 1) 3 [0, 2, 4, 6, 7] (fun i : List D × Nat => [(8, .pv (.int .i64 ↑i.1.length))]) (fun i : List D × Nat => [[.pv (.int .i64 d.kind), .pv (.int .i64 d.num), .pv (.str d.text), .pv (.slice (d.kids.map enc))], [.pv (.int .i64 0), .pv (.int .i64 0), .pv (.str ⟨#[]⟩), .pv .nils], [.pv (.int .i64 d.kind), .pv (.int .i64 d.num), .pv (.str tx), .acc (i.1.map enc) σ.toks.length]]) (fun i => { setC σ oc (i.2 : Int) with toks := σ.toks ++ [⟨i.1.length, 24, 4⟩] }) (fun i => D.sizes i.1 + i.2 + 1 ≤ lf ∧ i.1.length ≤ d.kids.length) (fun i => d.kids.length - i.1.length) ([], lf - 1) (⟨by simp [D.sizes]; omega, Nat.zero_le _⟩) ⟨by show ({ setC σ oc _ with toks := _ } : Store) = _; simp [setC, go_sem, List.take_of_length_le], by simp [go_sem, hoc, hm1, hm2, hw1, htx, hol], by simp, by simp, by simp [go_sem, hoc, hm1, hm2, hw1, htx, hol], fun ob h => setC_mem h _ _ _, by simp [go_sem]⟩ ?_
 rintro i ⟨hsz, hil⟩
 have hgc := setC_get (v := (i.2 : Int)) hoc
 have hll := D.length_le_sizes i.1
 refine awp_seq (awp_seq (awp_reg ?_))
 refine aL 6 (by simp [go_sem, hoc, hm1, hm2, hw1, hgc] <;> rfl) ?_
 refine al_splitT 33 (by first | rfl | (simp [go_sem, hoc, hm1, hm2, hw1, hgc] <;> rfl)) (fun h0 => ?_) (fun h0 => ?_)
 ·refine aLG 2 33 true (by simp [go_sem, hoc, hm1, hm2, hw1, hgc] <;> rfl) ?_
  refine aL 2 (by simp [go_sem, hoc, hm1, hm2, hw1, hgc] <;> rfl) ?_
  refine al_splitT 37 (by first | rfl | (simp [go_sem, hoc, hm1, hm2, hw1, hgc] <;> rfl)) (fun h1 => ?_) (fun h1 => ?_)
  ·refine aLG 5 37 true (by simp [go_sem, hoc, hm1, hm2, hw1, hgc] <;> rfl) ?_
   refine aL 1 (by simp [go_sem, hoc, hm1, hm2, hw1, hgc] <;> rfl) ?_
   refine al_nil ?_
   refine awp_cond (by first | rfl | (simp [go_sem, hoc, hm1, hm2, hw1, hgc] <;> rfl)) (fun h2 => ?_) (fun h2 => ?_)
   ·have hlt : i.1.length < d.kids.length := by simpa using h0
    have hlv : 0 < i.2 := by have := h2; simp at this; omega
    have hd1 : (1 : Int) < dp := by have := h1; simp at this; omega
    obtain ⟨x, hx, hxm⟩ := get_lt hlt
    have hwd : IntKind.i64.wrap (dp - 1) = dp - 1 := wrap_id (by omega) (by omega)
    have hbb : (i.1.length + 1) * 56 ≤ 140737488355328 := by omega
    have hw : IntKind.i64.wrap ((i.1.length : Int) + 1) = (i.1.length : Int) + 1 := wrap_succ (by omega)
    refine awp_skip ?_
    refine awp_seq (awp_block ?_)
    refine awp_regDC tyOk tySz 12 (by kernel_rfl) (by decide) ?_
    refine ul_run 10 (by simp [go_sem, hoc, hm1, hm2, hw1, hgc, hx, hwd, hbb, setC_with, setC_toks] <;> rfl) ?_
    refine ul_callW (by simp [go_sem]) rfl rfl rfl rfl (by simp [go_sem, hoc, hm1, hm2, hw1, hgc, hx, hwd, hbb, setC_with, setC_toks] <;> rfl) call100 (ih x hxm oc i.2 (dp - 1) _ (by exact hgl) (setC_get hoc) hlv (by omega) (by omega) (by omega)) (by simp [go_sem, hoc, hm1, hm2, hw1, hgc, hx, hwd, hbb, setC_with, setC_toks] <;> rfl) (by simp [go_sem, hoc, hm1, hm2, hw1, hgc, hx, hwd, hbb, setC_with, setC_toks]) rfl rfl (cutR_some hlv) ?_
    rintro r σ' ⟨d', lv', rfl, rfl, hsz'⟩
    refine ul_run 1 (by simp [go_sem, hoc, hm1, hm2, hw1, hgc, hx, hwd, hbb, setC_with, setC_toks] <;> rfl) ?_
    refine ul_nil ?_
    refine aL 3 (by simp [go_sem, hoc, hm1, hm2, hw1, hgc, hx, hwd, hbb, setC_with, setC_toks] <;> rfl) ?_
    refine al_nil ?_
    refine aR (by simp [go_sem, hoc, hm1, hm2, hw1, hgc, hx, hwd, hbb, setC_with, setC_toks] <;> rfl) ?_
    exact next_intro ((i.1 ++ [d'], lv')) σ.objs.length (σ.toks.length + 1) 3 (⟨by simp [sizes_append, D.sizes]; omega, by simp; omega⟩) (by simp; omega) ⟨by show ({ setC σ oc _ with toks := _ } : Store) = _; simp [setC, go_sem, List.take_of_length_le], by simp [go_sem, hoc, hm1, hm2, hw1, hgc, hx, hwd, hbb, setC_with, setC_toks, hw, hol], by simp, by simp, by simp [go_sem, hoc, hm1, hm2, hw1, hgc, hx, hwd, hbb, setC_with, setC_toks, hw, hol], fun ob h => setC_mem h _ _ _, by simp [go_sem]⟩
   ·refine awp_exit ?_
    refine then_exit ?_
    refine then_exit ?_
    refine inBlock_hit ?_
    refine awp_seq (aR (by simp [go_sem, hoc, hm1, hm2, hw1, hgc] <;> rfl) ?_)
    refine awp_ret ?_
    refine ends_ret (by simp [go_sem] <;> rfl) (by simp [go_sem]) ?_
    exact ⟨i.1, i.2, by simp [go_sem, enc_mk], by simp [setC, go_sem, List.take_of_length_le], by omega⟩
  ·refine aK 5 37 true ?_
   refine aL 1 (by simp [go_sem, hoc, hm1, hm2, hw1, hgc] <;> rfl) ?_
   refine al_nil ?_
   refine awp_cond (b := false) (by simp [go_sem, hoc, hm1, hm2, hw1, hgc, h0, h1]) (fun h => ?_) (fun h => ?_)
   ·cases h
   refine awp_exit ?_
   refine then_exit ?_
   refine then_exit ?_
   refine inBlock_hit ?_
   refine awp_seq (aR (by simp [go_sem, hoc, hm1, hm2, hw1, hgc] <;> rfl) ?_)
   refine awp_ret ?_
   refine ends_ret (by simp [go_sem] <;> rfl) (by simp [go_sem]) ?_
   exact ⟨i.1, i.2, by simp [go_sem, enc_mk], by simp [setC, go_sem, List.take_of_length_le], by omega⟩
 ·refine aK 2 33 true ?_
  refine aL 2 (by simp [go_sem, hoc, hm1, hm2, hw1, hgc] <;> rfl) ?_
  refine aK 5 37 true ?_
  refine aL 1 (by simp [go_sem, hoc, hm1, hm2, hw1, hgc] <;> rfl) ?_
  refine al_nil ?_
  refine awp_cond (b := false) (by simp [go_sem, hoc, hm1, hm2, hw1, hgc, h0]) (fun h => ?_) (fun h => ?_)
  ·cases h
  refine awp_exit ?_
  refine then_exit ?_
  refine then_exit ?_
  refine inBlock_hit ?_
  refine awp_seq (aR (by simp [go_sem, hoc, hm1, hm2, hw1, hgc] <;> rfl) ?_)
  refine awp_ret ?_
  refine ends_ret (by simp [go_sem] <;> rfl) (by simp [go_sem]) ?_
  exact ⟨i.1, i.2, by simp [go_sem, enc_mk], by simp [setC, go_sem, List.take_of_length_le], by omega⟩

set_option maxHeartbeats 1000000 in
theorem c_Cut (d : D) (σ : Store) (hgl : σ.gl = (GL kr)) : ACalls Tryz.prog 39 [.pv (enc d), .pv (.int .i64 3000), .pv (.int .i64 1005)] σ (fun r σ' => ∃ d' : D, r = .pv (enc d') ∧ σ' = σ ∧ d'.size ≤ 3000) := by
 refine ACalls.less (R := fun r σ' => ∃ d' : D, WVt σ.objs.length σ.toks.length 0 r (.pv (enc d')) ∧ σ'.cut σ.objs.length σ.toks.length = σ ∧ d'.size ≤ 3000) ?_ (fun r σ' ⟨d', h1, h2, h3⟩ => ⟨_, _, _, h1, Nat.le_refl _, Nat.le_refl _, fun ob hob => .inl (by rw [← h2]; exact hob), ⟨d', rfl, h2, h3⟩⟩)
 refine acalls_of tyOk Tryz.func39 rfl (by simp [Tryz.f39]) ?_
 refine awp_seq (aR (by simp [go_sem] <;> rfl) ?_)
 refine awp_seq (awp_region_run (sh := [10]) tyOk (by simp [go_sem] <;> rfl) ?_)
 refine awp_seq (awp_reg ?_)
 refine aL 3 (by simp [go_sem] <;> rfl) ?_
 refine al_callW rfl rfl rfl (by simp [go_sem] <;> rfl) call100 (c_cut d σ.objs.length 3000 1005 _ (by exact hgl) (by simp [go_sem]) (by decide) (by decide) (by decide) (by decide)) (by simp [go_sem] <;> rfl) (by simp [go_sem]) rfl rfl ?_
 rintro r σ' ⟨d', lv', rfl, rfl, hsz'⟩
 refine aL 1 (by simp [go_sem] <;> rfl) ?_
 refine al_nil ?_
 refine awp_ret ?_
 refine ends_ret (by simp [go_sem] <;> rfl) (by simp [go_sem]) ?_
 exact ⟨d', by simp [go_sem], by simp [setC, go_sem], by omega⟩

set_option maxHeartbeats 1000000 in
theorem c_Cut17 (d : D) (σ : Store) (hgl : σ.gl = (GL kr)) : ACalls Tryz.prog 15 [.pv (enc d)] σ (fun r σ' => ∃ d' : D, r = .pv (enc d') ∧ σ' = σ ∧ d'.size ≤ 3000) := by
 refine ACalls.less (R := fun r σ' => ∃ d' : D, WVt σ.objs.length σ.toks.length 0 r (.pv (enc d')) ∧ σ'.cut σ.objs.length σ.toks.length = σ ∧ d'.size ≤ 3000) ?_ (fun r σ' ⟨d', h1, h2, h3⟩ => ⟨_, _, _, h1, Nat.le_refl _, Nat.le_refl _, fun ob hob => .inl (by rw [← h2]; exact hob), ⟨d', rfl, h2, h3⟩⟩)
 refine acalls_of tyOk Tryz.func15 rfl (by simp [Tryz.f15]) ?_
 refine awp_seq (aR (by simp [go_sem] <;> rfl) ?_)
 refine awp_seq (awp_reg ?_)
 refine aL 1 (by simp [go_sem] <;> rfl) ?_
 refine al_callW rfl rfl rfl (by simp [go_sem] <;> rfl) call39 (c_Cut d σ hgl) (by simp [go_sem] <;> rfl) (by simp [go_sem]) rfl rfl ?_
 rintro r σ' ⟨d', rfl, rfl, hsz'⟩
 refine aL 1 (by simp [go_sem] <;> rfl) ?_
 refine al_nil ?_
 refine awp_ret ?_
 refine ends_ret (by simp [go_sem] <;> rfl) (by simp [go_sem]) ?_
 exact ⟨d', by simp [go_sem], by simp [go_sem], hsz'⟩

set_option maxHeartbeats 1000000 in
theorem c_Same (d : D) (hd : d.size ≤ 1000000000) : ∀ e : D, Pur Tryz.prog (GL kr) 17 [.pv (enc d), .pv (enc e)] (.pv (.bool (deq d e))) := by
 induction d using D.ind with
 | _ kind num text kids ih =>
 generalize hD : D.mk kind num text kids = d at *
 have hk : d.kids = kids := by rw [← hD]; rfl
 clear hD
 subst hk
 have hkl := D.kids_length_lt d
 intro e
 refine pur_of fun σ hgl => ?_
 refine acalls_of tyOk Tryz.func17 rfl (by simp [Tryz.f17]) ?_
 refine awp_seq (aR (by simp [go_sem] <;> rfl) ?_)
 refine awp_seq (awp_seq (awp_reg ?_))
 refine aL 6 (by simp [go_sem] <;> rfl) ?_
 refine al_splitT 11 (by first | rfl | (simp [go_sem] <;> rfl)) (fun h0 => ?_) (fun h0 => ?_)
 ·refine aK 5 11 false ?_
  refine aL 2 (by simp [go_sem] <;> rfl) ?_
  refine aK 5 18 false ?_
  refine aL 2 (by simp [go_sem] <;> rfl) ?_
  refine aK 7 25 false ?_
  refine aL 1 (by simp [go_sem] <;> rfl) ?_
  refine al_nil ?_
  refine awp_cond (b := true) (by simp [go_sem, h0]) (fun h => ?_) (fun h => ?_)
  rotate_left
  ·cases h
  refine awp_seq (aR (by simp [go_sem] <;> rfl) ?_)
  refine awp_ret ?_
  refine then_ret ?_
  refine ends_ret (by simp [go_sem] <;> rfl) (by simp [go_sem]) ?_
  have hs : deq d e = false := by
    cases hq : deq d e with
    | false => rfl
    | true => have := deq_of hq; subst this; simp at h0
  exact ⟨by simp [go_sem, hs], by simp [go_sem]⟩
 ·refine aLG 5 11 false (by simp [go_sem] <;> rfl) ?_
  refine aL 2 (by simp [go_sem] <;> rfl) ?_
  refine al_splitT 18 (by first | rfl | (simp [go_sem] <;> rfl)) (fun h1 => ?_) (fun h1 => ?_)
  ·refine aK 5 18 false ?_
   refine aL 2 (by simp [go_sem] <;> rfl) ?_
   refine aK 7 25 false ?_
   refine aL 1 (by simp [go_sem] <;> rfl) ?_
   refine al_nil ?_
   refine awp_cond (b := true) (by simp [go_sem, h0, h1]) (fun h => ?_) (fun h => ?_)
   rotate_left
   ·cases h
   refine awp_seq (aR (by simp [go_sem] <;> rfl) ?_)
   refine awp_ret ?_
   refine then_ret ?_
   refine ends_ret (by simp [go_sem] <;> rfl) (by simp [go_sem]) ?_
   have hs : deq d e = false := by
     cases hq : deq d e with
     | false => rfl
     | true => have := deq_of hq; subst this; simp at h1
   exact ⟨by simp [go_sem, hs], by simp [go_sem]⟩
  ·refine aLG 5 18 false (by simp [go_sem] <;> rfl) ?_
   refine aL 2 (by simp [go_sem] <;> rfl) ?_
   refine al_splitT 25 (by first | rfl | (simp [go_sem] <;> rfl)) (fun h2 => ?_) (fun h2 => ?_)
   ·refine aK 7 25 false ?_
    refine aL 1 (by simp [go_sem] <;> rfl) ?_
    refine al_nil ?_
    refine awp_cond (b := true) (by simp [go_sem, h0, h1, h2]) (fun h => ?_) (fun h => ?_)
    rotate_left
    ·cases h
    refine awp_seq (aR (by simp [go_sem] <;> rfl) ?_)
    refine awp_ret ?_
    refine then_ret ?_
    refine ends_ret (by simp [go_sem] <;> rfl) (by simp [go_sem]) ?_
    have hs : deq d e = false := by
      cases hq : deq d e with
      | false => rfl
      | true => have := deq_of hq; subst this; simp at h2
    exact ⟨by simp [go_sem, hs], by simp [go_sem]⟩
   ·refine aLG 7 25 false (by simp [go_sem] <;> rfl) ?_
    refine aL 1 (by simp [go_sem] <;> rfl) ?_
    refine al_nil ?_
    refine awp_cond (by first | rfl | (simp [go_sem] <;> rfl)) (fun h3 => ?_) (fun h3 => ?_)
    ·refine awp_seq ?_
     refine aR (by simp [go_sem] <;> rfl) ?_
     refine awp_ret ?_
     refine then_ret ?_
     refine ends_ret (by simp [go_sem] <;> rfl) (by simp [go_sem]) ?_
     have hs : deq d e = false := by
       cases hq : deq d e with
       | false => rfl
       | true => have := deq_of hq; subst this; simp at h3
     exact ⟨by simp [go_sem, hs], by simp [go_sem]⟩
    ·have hlen : d.kids.length = e.kids.length := by have := h3; simp only [bne_eq_false_iff_eq] at this; omega
     have hzl : (d.kids.zip e.kids).length = d.kids.length := by simp; omega
     refine awp_skip ?_
     refine awp_seq (awp_seq (aR (by simp [go_sem] <;> rfl) ?_))
     refine awp_block ?_
     refine awp_loop_headK σ.objs.length σ.toks.length 2 [2, 3, 4] (fun k : Nat => [(5, .pv (.int .i64 ↑k))]) (fun k => σ) (fun k => k ≤ d.kids.length ∧ NotYet (fun x => !deq x.1 x.2) (d.kids.zip e.kids) k) (fun k => d.kids.length - k) 0 (⟨Nat.zero_le _, .zero⟩) ⟨by simp [go_sem], rfl, by simp, by simp, by simp [go_sem], fun ob h => .inl (by simpa [go_sem] using h), by simp [go_sem]⟩ ?_
     rintro k ⟨hk, hn⟩
     refine awp_seq (awp_seq (aR (by simp [go_sem] <;> rfl) ?_))
     refine awp_cond (by first | rfl | (simp [go_sem] <;> rfl)) (fun h4 => ?_) (fun h4 => ?_)
     ·have hlt : k < d.kids.length := by simp at h4; omega
      have hw : IntKind.i64.wrap (↑k + 1) = (k : Int) + 1 := wrap_succ (by omega)
      obtain ⟨x, hx, hxm⟩ := get_lt hlt
      obtain ⟨y, hy, hym⟩ := get_lt (l := e.kids) (k := k) (by omega)
      refine awp_skip ?_
      refine awp_seq (awp_block ?_)
      refine awp_seq (awp_regDP tyOk tySz 10 (by kernel_rfl) (by decide) ?_)
      refine ul_run 10 (by simp [go_sem, hx, hy] <;> rfl) ?_
      refine ul_nil ?_
      refine aF call17 ((ih x hxm (by have := D.size_kid_lt hxm; omega) y) _ (by exact hgl)) (by simp [go_sem, hx, hy] <;> rfl) (by simp [go_sem, hx, hy]) ?_
      refine aL 1 (by simp [go_sem, hx, hy] <;> rfl) ?_
      refine al_nil ?_
      refine awp_cond (by first | rfl | (simp [go_sem, hx, hy] <;> rfl)) (fun h5 => ?_) (fun h5 => ?_)
      ·refine awp_seq ?_
       refine aR (by simp [go_sem, hx, hy] <;> rfl) ?_
       refine awp_ret ?_
       refine inBlock_ret ?_
       refine then_ret ?_
       refine then_ret ?_
       refine inBlock_ret ?_
       refine then_ret ?_
       refine ends_ret (by simp [go_sem] <;> rfl) (by simp [go_sem]) ?_
       have hall : (d.kids.zip e.kids).all (fun x => deq x.1 x.2) = false := by rw [List.all_eq_false]; exact ⟨(x, y), List.mem_of_getElem? (zip_get hx hy), by simpa using h5⟩
       have hs : deq d e = false := by rw [deq_eq]; unfold eqf; rw [hall]; simp
       exact ⟨by simp [go_sem, hs], by simp [go_sem]⟩
      ·refine awp_skip ?_
       refine aR (by simp [go_sem, hx, hy] <;> rfl) ?_
       exact next_intro (k + 1) σ.objs.length σ.toks.length 2 (⟨hlt, hn.succ (zip_get hx hy) (by simpa using h5)⟩) (by omega) ⟨by simp [go_sem, hx, hy, hw], rfl, by simp, by simp, by simp [go_sem, hx, hy, hw], fun ob h => .inl (by simpa [go_sem, hx, hy, hw] using h), by simp [go_sem]⟩
     ·have hke : k = d.kids.length := by simp at h4; omega
      subst hke
      have hall : (d.kids.zip e.kids).all (fun x => deq x.1 x.2) = true := by have := (hzl ▸ hn : NotYet _ (d.kids.zip e.kids) (d.kids.zip e.kids).length).all; rw [List.all_eq_true]; intro z hz; simpa using this z hz
      refine awp_exit ?_
      refine then_exit ?_
      refine then_exit ?_
      refine inBlock_hit ?_
      refine awp_seq (aR (by simp [go_sem] <;> rfl) ?_)
      refine awp_ret ?_
      refine ends_ret (by simp [go_sem] <;> rfl) (by simp [go_sem]) ?_
      have hs : deq d e = true := by
        have e0 : d.kind = e.kind := by simpa using h0
        have e1 : d.num = e.num := by simpa using h1
        have e2 : d.text = e.text := by simpa using h2
        rw [deq_eq]; unfold eqf; rw [hall]; simp [e0, e1, e2, hlen]
      exact ⟨by simp [go_sem, hs], by simp [go_sem]⟩

end Go.Proofs.YtnibcmaaehkhlaaGreatDoor

namespace Go.Proofs.YtnibcmaaehkhlaaGreatDoor
open Go Go.Aw
variable {kr : KR}
def ren171 : Go.Shelf.Ren := ⟨fun x => match x with | 129 => 258 | 171 => 58 | 243 => 125 | 246 => 201 | 283 => 240 | 284 => 241 | 285 => 242 | 286 => 243 | 317 => 257 | 318 => 259 | 319 => 260 | 320 => 261 | 337 => 279 | 338 => 280 | n => n, fun x => match x with | 0 => 0 | 2 => 2 | 3 => 3 | 4 => 4 | 5 => 5 | 9 => 9 | 20 => 20 | 37 => 240 | 46 => 263 | 51 => 271 | 53 => 175 | 171 => 250 | 173 => 253 | 212 => 270 | 213 => 272 | 232 => 304 | 233 => 305 | n => n, fun x => match x with | 17 => 4 | 18 => 8 | 19 => 9 | n => n⟩
theorem lays171 : Go.Proofs.LaysM.n171 Tryz.prog ren171 :=
  {
    mixed := by kernel_rfl,
    f129 := Eq.trans Tryz.func258 (congrArg some (by kernel_rfl)),
    f171 := Eq.trans Tryz.func58 (congrArg some (by kernel_rfl)),
    f243 := Eq.trans Tryz.func125 (congrArg some (by kernel_rfl)),
    f246 := Eq.trans Tryz.func201 (congrArg some (by kernel_rfl)),
    f283 := Eq.trans Tryz.func240 (congrArg some (by kernel_rfl)),
    f284 := Eq.trans Tryz.func241 (congrArg some (by kernel_rfl)),
    f285 := Eq.trans Tryz.func242 (congrArg some (by kernel_rfl)),
    f286 := Eq.trans Tryz.func243 (congrArg some (by kernel_rfl)),
    f317 := Eq.trans Tryz.func257 (congrArg some (by kernel_rfl)),
    f318 := Eq.trans Tryz.func259 (congrArg some (by kernel_rfl)),
    f319 := Eq.trans Tryz.func260 (congrArg some (by kernel_rfl)),
    f320 := Eq.trans Tryz.func261 (congrArg some (by kernel_rfl)),
    f337 := Eq.trans Tryz.func279 (congrArg some (by kernel_rfl)),
    f338 := Eq.trans Tryz.func280 (congrArg some (by kernel_rfl)),
    t0 := Tryz.underlying0,
    a0 := Tryz.isAgg0,
    z0 := Tryz.sizeOf0,
    v0 := Tryz.zeroValue0,
    t2 := Tryz.underlying2,
    a2 := Tryz.isAgg2,
    z2 := Tryz.sizeOf2,
    v2 := Tryz.zeroValue2,
    t3 := Tryz.underlying3,
    a3 := Tryz.isAgg3,
    z3 := Tryz.sizeOf3,
    v3 := Tryz.zeroValue3,
    t4 := Tryz.underlying4,
    a4 := Tryz.isAgg4,
    z4 := Tryz.sizeOf4,
    v4 := Tryz.zeroValue4,
    t5 := Tryz.underlying5,
    a5 := Tryz.isAgg5,
    z5 := Tryz.sizeOf5,
    v5 := Tryz.zeroValue5,
    t9 := Tryz.underlying9,
    a9 := Tryz.isAgg9,
    z9 := Tryz.sizeOf9,
    v9 := Tryz.zeroValue9,
    t20 := Tryz.underlying20,
    a20 := Tryz.isAgg20,
    z20 := Tryz.sizeOf20,
    v20 := Tryz.zeroValue20,
    t37 := Tryz.underlying240,
    a37 := Tryz.isAgg240,
    z37 := Tryz.sizeOf240,
    v37 := Tryz.zeroValue240,
    t46 := Tryz.underlying263,
    a46 := Tryz.isAgg263,
    z46 := Tryz.sizeOf263,
    v46 := Tryz.zeroValue263,
    t51 := Tryz.underlying271,
    a51 := Tryz.isAgg271,
    z51 := Tryz.sizeOf271,
    v51 := Tryz.zeroValue271,
    t53 := Tryz.underlying175,
    a53 := Tryz.isAgg175,
    z53 := Tryz.sizeOf175,
    v53 := Tryz.zeroValue175,
    t171 := Tryz.underlying250,
    a171 := Tryz.isAgg250,
    z171 := Tryz.sizeOf250,
    v171 := Tryz.zeroValue250,
    t173 := Tryz.underlying253,
    a173 := Tryz.isAgg253,
    z173 := Tryz.sizeOf253,
    v173 := Tryz.zeroValue253,
    t212 := Tryz.underlying270,
    a212 := Tryz.isAgg270,
    z212 := Tryz.sizeOf270,
    v212 := Tryz.zeroValue270,
    t213 := Tryz.underlying272,
    a213 := Tryz.isAgg272,
    z213 := Tryz.sizeOf272,
    t232 := Tryz.underlying304,
    a232 := Tryz.isAgg304,
    z232 := Tryz.sizeOf304,
    v232 := Tryz.zeroValue304,
    t233 := Tryz.underlying305,
    a233 := Tryz.isAgg305,
    z233 := Tryz.sizeOf305,
    v233 := Tryz.zeroValue305,
    g17 := by kernel_rfl,
    g18 := by kernel_rfl,
    g19 := by kernel_rfl,
    i0 := by kernel_rfl,
    i2 := by kernel_rfl,
    i3 := by kernel_rfl,
    i4 := by kernel_rfl,
    i5 := by kernel_rfl,
    i9 := by kernel_rfl,
    i20 := by kernel_rfl,
    i37 := by kernel_rfl,
    i46 := by kernel_rfl,
    i51 := by kernel_rfl,
    i53 := by kernel_rfl,
    i171 := by kernel_rfl,
    i173 := by kernel_rfl,
    i212 := by kernel_rfl,
    i232 := by kernel_rfl,
    i233 := by kernel_rfl,
    m17 := by kernel_rfl,
    m18 := by kernel_rfl,
    m19 := by kernel_rfl }
theorem gPow : Tryz.prog.globalNamed "internal/strconv.uint64pow10" = some 4 := by kernel_rfl
theorem c_Itoa (n : Int) (h0 : -9223372036854775808 ≤ n) (h1 : n ≤ 9223372036854775807) : Pur Tryz.prog (GL kr) 58 [.pv (.int .i64 n)] (.pv (.str (itoaB n))) :=
  pur_of_callsT (ps := [.int .i64 n]) [.int .i64] rfl .str rfl gPow (by simp [GL]) fun w ht => Go.Proofs.Any.strconv_Itoa lays171 n h0 h1 w ht

set_option maxHeartbeats 1000000 in
theorem c_Arity07 (s : ByteArray) : Pur Tryz.prog (GL kr) 21 [.pv (.str s)] (.tuple [.pv (.int .i64 (arity s).1), .pv (.bool (arity s).2)]) := by
 rw [← arityR_eq]
 refine pur_of fun σ hgl => ?_
 refine acalls_of tyOk Tryz.func21 rfl (by simp [Tryz.f21]) ?_
 refine awp_seq (aR (by simp [go_sem] <;> rfl) ?_)
 refine awp_seq (awp_seq (aR (by simp [go_sem] <;> rfl) ?_))
 refine awp_block ?_
 refine awp_seq (awp_seq (aR (by simp [go_sem] <;> rfl) ?_))
 refine awp_cond (by first | rfl | (simp [go_sem] <;> rfl)) (fun h0 => ?_) (fun h0 => ?_)
 ·refine awp_skip ?_
  refine awp_cond (b := true) (by simp [go_sem, h0]) (fun h => ?_) (fun h => ?_)
  rotate_left
  ·cases h
  refine awp_seq (aR (by simp [go_sem] <;> rfl) ?_)
  refine awp_ret ?_
  refine inBlock_ret ?_
  refine then_ret ?_
  refine ends_ret (by simp [go_sem] <;> rfl) (by simp [go_sem]) ?_
  exact ⟨by simp only [arityR, ar2, ar1, List.any_cons, List.any_nil, h0, bA, bB, bC, bD, bE, bF, bG, bH, bI, bJ, Bool.false_eq_true, if_true, if_false]; simp [go_sem], by simp [go_sem]⟩
 ·refine awp_seq ?_
  refine aR (by simp [go_sem] <;> rfl) ?_
  refine awp_cond (by first | rfl | (simp [go_sem] <;> rfl)) (fun h1 => ?_) (fun h1 => ?_)
  ·refine awp_skip ?_
   refine awp_cond (b := true) (by simp [go_sem, h0, h1]) (fun h => ?_) (fun h => ?_)
   rotate_left
   ·cases h
   refine awp_seq (aR (by simp [go_sem] <;> rfl) ?_)
   refine awp_ret ?_
   refine inBlock_ret ?_
   refine then_ret ?_
   refine ends_ret (by simp [go_sem] <;> rfl) (by simp [go_sem]) ?_
   exact ⟨by simp only [arityR, ar2, ar1, List.any_cons, List.any_nil, h0, h1, bA, bB, bC, bD, bE, bF, bG, bH, bI, bJ, Bool.false_eq_true, if_true, if_false]; simp [go_sem], by simp [go_sem]⟩
  ·refine awp_seq ?_
   refine aR (by simp [go_sem] <;> rfl) ?_
   refine awp_cond (by first | rfl | (simp [go_sem] <;> rfl)) (fun h2 => ?_) (fun h2 => ?_)
   ·refine awp_skip ?_
    refine awp_cond (b := true) (by simp [go_sem, h0, h1, h2]) (fun h => ?_) (fun h => ?_)
    rotate_left
    ·cases h
    refine awp_seq (aR (by simp [go_sem] <;> rfl) ?_)
    refine awp_ret ?_
    refine inBlock_ret ?_
    refine then_ret ?_
    refine ends_ret (by simp [go_sem] <;> rfl) (by simp [go_sem]) ?_
    exact ⟨by simp only [arityR, ar2, ar1, List.any_cons, List.any_nil, h0, h1, h2, bA, bB, bC, bD, bE, bF, bG, bH, bI, bJ, Bool.false_eq_true, if_true, if_false]; simp [go_sem], by simp [go_sem]⟩
   ·refine awp_seq ?_
    refine aR (by simp [go_sem] <;> rfl) ?_
    refine awp_cond (by first | rfl | (simp [go_sem] <;> rfl)) (fun h3 => ?_) (fun h3 => ?_)
    ·refine awp_skip ?_
     refine awp_cond (b := true) (by simp [go_sem, h0, h1, h2, h3]) (fun h => ?_) (fun h => ?_)
     rotate_left
     ·cases h
     refine awp_seq (aR (by simp [go_sem] <;> rfl) ?_)
     refine awp_ret ?_
     refine inBlock_ret ?_
     refine then_ret ?_
     refine ends_ret (by simp [go_sem] <;> rfl) (by simp [go_sem]) ?_
     exact ⟨by simp only [arityR, ar2, ar1, List.any_cons, List.any_nil, h0, h1, h2, h3, bA, bB, bC, bD, bE, bF, bG, bH, bI, bJ, Bool.false_eq_true, if_true, if_false]; simp [go_sem], by simp [go_sem]⟩
    ·refine awp_seq ?_
     refine aR (by simp [go_sem] <;> rfl) ?_
     refine awp_cond (by first | rfl | (simp [go_sem] <;> rfl)) (fun h4 => ?_) (fun h4 => ?_)
     ·refine awp_skip ?_
      refine awp_cond (b := true) (by simp [go_sem, h0, h1, h2, h3, h4]) (fun h => ?_) (fun h => ?_)
      rotate_left
      ·cases h
      refine awp_seq (aR (by simp [go_sem] <;> rfl) ?_)
      refine awp_ret ?_
      refine inBlock_ret ?_
      refine then_ret ?_
      refine ends_ret (by simp [go_sem] <;> rfl) (by simp [go_sem]) ?_
      exact ⟨by simp only [arityR, ar2, ar1, List.any_cons, List.any_nil, h0, h1, h2, h3, h4, bA, bB, bC, bD, bE, bF, bG, bH, bI, bJ, Bool.false_eq_true, if_true, if_false]; simp [go_sem], by simp [go_sem]⟩
     ·refine awp_seq ?_
      refine aR (by simp [go_sem] <;> rfl) ?_
      refine awp_cond (by first | rfl | (simp [go_sem] <;> rfl)) (fun h5 => ?_) (fun h5 => ?_)
      ·refine awp_skip ?_
       refine awp_cond (b := true) (by simp [go_sem, h0, h1, h2, h3, h4, h5]) (fun h => ?_) (fun h => ?_)
       rotate_left
       ·cases h
       refine awp_seq (aR (by simp [go_sem] <;> rfl) ?_)
       refine awp_ret ?_
       refine inBlock_ret ?_
       refine then_ret ?_
       refine ends_ret (by simp [go_sem] <;> rfl) (by simp [go_sem]) ?_
       exact ⟨by simp only [arityR, ar2, ar1, List.any_cons, List.any_nil, h0, h1, h2, h3, h4, h5, bA, bB, bC, bD, bE, bF, bG, bH, bI, bJ, Bool.false_eq_true, if_true, if_false]; simp [go_sem], by simp [go_sem]⟩
      ·refine awp_seq ?_
       refine aR (by simp [go_sem] <;> rfl) ?_
       refine awp_cond (by first | rfl | (simp [go_sem] <;> rfl)) (fun h6 => ?_) (fun h6 => ?_)
       ·refine awp_skip ?_
        refine awp_cond (b := true) (by simp [go_sem, h0, h1, h2, h3, h4, h5, h6]) (fun h => ?_) (fun h => ?_)
        rotate_left
        ·cases h
        refine awp_seq (aR (by simp [go_sem] <;> rfl) ?_)
        refine awp_ret ?_
        refine inBlock_ret ?_
        refine then_ret ?_
        refine ends_ret (by simp [go_sem] <;> rfl) (by simp [go_sem]) ?_
        exact ⟨by simp only [arityR, ar2, ar1, List.any_cons, List.any_nil, h0, h1, h2, h3, h4, h5, h6, bA, bB, bC, bD, bE, bF, bG, bH, bI, bJ, Bool.false_eq_true, if_true, if_false]; simp [go_sem], by simp [go_sem]⟩
       ·refine awp_seq ?_
        refine aR (by simp [go_sem] <;> rfl) ?_
        refine awp_cond (by first | rfl | (simp [go_sem] <;> rfl)) (fun h7 => ?_) (fun h7 => ?_)
        ·refine awp_skip ?_
         refine awp_cond (b := true) (by simp [go_sem, h0, h1, h2, h3, h4, h5, h6, h7]) (fun h => ?_) (fun h => ?_)
         rotate_left
         ·cases h
         refine awp_seq (aR (by simp [go_sem] <;> rfl) ?_)
         refine awp_ret ?_
         refine inBlock_ret ?_
         refine then_ret ?_
         refine ends_ret (by simp [go_sem] <;> rfl) (by simp [go_sem]) ?_
         exact ⟨by simp only [arityR, ar2, ar1, List.any_cons, List.any_nil, h0, h1, h2, h3, h4, h5, h6, h7, bA, bB, bC, bD, bE, bF, bG, bH, bI, bJ, Bool.false_eq_true, if_true, if_false]; simp [go_sem], by simp [go_sem]⟩
        ·refine aR (by simp [go_sem] <;> rfl) ?_
         refine awp_cond (by first | rfl | (simp [go_sem] <;> rfl)) (fun h8 => ?_) (fun h8 => ?_)
         ·refine awp_seq ?_
          refine aR (by simp [go_sem] <;> rfl) ?_
          refine awp_ret ?_
          refine inBlock_ret ?_
          refine then_ret ?_
          refine ends_ret (by simp [go_sem] <;> rfl) (by simp [go_sem]) ?_
          exact ⟨by simp only [arityR, ar2, ar1, List.any_cons, List.any_nil, h0, h1, h2, h3, h4, h5, h6, h7, h8, bA, bB, bC, bD, bE, bF, bG, bH, bI, bJ, Bool.false_eq_true, if_true, if_false]; simp [go_sem], by simp [go_sem]⟩
         ·refine awp_seq ?_
          refine awp_seq (aR (by simp [go_sem] <;> rfl) ?_)
          refine awp_cond (by first | rfl | (simp [go_sem] <;> rfl)) (fun h9 => ?_) (fun h9 => ?_)
          ·refine awp_skip ?_
           refine awp_cond (b := true) (by simp [go_sem, h0, h1, h2, h3, h4, h5, h6, h7, h8, h9]) (fun h => ?_) (fun h => ?_)
           rotate_left
           ·cases h
           refine awp_seq (aR (by simp [go_sem] <;> rfl) ?_)
           refine awp_ret ?_
           refine inBlock_ret ?_
           refine then_ret ?_
           refine ends_ret (by simp [go_sem] <;> rfl) (by simp [go_sem]) ?_
           exact ⟨by simp only [arityR, ar2, ar1, List.any_cons, List.any_nil, h0, h1, h2, h3, h4, h5, h6, h7, h8, h9, bA, bB, bC, bD, bE, bF, bG, bH, bI, bJ, Bool.false_eq_true, if_true, if_false]; simp [go_sem], by simp [go_sem]⟩
          ·refine awp_seq ?_
           refine aR (by simp [go_sem] <;> rfl) ?_
           refine awp_cond (by first | rfl | (simp [go_sem] <;> rfl)) (fun h10 => ?_) (fun h10 => ?_)
           ·refine awp_skip ?_
            refine awp_cond (b := true) (by simp [go_sem, h0, h1, h2, h3, h4, h5, h6, h7, h8, h9, h10]) (fun h => ?_) (fun h => ?_)
            rotate_left
            ·cases h
            refine awp_seq (aR (by simp [go_sem] <;> rfl) ?_)
            refine awp_ret ?_
            refine inBlock_ret ?_
            refine then_ret ?_
            refine ends_ret (by simp [go_sem] <;> rfl) (by simp [go_sem]) ?_
            exact ⟨by simp only [arityR, ar2, ar1, List.any_cons, List.any_nil, h0, h1, h2, h3, h4, h5, h6, h7, h8, h9, h10, bA, bB, bC, bD, bE, bF, bG, bH, bI, bJ, Bool.false_eq_true, if_true, if_false]; simp [go_sem], by simp [go_sem]⟩
           ·refine awp_seq ?_
            refine aR (by simp [go_sem] <;> rfl) ?_
            refine awp_cond (by first | rfl | (simp [go_sem] <;> rfl)) (fun h11 => ?_) (fun h11 => ?_)
            ·refine awp_skip ?_
             refine awp_cond (b := true) (by simp [go_sem, h0, h1, h2, h3, h4, h5, h6, h7, h8, h9, h10, h11]) (fun h => ?_) (fun h => ?_)
             rotate_left
             ·cases h
             refine awp_seq (aR (by simp [go_sem] <;> rfl) ?_)
             refine awp_ret ?_
             refine inBlock_ret ?_
             refine then_ret ?_
             refine ends_ret (by simp [go_sem] <;> rfl) (by simp [go_sem]) ?_
             exact ⟨by simp only [arityR, ar2, ar1, List.any_cons, List.any_nil, h0, h1, h2, h3, h4, h5, h6, h7, h8, h9, h10, h11, bA, bB, bC, bD, bE, bF, bG, bH, bI, bJ, Bool.false_eq_true, if_true, if_false]; simp [go_sem], by simp [go_sem]⟩
            ·refine awp_seq ?_
             refine aR (by simp [go_sem] <;> rfl) ?_
             refine awp_cond (by first | rfl | (simp [go_sem] <;> rfl)) (fun h12 => ?_) (fun h12 => ?_)
             ·refine awp_skip ?_
              refine awp_cond (b := true) (by simp [go_sem, h0, h1, h2, h3, h4, h5, h6, h7, h8, h9, h10, h11, h12]) (fun h => ?_) (fun h => ?_)
              rotate_left
              ·cases h
              refine awp_seq (aR (by simp [go_sem] <;> rfl) ?_)
              refine awp_ret ?_
              refine inBlock_ret ?_
              refine then_ret ?_
              refine ends_ret (by simp [go_sem] <;> rfl) (by simp [go_sem]) ?_
              exact ⟨by simp only [arityR, ar2, ar1, List.any_cons, List.any_nil, h0, h1, h2, h3, h4, h5, h6, h7, h8, h9, h10, h11, h12, bA, bB, bC, bD, bE, bF, bG, bH, bI, bJ, Bool.false_eq_true, if_true, if_false]; simp [go_sem], by simp [go_sem]⟩
             ·refine awp_seq ?_
              refine aR (by simp [go_sem] <;> rfl) ?_
              refine awp_cond (by first | rfl | (simp [go_sem] <;> rfl)) (fun h13 => ?_) (fun h13 => ?_)
              ·refine awp_skip ?_
               refine awp_cond (b := true) (by simp [go_sem, h0, h1, h2, h3, h4, h5, h6, h7, h8, h9, h10, h11, h12, h13]) (fun h => ?_) (fun h => ?_)
               rotate_left
               ·cases h
               refine awp_seq (aR (by simp [go_sem] <;> rfl) ?_)
               refine awp_ret ?_
               refine inBlock_ret ?_
               refine then_ret ?_
               refine ends_ret (by simp [go_sem] <;> rfl) (by simp [go_sem]) ?_
               exact ⟨by simp only [arityR, ar2, ar1, List.any_cons, List.any_nil, h0, h1, h2, h3, h4, h5, h6, h7, h8, h9, h10, h11, h12, h13, bA, bB, bC, bD, bE, bF, bG, bH, bI, bJ, Bool.false_eq_true, if_true, if_false]; simp [go_sem], by simp [go_sem]⟩
              ·refine awp_seq ?_
               refine aR (by simp [go_sem] <;> rfl) ?_
               refine awp_cond (by first | rfl | (simp [go_sem] <;> rfl)) (fun h14 => ?_) (fun h14 => ?_)
               ·refine awp_skip ?_
                refine awp_cond (b := true) (by simp [go_sem, h0, h1, h2, h3, h4, h5, h6, h7, h8, h9, h10, h11, h12, h13, h14]) (fun h => ?_) (fun h => ?_)
                rotate_left
                ·cases h
                refine awp_seq (aR (by simp [go_sem] <;> rfl) ?_)
                refine awp_ret ?_
                refine inBlock_ret ?_
                refine then_ret ?_
                refine ends_ret (by simp [go_sem] <;> rfl) (by simp [go_sem]) ?_
                exact ⟨by simp only [arityR, ar2, ar1, List.any_cons, List.any_nil, h0, h1, h2, h3, h4, h5, h6, h7, h8, h9, h10, h11, h12, h13, h14, bA, bB, bC, bD, bE, bF, bG, bH, bI, bJ, Bool.false_eq_true, if_true, if_false]; simp [go_sem], by simp [go_sem]⟩
               ·refine aR (by simp [go_sem] <;> rfl) ?_
                refine awp_cond (by first | rfl | (simp [go_sem] <;> rfl)) (fun h15 => ?_) (fun h15 => ?_)
                ·refine awp_seq ?_
                 refine aR (by simp [go_sem] <;> rfl) ?_
                 refine awp_ret ?_
                 refine inBlock_ret ?_
                 refine then_ret ?_
                 refine ends_ret (by simp [go_sem] <;> rfl) (by simp [go_sem]) ?_
                 exact ⟨by simp only [arityR, ar2, ar1, List.any_cons, List.any_nil, h0, h1, h2, h3, h4, h5, h6, h7, h8, h9, h10, h11, h12, h13, h14, h15, bA, bB, bC, bD, bE, bF, bG, bH, bI, bJ, Bool.false_eq_true, if_true, if_false]; simp [go_sem], by simp [go_sem]⟩
                ·refine awp_skip ?_
                 refine awp_seq (aR (by simp [go_sem] <;> rfl) ?_)
                 refine awp_ret ?_
                 refine ends_ret (by simp [go_sem] <;> rfl) (by simp [go_sem]) ?_
                 exact ⟨by simp only [arityR, ar2, ar1, List.any_cons, List.any_nil, h0, h1, h2, h3, h4, h5, h6, h7, h8, h9, h10, h11, h12, h13, h14, h15, bA, bB, bC, bD, bE, bF, bG, bH, bI, bJ, Bool.false_eq_true, if_true, if_false]; simp [go_sem], by simp [go_sem]⟩

set_option maxHeartbeats 1000000 in
theorem c_flat_Sym (s : ByteArray) : Pur Tryz.prog (GL kr) 57 [.pv (.str s)] (.pv (enc (dsym s))) := by
 refine pur_of fun σ hgl => ?_
 refine acalls_of tyOk Tryz.func57 rfl (by simp [Tryz.f57]) ?_
 refine awp_seq (aR (by simp [go_sem] <;> rfl) ?_)
 refine awp_seq (aR (by simp [go_sem] <;> rfl) ?_)
 refine awp_ret ?_
 refine ends_ret (by simp [go_sem] <;> rfl) (by simp [go_sem]) ?_
 exact ⟨by simp [go_sem, enc_sym], by simp [go_sem]⟩

set_option maxHeartbeats 1000000 in
theorem c_Expr_1 (n : Int) (h0 : 0 ≤ n) (h1 : n ≤ 1000000000) : Pur Tryz.prog (GL kr) 56 [.pv (.int .i64 n)] (.pv (enc (labX n))) := by
 have hcat : 2 + (itoaB n).size ≤ 9223372036854775807 := by have := itoaB_size (n := n) (by omega) (by omega); omega
 refine pur_of fun σ hgl => ?_
 refine acalls_of tyOk Tryz.func56 rfl (by simp [Tryz.f56]) ?_
 refine awp_seq (aR (by simp [go_sem, hcat] <;> rfl) ?_)
 refine awp_seq (awp_reg ?_)
 refine aL 1 (by simp [go_sem, hcat] <;> rfl) ?_
 refine aF call58 ((c_Itoa n (by omega) (by omega)) _ (by exact hgl)) (by simp [go_sem, hcat] <;> rfl) (by simp [go_sem, hcat]) ?_
 refine aL 1 (by simp [go_sem, hcat] <;> rfl) ?_
 refine aF call57 ((c_flat_Sym (fS n)) _ (by exact hgl)) (by simp [go_sem, hcat] <;> rfl) (by simp [go_sem, hcat, fS]) ?_
 refine aL 1 (by simp [go_sem, hcat] <;> rfl) ?_
 refine al_nil ?_
 refine awp_ret ?_
 refine ends_ret (by simp [go_sem, hcat] <;> rfl) (by simp [go_sem]) ?_
 exact ⟨by simp [go_sem, hcat, labX], by simp [go_sem]⟩

set_option maxHeartbeats 1000000 in
theorem c_Expr_2 (x : D) (hx : x.text.size ≤ 40) : Pur Tryz.prog (GL kr) 60 [.pv (enc x)] (.pv (enc (nmX x))) := by
 have hcat : 2 + (x.text).size ≤ 9223372036854775807 := by have := hx; omega
 refine pur_of fun σ hgl => ?_
 refine acalls_of tyOk Tryz.func60 rfl (by simp [Tryz.f60]) ?_
 refine awp_seq (aR (by simp [go_sem, hcat] <;> rfl) ?_)
 refine awp_seq (awp_reg ?_)
 refine aL 3 (by simp [go_sem, hcat] <;> rfl) ?_
 refine aF call57 ((c_flat_Sym (xS x.text)) _ (by exact hgl)) (by simp [go_sem, hcat] <;> rfl) (by simp [go_sem, hcat, xS]) ?_
 refine aL 1 (by simp [go_sem, hcat] <;> rfl) ?_
 refine al_nil ?_
 refine awp_ret ?_
 refine ends_ret (by simp [go_sem, hcat] <;> rfl) (by simp [go_sem]) ?_
 exact ⟨by simp [go_sem, hcat, nmX, namX], by simp [go_sem]⟩

set_option maxHeartbeats 1000000 in
theorem c_AllRight_1 (d : D) (hd : d.size ≤ 1000000000) : Pur Tryz.prog (GL kr) 200 [.pv (enc d)] (.pv (.bool (dcheck d != 0))) := by
 refine pur_of fun σ hgl => ?_
 refine acalls_of tyOk Tryz.func200 rfl (by simp [Tryz.f200]) ?_
 refine awp_seq (aR (by simp [go_sem] <;> rfl) ?_)
 refine awp_seq (awp_reg ?_)
 refine aL 1 (by simp [go_sem] <;> rfl) ?_
 refine aF call63 ((c_datum_Check d hd) _ (by exact hgl)) (by simp [go_sem] <;> rfl) (by simp [go_sem]) ?_
 refine aL 2 (by simp [go_sem] <;> rfl) ?_
 refine al_nil ?_
 refine awp_ret ?_
 refine ends_ret (by simp [go_sem] <;> rfl) (by simp [go_sem]) ?_
 exact ⟨by simp [go_sem], by simp [go_sem]⟩

set_option maxHeartbeats 1000000 in
theorem c_AllRight (a : List D) (hal : a.length ≤ 1000000) (has : ∀ x, x ∈ a → x.size ≤ 1000) : Pur Tryz.prog (GL kr) 124 [.pv (.slice (a.map enc))] (.pv (.bool (allRight a))) := by
 refine pur_of fun σ hgl => ?_
 refine acalls_of tyOk Tryz.func124 rfl (by simp [Tryz.f124]) ?_
 refine awp_seq (aR (by simp [go_sem] <;> rfl) ?_)
 refine awp_seq (awp_reg ?_)
 refine aL 1 (by simp [go_sem] <;> rfl) ?_
 refine aF call199 (c_ContainsFunc a (by omega) σ hgl 200 call200 [] rfl (fun x => dcheck x != 0) (fun x hx => c_AllRight_1 x (by have := has x hx; omega) σ hgl)) (by simp [go_sem] <;> rfl) (by simp [go_sem]) ?_
 refine aL 2 (by simp [go_sem] <;> rfl) ?_
 refine al_nil ?_
 refine awp_ret ?_
 refine ends_ret (by simp [go_sem] <;> rfl) (by simp [go_sem]) ?_
 exact ⟨by simp [go_sem, allRight], by simp [go_sem]⟩

set_option maxHeartbeats 1000000 in
theorem c_flat_Right (p : D) (R : Right p) (a : List D) (hal : a.length ≤ 1000000) (has : ∀ x, x ∈ a → x.size ≤ 1000) : Pur Tryz.prog (GL kr) 55 [.pv (enc p), .pv (.slice (a.map enc))] (.pv (.bool (fright p a))) := by
 obtain ⟨p0, pr, hpk⟩ := kids_cons R.ne
 have hp0 : p.kids[0]? = some p0 := by rw [hpk]; rfl
 have hph := head_cons hpk
 have hp0m : p0 ∈ p.kids := List.mem_of_getElem? hp0
 obtain ⟨x0, x1, x2, ns, hkk, hns, htd, hxh, _⟩ := R.df hp0m
 have hx1 : p0.kids[1]? = some x1 := by rw [hkk]; rfl
 have hd1 : d1 p.head.kids = x1 := by rw [hph, hkk]; rfl
 refine pur_of fun σ hgl => ?_
 refine acalls_of tyOk Tryz.func55 rfl (by simp [Tryz.f55]) ?_
 refine awp_seq (aR (by simp [go_sem, hp0, hx1] <;> rfl) ?_)
 refine awp_seq (awp_reg ?_)
 refine aL 13 (by simp [go_sem, hp0, hx1] <;> rfl) ?_
 refine al_splitT 17 (by first | rfl | (simp [go_sem, hp0, hx1] <;> rfl)) (fun h0 => ?_) (fun h0 => ?_)
 ·refine aLG 1 17 true (by simp [go_sem, hp0, hx1] <;> rfl) ?_
  refine al_fnG 17 true true (by simp [go_sem]) rfl (by simp [go_sem]) rfl rfl (by simp [go_sem, hp0, hx1] <;> rfl) call124 ((c_AllRight a hal has) _ (by exact hgl)) (by simp [go_sem, hp0, hx1] <;> rfl) (by simp [go_sem, hp0, hx1]) rfl rfl ?_
  refine aL 2 (by simp [go_sem, hp0, hx1] <;> rfl) ?_
  refine al_nil ?_
  refine awp_ret ?_
  refine ends_ret (by simp [go_sem, hp0, hx1] <;> rfl) (by simp [go_sem]) ?_
  exact ⟨by simp only [fright, hd1, hp0, hx1, h0, bA, bB, bC, bD, bE, bF, bG, bH, bI, bJ, Bool.false_eq_true, if_true, if_false]; simp [go_sem], by simp [go_sem]⟩
 ·refine aK 2 17 true ?_
  refine aL 2 (by simp [go_sem, hp0, hx1] <;> rfl) ?_
  refine al_nil ?_
  refine awp_ret ?_
  refine ends_ret (by simp [go_sem, hp0, hx1] <;> rfl) (by simp [go_sem]) ?_
  exact ⟨by simp only [fright, hd1, hp0, hx1, h0, bA, bB, bC, bD, bE, bF, bG, bH, bI, bJ, Bool.false_eq_true, if_true, if_false]; simp [go_sem], by simp [go_sem]⟩

theorem c_canonX (p : D) (R : Right p) (C : List D) (hC : C = canonL (reach p) labX nmX true) : Pur Tryz.prog (GL kr) 59 [.pv (enc p), .func (.func 56) [], .func (.func 60) [], .pv (.bool true)] (.pv (.slice (C.map enc))) := by
  rw [hC]
  exact c_canon p R 56 60 true labX nmX (fun O => ⟨call56, rfl, fun σ hgl _ n h0 h1 => c_Expr_1 n h0 h1 σ hgl⟩) (fun O => ⟨call60, rfl, fun σ hgl _ x _ ht => c_Expr_2 x ht σ hgl⟩)
theorem eRec : sRec = ⟨#[114, 101, 99]⟩ := Eq.trans rfl rfl
theorem sizes_bound {a : List D} {m : Nat} (h : ∀ x, x ∈ a → x.size ≤ m) : D.sizes a ≤ m * a.length := by
  induction a with
  | nil => simp [D.sizes]
  | cons x l ih =>
    have h1 := h x (by simp)
    have h2 := ih fun y hy => h y (by simp [hy])
    simp only [D.sizes, List.length_cons, Nat.mul_add]; omega

set_option maxHeartbeats 1000000 in
theorem c_flat_Expr (p : D) (hp : p.size ≤ 900000) (a : List D) (hal : a.length ≤ 1000) (has : ∀ x, x ∈ a → x.size ≤ 1000) : Pur Tryz.prog (GL kr) 14 [.pv (enc p), .pv (.slice (a.map enc))] (.tuple [.pv (enc (fexpr p a).1), .pv (.int .i64 (fexpr p a).2)]) := by
 refine pur_of fun σ hgl => ?_
 refine acalls_of tyOk Tryz.func14 rfl (by simp [Tryz.f14]) ?_
 refine awp_seq (aR (by simp [go_sem] <;> rfl) ?_)
 refine awp_seq (awp_seq (awp_reg ?_))
 refine aL 1 (by simp [go_sem] <;> rfl) ?_
 refine aF call54 ((c_flat_Check p (by omega)) _ (by exact hgl)) (by simp [go_sem] <;> rfl) (by simp [go_sem]) ?_
 refine aL 1 (by simp [go_sem] <;> rfl) ?_
 refine al_nil ?_
 refine awp_seq (aR (by simp [go_sem] <;> rfl) ?_)
 refine awp_cond (by first | rfl | (simp [go_sem] <;> rfl)) (fun h0 => ?_) (fun h0 => ?_)
 ·refine awp_seq ?_
  refine aR (by simp [go_sem] <;> rfl) ?_
  refine awp_ret ?_
  refine then_ret ?_
  refine ends_ret (by simp [go_sem] <;> rfl) (by simp [go_sem]) ?_
  exact ⟨by simp only [fexpr, enc_none, h0, bA, bB, bC, bD, bE, bF, bG, bH, bI, bJ, Bool.false_eq_true, if_true, if_false]; simp [go_sem], by simp [go_sem]⟩
 ·have R : Right p := ⟨by simpa using h0, by omega⟩
  obtain ⟨C, hC⟩ : ∃ C, C = canonL (reach p) labX nmX true := ⟨_, rfl⟩
  have hout : exprOut p a = dlist [dsym sRec, dlist C, dlist (labX 0 :: a.map quoteD)] := by unfold exprOut; rw [← hC]
  have hos := R.exprOut_size a
  rw [hout] at hos
  have hsa : D.sizes a ≤ 1000 * a.length := sizes_bound has
  refine awp_skip ?_
  refine awp_seq (awp_seq (awp_reg ?_))
  refine aL 2 (by simp [go_sem] <;> rfl) ?_
  refine aF call55 ((c_flat_Right p R a (by omega) has) _ (by exact hgl)) (by simp [go_sem] <;> rfl) (by simp [go_sem]) ?_
  refine aL 1 (by simp [go_sem] <;> rfl) ?_
  refine al_nil ?_
  refine awp_cond (by first | rfl | (simp [go_sem] <;> rfl)) (fun h1 => ?_) (fun h1 => ?_)
  ·refine awp_seq ?_
   refine aR (by simp [go_sem] <;> rfl) ?_
   refine awp_ret ?_
   refine then_ret ?_
   refine ends_ret (by simp [go_sem] <;> rfl) (by simp [go_sem]) ?_
   have hs : fexpr p a = (dnone, 2) := by rw [fexpr_ok a R, ← hC, hout]; simp only [Bool.not_true, h0, h1, bA, bB, bC, bD, bE, bF, bG, bH, bI, bJ, Bool.false_eq_true, if_true, if_false]
   exact ⟨by rw [hs]; simp [go_sem, enc_none], by simp [go_sem]⟩
  ·refine awp_skip ?_
   refine awp_seq (aR (by simp [go_sem] <;> rfl) ?_)
   refine awp_seq (awp_reg ?_)
   refine aL 2 (by simp [go_sem] <;> rfl) ?_
   refine aF call59 ((c_canonX p R C hC) _ (by exact hgl)) (by simp [go_sem] <;> rfl) (by simp [go_sem]) ?_
   refine aL 1 (by simp [go_sem] <;> rfl) ?_
   refine al_nil ?_
   refine awp_seq (awp_seq (aR (by simp [go_sem] <;> rfl) ?_))
   refine awp_cond (by first | rfl | (simp [go_sem] <;> rfl)) (fun h2 => ?_) (fun h2 => ?_)
   ·refine awp_seq ?_
    refine aR (by simp [go_sem] <;> rfl) ?_
    refine awp_ret ?_
    refine then_ret ?_
    refine ends_ret (by simp [go_sem] <;> rfl) (by simp [go_sem]) ?_
    have hs : fexpr p a = (dnone, 7) := by rw [fexpr_ok a R, ← hC, hout]; simp only [Bool.not_true, h0, h1, h2, bA, bB, bC, bD, bE, bF, bG, bH, bI, bJ, Bool.false_eq_true, if_true, if_false]
    exact ⟨by rw [hs]; simp [go_sem, enc_none], by simp [go_sem]⟩
   ·refine awp_skip ?_
    refine awp_seq (awp_reg ?_)
    refine aL 1 (by simp [go_sem] <;> rfl) ?_
    refine al_fn rfl rfl rfl (by simp [go_sem] <;> rfl) call56 (c_Expr_1 0 (by decide) (by decide) _ (by exact hgl)) (by simp [go_sem] <;> rfl) (by simp [go_sem]) rfl rfl ?_
    refine aL 2 (by simp [go_sem] <;> rfl) ?_
    refine al_nil ?_
    refine awp_seq (awp_seq (aR (by simp [go_sem] <;> rfl) ?_))
    refine awp_adopt' 9 24 4 (by simp [go_sem] <;> rfl) ?_
    refine awp_block ?_
    refine awp_loop_headK σ.objs.length (σ.toks.length + 1) 2 [4, 5, 8, 34, 35] (fun k : Nat => [(9, .acc ((outK [labX 0] a quoteD k).map enc) σ.toks.length), (36, .pv (.int .i64 ↑k))]) (fun k => { σ with toks := σ.toks ++ [⟨1 + k, 24, 4⟩] }) (fun k => k ≤ a.length) (fun k => a.length - k) 0 (Nat.zero_le _) ⟨by simp [go_sem, outK_zero], rfl, by simp, by simp, by simp [go_sem, outK_zero], fun ob h => .inl (by simpa [go_sem, outK_zero] using h), by simp [go_sem]⟩ ?_
    intro k hk
    refine awp_seq (aR (by simp [go_sem] <;> rfl) ?_)
    refine awp_seq (awp_cond (by first | rfl | (simp [go_sem] <;> rfl)) (fun h3 => ?_) (fun h3 => ?_))
    ·have hlt : k < a.length := by simp at h3; omega
     have hw : IntKind.i64.wrap (↑k + 1) = (k : Int) + 1 := wrap_succ (by omega)
     obtain ⟨x, hx, hxm⟩ := get_lt hlt
     have hon := outK_next (pre := [labX 0]) (h := quoteD) hx
     have hol := outK_len (pre := [labX 0]) (h := quoteD) hk
     have hqd : dlist [dsym sQuote, x] = quoteD x := rfl
     rw [show ([labX 0] : List D).length = 1 from rfl] at hol
     have hbb : (1 + k + 1) * 56 ≤ 140737488355328 := by omega
     refine awp_skip ?_
     refine awp_seq (awp_block ?_)
     refine awp_seq (aR (by simp [go_sem, hx, hol, hbb] <;> rfl) ?_)
     refine awp_regDC tyOk tySz 7 (by kernel_rfl) (by decide) ?_
     refine ul_run 1 (by simp [go_sem, hx, hol, hbb] <;> rfl) ?_
     refine ul_fn (by first | (intro _ _ hh; exact hh) | simp [go_sem]) rfl rfl rfl rfl (by simp [go_sem, hx, hol, hbb] <;> rfl) call57 ((c_flat_Sym sQuote) _ (by exact hgl)) (by simp [go_sem, hx, hol, hbb] <;> rfl) (by simp [go_sem, hx, hol, hbb, eQuote]) rfl rfl ?_
     refine ul_run 1 (by simp [go_sem, hx, hol, hbb] <;> rfl) ?_
     refine ul_fn (by first | (intro _ _ hh; exact hh) | simp [go_sem]) rfl rfl rfl rfl (by simp [go_sem, hx, hol, hbb] <;> rfl) call62 ((c_own x (by have := has x hxm; omega)) _ (by exact hgl)) (by simp [go_sem, hx, hol, hbb] <;> rfl) (by simp [go_sem, hx, hol, hbb]) rfl rfl ?_
     refine ul_run 1 (by simp [go_sem, hx, hol, hbb] <;> rfl) ?_
     refine ul_fn (by first | (intro _ _ hh; exact hh) | simp [go_sem]) rfl rfl rfl rfl (by simp [go_sem, hx, hol, hbb] <;> rfl) call61 ((c_flat_List [dsym sQuote, x]) _ (by exact hgl)) (by simp [go_sem, hx, hol, hbb] <;> rfl) (by simp [go_sem, hx, hol, hbb]) rfl rfl ?_
     refine ul_run 1 (by simp [go_sem, hx, hol, hbb, hqd] <;> rfl) ?_
     refine ul_nil ?_
     refine aL 2 (by simp [go_sem, hx, hol, hbb, hqd] <;> rfl) ?_
     refine al_nil ?_
     refine aR (by simp [go_sem, hx, hol, hbb, hqd] <;> rfl) ?_
     exact next_intro (k + 1) σ.objs.length (σ.toks.length + 1) 2 (hlt) (by omega) ⟨by simp [go_sem, hx, hol, hbb, hqd, hw, hon, Nat.add_assoc], rfl, by simp, by simp, by simp [go_sem, hx, hol, hbb, hqd, hw, hon, Nat.add_assoc], fun ob h => .inl (by simpa [go_sem, hx, hol, hbb, hqd, hw, hon, Nat.add_assoc] using h), by simp [go_sem]⟩
    ·have hke : k = a.length := by simp at h3; omega
     subst hke
     refine awp_exit ?_
     refine then_exit ?_
     refine then_exit ?_
     refine inBlock_hit ?_
     refine awp_seq (awp_reg ?_)
     refine aF call57 ((c_flat_Sym sRec) _ (by exact hgl)) (by simp [go_sem, outK_all] <;> rfl) (by simp [go_sem, outK_all, eRec]) ?_
     refine aL 1 (by simp [go_sem, outK_all] <;> rfl) ?_
     refine aF call61 ((c_flat_List C) _ (by exact hgl)) (by simp [go_sem, outK_all] <;> rfl) (by simp [go_sem, outK_all]) ?_
     refine aL 1 (by simp [go_sem, outK_all] <;> rfl) ?_
     refine aF call61 ((c_flat_List (labX 0 :: a.map quoteD)) _ (by exact hgl)) (by simp [go_sem, outK_all] <;> rfl) (by simp [go_sem, outK_all]) ?_
     refine aL 1 (by simp [go_sem, outK_all] <;> rfl) ?_
     refine aF call61 ((c_flat_List [dsym sRec, dlist C, dlist (labX 0 :: a.map quoteD)]) _ (by exact hgl)) (by simp [go_sem, outK_all] <;> rfl) (by simp [go_sem, outK_all]) ?_
     refine aL 2 (by simp [go_sem, outK_all] <;> rfl) ?_
     refine al_nil ?_
     refine awp_seq (awp_seq (awp_reg ?_))
     refine aL 1 (by simp [go_sem, outK_all] <;> rfl) ?_
     refine aF call63 ((c_datum_Check (dlist [dsym sRec, dlist C, dlist (labX 0 :: a.map quoteD)]) (by omega)) _ (by exact hgl)) (by simp [go_sem, outK_all] <;> rfl) (by simp [go_sem, outK_all]) ?_
     refine aL 1 (by simp [go_sem, outK_all] <;> rfl) ?_
     refine al_nil ?_
     refine awp_cond (by first | rfl | (simp [go_sem, outK_all] <;> rfl)) (fun h4 => ?_) (fun h4 => ?_)
     ·refine awp_seq ?_
      refine aR (by simp [go_sem, outK_all] <;> rfl) ?_
      refine awp_ret ?_
      refine then_ret ?_
      refine ends_ret (by simp [go_sem] <;> rfl) (by simp [go_sem]) ?_
      have hs : fexpr p a = (dnone, 3) := by rw [fexpr_ok a R, ← hC, hout]; simp only [Bool.not_true, outK_all, h0, h1, h2, h4, bA, bB, bC, bD, bE, bF, bG, bH, bI, bJ, Bool.false_eq_true, if_true, if_false]
      exact ⟨by rw [hs]; simp [go_sem, enc_none], by simp [go_sem]⟩
     ·refine awp_skip ?_
      refine awp_seq (aR (by simp [go_sem, outK_all] <;> rfl) ?_)
      refine awp_ret ?_
      refine ends_ret (by simp [go_sem] <;> rfl) (by simp [go_sem]) ?_
      have hs : fexpr p a = (dlist [dsym sRec, dlist C, dlist (labX 0 :: a.map quoteD)], 0) := by rw [fexpr_ok a R, ← hC, hout]; simp only [Bool.not_true, outK_all, h0, h1, h2, h4, bA, bB, bC, bD, bE, bF, bG, bH, bI, bJ, Bool.false_eq_true, if_true, if_false]
      exact ⟨by rw [hs]; simp [go_sem, enc_none], by simp [go_sem]⟩

set_option maxHeartbeats 1000000 in
theorem c_CutM (d : D) (m : Nat) (dp : Int) (hm0 : 0 < m) (hm : m ≤ 3000) (hd1 : 1 ≤ dp) (hd2 : dp ≤ 2000) (σ : Store) (hgl : σ.gl = (GL kr)) : ACalls Tryz.prog 39 [.pv (enc d), .pv (.int .i64 (m : Int)), .pv (.int .i64 dp)] σ (fun r σ' => ∃ d' : D, r = .pv (enc d') ∧ σ' = σ ∧ d'.size ≤ m) := by
 refine ACalls.less (R := fun r σ' => ∃ d' : D, WVt σ.objs.length σ.toks.length 0 r (.pv (enc d')) ∧ σ'.cut σ.objs.length σ.toks.length = σ ∧ d'.size ≤ m) ?_ (fun r σ' ⟨d', h1, h2, h3⟩ => ⟨_, _, _, h1, Nat.le_refl _, Nat.le_refl _, fun ob hob => .inl (by rw [← h2]; exact hob), ⟨d', rfl, h2, h3⟩⟩)
 refine acalls_of tyOk Tryz.func39 rfl (by simp [Tryz.f39]) ?_
 refine awp_seq (aR (by simp [go_sem] <;> rfl) ?_)
 refine awp_seq (awp_region_run (sh := [10]) tyOk (by simp [go_sem] <;> rfl) ?_)
 refine awp_seq (awp_reg ?_)
 refine aL 3 (by simp [go_sem] <;> rfl) ?_
 refine al_callW rfl rfl rfl (by simp [go_sem] <;> rfl) call100 (c_cut d σ.objs.length m dp _ (by exact hgl) (by simp [go_sem]) hm0 hm hd1 hd2) (by simp [go_sem] <;> rfl) (by simp [go_sem]) rfl rfl ?_
 rintro r σ' ⟨d', lv', rfl, rfl, hsz'⟩
 refine aL 1 (by simp [go_sem] <;> rfl) ?_
 refine al_nil ?_
 refine awp_ret ?_
 refine ends_ret (by simp [go_sem] <;> rfl) (by simp [go_sem]) ?_
 exact ⟨d', by simp [go_sem], by simp [setC, go_sem], by omega⟩

set_option maxHeartbeats 1000000 in
theorem c_CutAll (a : List D) (σ : Store) (hgl : σ.gl = (GL kr)) : ACalls Tryz.prog 16 [.pv (.slice (a.map enc))] σ (fun r σ' => ∃ b : List D, r = .pv (.slice (b.map enc)) ∧ σ' = σ ∧ b.length ≤ 10 ∧ ∀ x, x ∈ b → x.size ≤ 1000) := by
 refine ACalls.less (R := fun r σ' => ∃ b : List D, WVt σ.objs.length σ.toks.length 0 r (.pv (.slice (b.map enc))) ∧ σ'.cut σ.objs.length σ.toks.length = σ ∧ b.length ≤ 10 ∧ ∀ x, x ∈ b → x.size ≤ 1000) ?_ (fun r σ' ⟨d', h1, h2, h3⟩ => ⟨_, _, _, h1, Nat.le_refl _, Nat.le_refl _, fun ob hob => .inl (by rw [← h2]; exact hob), ⟨d', rfl, h2, h3⟩⟩)
 refine acalls_of tyOk Tryz.func16 rfl (by simp [Tryz.f16]) ?_
 refine awp_seq (aR (by simp [go_sem] <;> rfl) ?_)
 refine awp_seq (aR (by simp [go_sem] <;> rfl) ?_)
 refine awp_seq (awp_seq (aR (by simp [go_sem] <;> rfl) ?_))
 refine awp_adopt' 3 24 4 (by simp [go_sem] <;> rfl) ?_
 refine awp_block ?_
 refine awp_loop_headK σ.objs.length (σ.toks.length + 1) 0 [0, 2] (fun i : List D => [(3, .acc (i.map enc) σ.toks.length), (4, .pv (.int .i64 ↑i.length))]) (fun i => { σ with toks := σ.toks ++ [⟨i.length, 24, 4⟩] }) (fun i => i.length ≤ 10 ∧ i.length ≤ a.length ∧ ∀ x, x ∈ i → x.size ≤ 1000) (fun i => a.length - i.length) [] (⟨Nat.zero_le _, Nat.zero_le _, fun x hx => by simp at hx⟩) ⟨by simp [go_sem], rfl, by simp, by simp, by simp [go_sem], fun ob h => .inl (by simpa [go_sem] using h), by simp [go_sem]⟩ ?_
 rintro i ⟨hi10, hil, his⟩
 refine awp_seq (awp_seq (awp_reg ?_))
 refine aL 5 (by simp [go_sem] <;> rfl) ?_
 refine al_splitT 9 (by first | rfl | (simp [go_sem] <;> rfl)) (fun h0 => ?_) (fun h0 => ?_)
 ·refine aLG 2 9 true (by simp [go_sem] <;> rfl) ?_
  refine aL 1 (by simp [go_sem] <;> rfl) ?_
  refine al_nil ?_
  refine awp_cond (by first | rfl | (simp [go_sem] <;> rfl)) (fun h1 => ?_) (fun h1 => ?_)
  ·have hlt : i.length < a.length := by simpa using h0
   have hl10 : i.length < 10 := by have := h1; simp at this; omega
   obtain ⟨x, hx, hxm⟩ := get_lt hlt
   have hbb : (i.length + 1) * 56 ≤ 140737488355328 := by omega
   have hw : IntKind.i64.wrap ((i.length : Int) + 1) = (i.length : Int) + 1 := wrap_succ (by omega)
   refine awp_skip ?_
   refine awp_seq (awp_block ?_)
   refine awp_reg ?_
   refine aL 5 (by simp [go_sem, hx, hbb] <;> rfl) ?_
   refine al_callW rfl rfl rfl (by simp [go_sem, hx, hbb] <;> rfl) call39 (c_CutM x 1000 1005 (by decide) (by decide) (by decide) (by decide) _ (by exact hgl)) (by simp [go_sem, hx, hbb] <;> rfl) (by simp [go_sem, hx, hbb]) rfl rfl ?_
   rintro r σ' ⟨d', rfl, rfl, hsz'⟩
   refine aL 3 (by simp [go_sem, hx, hbb] <;> rfl) ?_
   refine al_nil ?_
   refine aR (by simp [go_sem, hx, hbb] <;> rfl) ?_
   exact next_intro (i ++ [d']) σ.objs.length (σ.toks.length + 1) 0 (⟨by simp; omega, by simp; omega, fun x hx => by rcases List.mem_append.1 hx with h | h; exact his x h; simp at h; subst h; exact hsz'⟩) (by simp; omega) ⟨by simp [go_sem, hx, hbb, hw], rfl, by simp, by simp, by simp [go_sem, hx, hbb, hw], fun ob h => .inl (by simpa [go_sem, hx, hbb, hw] using h), by simp [go_sem]⟩
  ·refine awp_exit ?_
   refine then_exit ?_
   refine then_exit ?_
   refine inBlock_hit ?_
   refine awp_seq (aR (by simp [go_sem] <;> rfl) ?_)
   refine awp_ret ?_
   refine ends_ret (by simp [go_sem] <;> rfl) (by simp [go_sem]) ?_
   exact ⟨i, by simp [go_sem], by simp [go_sem], hi10, his⟩
 ·refine aK 2 9 true ?_
  refine aL 1 (by simp [go_sem] <;> rfl) ?_
  refine al_nil ?_
  refine awp_cond (b := false) (by simp [go_sem, h0]) (fun h => ?_) (fun h => ?_)
  ·cases h
  refine awp_exit ?_
  refine then_exit ?_
  refine then_exit ?_
  refine inBlock_hit ?_
  refine awp_seq (aR (by simp [go_sem] <;> rfl) ?_)
  refine awp_ret ?_
  refine ends_ret (by simp [go_sem] <;> rfl) (by simp [go_sem]) ?_
  exact ⟨i, by simp [go_sem], by simp [go_sem], hi10, his⟩

end Go.Proofs.YtnibcmaaehkhlaaGreatDoor

namespace Go.Proofs.YtnibcmaaehkhlaaGreatDoor
open Go Go.Aw
variable {kr : KR}
def dm : FuncId → Nat → Nat × List Nat × Bool
  | 209, 10 => (11, [], true)
  | 210, 5 => (9, [], false)
  | 245, 0 => (9, [], true)
  | 245, 1 => (8, [], true)
  | 245, 8 => (19, [], true)
  | 246, 3 => (9, [], true)
  | 246, 5 => (14, [], true)
  | 246, 16 => (9, [], false)
  | 246, 18 => (25, [], true)
  | 246, 19 => (7, [], false)
  | 262, 2 => (19, [], true)
  | 262, 4 => (9, [], true)
  | _, _ => (0, [], false)
def shT : FuncId → List Tmp
  | 209 => [13]
  | _ => []
def caL : List Nat := [64, 118, 133, 188, 189, 209, 210, 245, 246, 247, 262, 281]
theorem caOk : ∀ f, caL.contains f = true → Callable Tryz.prog f := by
  intro f h
  simp only [caL, List.contains_eq_mem, List.mem_cons, List.not_mem_nil, or_false, decide_eq_true_eq] at h
  rcases h with rfl | rfl | rfl | rfl | rfl | rfl | rfl | rfl | rfl | rfl | rfl | rfl
  · exact call64
  · exact call118
  · exact call133
  · exact call188
  · exact call189
  · exact call209
  · exact call210
  · exact call245
  · exact call246
  · exact call247
  · exact call262
  · exact call281
def orcT (f : FuncId) (args : List AV) : Option AV := match Nat.beq f 189, args with
  | true, [.pv (.int .u8 c)] => some (.pv (.bool (letter c)))
  | _, _ => none
theorem orcOk : ∀ f args r, orcT f args = some r → Pur Tryz.prog (GL kr) f args r := by
  intro f args r h
  unfold orcT at h
  split at h
  · rename_i c hf
    have := Nat.eq_of_beq_eq_true hf
    subst this
    cases h
    exact c_pagodaref01_Letter c
  · cases h
noncomputable def cfg : Cfg := ⟨Tryz.prog, ty, shT, dm, caL.contains, orcT⟩
theorem cfgOk : CfgOk cfg (GL kr) := ⟨tyOk, tySz, caOk, orcOk⟩
def exD : D := dlist [dlist [dsym ⟨#[102]⟩, dlist [dsym ⟨#[120]⟩], dlist [dsym ⟨#[105, 102]⟩, dlist [dsym ⟨#[61]⟩, dsym ⟨#[120]⟩, dlist [dsym ⟨#[113, 117, 111, 116, 101]⟩, dlist []]], dnum 0, dlist [dsym ⟨#[43]⟩, dnum 1, dlist [dsym ⟨#[99, 97, 108, 108]⟩, dsym ⟨#[102]⟩, dlist [dsym ⟨#[114, 101, 115, 116]⟩, dsym ⟨#[120]⟩]]]]]]
theorem c_example : PurAt Tryz.prog ⟨(GL kr), [], []⟩ 64 [] (.pv (enc exD)) := purAt_eval (n := 100000) cfgOk (by kernel_rfl)
end Go.Proofs.YtnibcmaaehkhlaaGreatDoor

namespace Go.Proofs.YtnibcmaaehkhlaaGreatDoor
open Go Go.Aw
variable {kr : KR}
def exC : D := dlist [dlist [dnum 0, dlist [dsym ⟨#[120]⟩], dlist [dsym ⟨#[105, 102]⟩, dlist [dsym ⟨#[61]⟩, dsym ⟨#[120]⟩, dlist [dsym ⟨#[113, 117, 111, 116, 101]⟩, dlist []]], dnum 0, dlist [dsym ⟨#[43]⟩, dnum 1, dlist [dsym ⟨#[99, 97, 108, 108]⟩, dnum 0, dlist [dsym ⟨#[114, 101, 115, 116]⟩, dsym ⟨#[120]⟩]]]]]]
theorem ex_size : exD.size ≤ 100 := Nat.le_of_ble_eq_true (by kernel_rfl)
theorem ex_check : fcheck exD = 0 := by kernel_rfl
theorem ex_Size : fSize exD = (10, 0) := by kernel_rfl
theorem ex_canon : fcanon exD = (exC, 0) := by kernel_rfl
theorem ex_reach : fReach exD = ([dsym ⟨#[102]⟩], 0) := by kernel_rfl
theorem ex_none : fcheck (dlist []) = 4 := by kernel_rfl
theorem ex_kids : ∃ c0 r, exC.kids = [c0] ∧ c0.kids = dnum 0 :: r := ⟨_, _, rfl, rfl⟩
set_option maxHeartbeats 1000000 in
theorem c_alive_of (σ : Store) (hgl : σ.gl = (GL kr)) (x c c0 z u : D) (l : List D) (y : D) (hE : PurAt Tryz.prog σ 64 [] (.pv (enc x))) (hes : x.size ≤ 100) (h1 : fcheck x = 0) (h2 : fSize x = (10, 0)) (h3 : fcanon x = (c, 0)) (h4 : fReach x = ([y], 0)) (hc1 : c.kids = [c0]) (hc3 : c0.kids[0]? = some u) (hu : u.size ≤ 100) (hN : Pur Tryz.prog (GL kr) 68 [.pv (.int .i64 0)] (.pv (enc u))) (hc4 : deq u u = true) (hz : enc z = .agg [.int .i64 3, .int .i64 0, .str ⟨#[]⟩, .slice []]) (hzs : z.size ≤ 100) (h5 : fcheck z = 4) : PurAt Tryz.prog σ 18 [] (.pv (.bool true)) := by
 refine purAt_of ?_
 refine acalls_of tyOk Tryz.func18 rfl (by simp [Tryz.f18]) ?_
 refine awp_seq (aR (by simp [go_sem, h1, h2, h3, h4, h5, hc1, hc3, hc4] <;> rfl) ?_)
 refine awp_seq (awp_reg ?_)
 refine aF call64 (hE) (by simp [go_sem, h1, h2, h3, h4, h5, hc1, hc3, hc4] <;> rfl) (by simp [go_sem, h1, h2, h3, h4, h5, hc1, hc3, hc4]) ?_
 refine aL 2 (by simp [go_sem, h1, h2, h3, h4, h5, hc1, hc3, hc4] <;> rfl) ?_
 refine al_nil ?_
 refine awp_seq (awp_reg ?_)
 refine aL 1 (by simp [go_sem, h1, h2, h3, h4, h5, hc1, hc3, hc4] <;> rfl) ?_
 refine aF call65 ((c_flat_Size x (by omega)) _ (by exact hgl)) (by simp [go_sem, h1, h2, h3, h4, h5, hc1, hc3, hc4] <;> rfl) (by simp [go_sem, h1, h2, h3, h4, h5, hc1, hc3, hc4]) ?_
 refine aL 5 (by simp [go_sem, h1, h2, h3, h4, h5, hc1, hc3, hc4] <;> rfl) ?_
 refine al_nil ?_
 refine awp_seq (awp_reg ?_)
 refine aL 1 (by simp [go_sem, h1, h2, h3, h4, h5, hc1, hc3, hc4] <;> rfl) ?_
 refine aF call66 ((c_flat_Canon x (by omega)) _ (by exact hgl)) (by simp [go_sem, h1, h2, h3, h4, h5, hc1, hc3, hc4] <;> rfl) (by simp [go_sem, h1, h2, h3, h4, h5, hc1, hc3, hc4]) ?_
 refine aL 6 (by simp [go_sem, h1, h2, h3, h4, h5, hc1, hc3, hc4] <;> rfl) ?_
 refine al_nil ?_
 refine awp_seq (awp_reg ?_)
 refine aL 1 (by simp [go_sem, h1, h2, h3, h4, h5, hc1, hc3, hc4] <;> rfl) ?_
 refine aF call67 ((c_flat_Reach x (by omega)) _ (by exact hgl)) (by simp [go_sem, h1, h2, h3, h4, h5, hc1, hc3, hc4] <;> rfl) (by simp [go_sem, h1, h2, h3, h4, h5, hc1, hc3, hc4]) ?_
 refine aL 5 (by simp [go_sem, h1, h2, h3, h4, h5, hc1, hc3, hc4] <;> rfl) ?_
 refine al_nil ?_
 refine awp_seq (awp_regDC tyOk tySz 30 (drawOk_of (by kernel_rfl)) (by decide) ?_)
 refine ul_run 1 (by simp [go_sem, h1, h2, h3, h4, h5, hc1, hc3, hc4] <;> rfl) ?_
 refine ul_fn (by first | (intro _ _ hh; exact hh) | simp [go_sem]) rfl rfl rfl rfl (by simp [go_sem, h1, h2, h3, h4, h5, hc1, hc3, hc4] <;> rfl) call54 ((c_flat_Check x (by omega)) _ (by exact hgl)) (by simp [go_sem, h1, h2, h3, h4, h5, hc1, hc3, hc4] <;> rfl) (by simp [go_sem, h1, h2, h3, h4, h5, hc1, hc3, hc4]) rfl rfl ?_
 refine ul_run 2 (by simp [go_sem, h1, h2, h3, h4, h5, hc1, hc3, hc4] <;> rfl) ?_
 refine ul_splitT 27 (by first | rfl | (simp [go_sem, h1, h2, h3, h4, h5, hc1, hc3, hc4] <;> rfl)) (fun h20 => ?_) (fun h20 => ?_)
 ·refine ul_runG 2 27 true true (by simp [go_sem]) rfl (by simp [go_sem]) rfl rfl (by simp [go_sem, h1, h2, h3, h4, h5, hc1, hc3, hc4] <;> rfl) ?_
  refine ul_run 2 (by simp [go_sem, h1, h2, h3, h4, h5, hc1, hc3, hc4] <;> rfl) ?_
  refine ul_splitT 31 (by first | rfl | (simp [go_sem, h1, h2, h3, h4, h5, hc1, hc3, hc4] <;> rfl)) (fun h21 => ?_) (fun h21 => ?_)
  ·refine ul_runG 2 31 true true (by simp [go_sem]) rfl (by simp [go_sem]) rfl rfl (by simp [go_sem, h1, h2, h3, h4, h5, hc1, hc3, hc4] <;> rfl) ?_
   refine ul_run 2 (by simp [go_sem, h1, h2, h3, h4, h5, hc1, hc3, hc4] <;> rfl) ?_
   refine ul_splitT 35 (by first | rfl | (simp [go_sem, h1, h2, h3, h4, h5, hc1, hc3, hc4] <;> rfl)) (fun h22 => ?_) (fun h22 => ?_)
   ·refine ul_runG 2 35 true true (by simp [go_sem]) rfl (by simp [go_sem]) rfl rfl (by simp [go_sem, h1, h2, h3, h4, h5, hc1, hc3, hc4] <;> rfl) ?_
    refine ul_run 2 (by simp [go_sem, h1, h2, h3, h4, h5, hc1, hc3, hc4] <;> rfl) ?_
    refine ul_splitT 39 (by first | rfl | (simp [go_sem, h1, h2, h3, h4, h5, hc1, hc3, hc4] <;> rfl)) (fun h23 => ?_) (fun h23 => ?_)
    ·refine ul_runG 4 39 true true (by simp [go_sem]) rfl (by simp [go_sem]) rfl rfl (by simp [go_sem, h1, h2, h3, h4, h5, hc1, hc3, hc4] <;> rfl) ?_
     refine ul_run 2 (by simp [go_sem, h1, h2, h3, h4, h5, hc1, hc3, hc4] <;> rfl) ?_
     refine ul_splitT 45 (by first | rfl | (simp [go_sem, h1, h2, h3, h4, h5, hc1, hc3, hc4] <;> rfl)) (fun h24 => ?_) (fun h24 => ?_)
     ·refine ul_runG 7 45 true true (by simp [go_sem]) rfl (by simp [go_sem]) rfl rfl (by simp [go_sem, h1, h2, h3, h4, h5, hc1, hc3, hc4] <;> rfl) ?_
      refine ul_fnG 45 true true (by simp [go_sem]) rfl (by first | (intro _ _ hh; exact hh) | simp [go_sem]) (by simp [go_sem]) rfl rfl rfl (by simp [go_sem, h1, h2, h3, h4, h5, hc1, hc3, hc4] <;> rfl) call68 ((hN) _ (by exact hgl)) (by simp [go_sem, h1, h2, h3, h4, h5, hc1, hc3, hc4] <;> rfl) (by simp [go_sem, h1, h2, h3, h4, h5, hc1, hc3, hc4]) rfl rfl ?_
      refine ul_nil ?_
      refine al_fnG 45 true true (by simp [go_sem]) rfl (by simp [go_sem]) rfl rfl (by simp [go_sem, h1, h2, h3, h4, h5, hc1, hc3, hc4] <;> rfl) call17 ((c_Same u (by omega) u) _ (by exact hgl)) (by simp [go_sem, h1, h2, h3, h4, h5, hc1, hc3, hc4] <;> rfl) (by simp [go_sem, h1, h2, h3, h4, h5, hc1, hc3, hc4]) rfl rfl ?_
      refine aL 2 (by simp [go_sem, h1, h2, h3, h4, h5, hc1, hc3, hc4] <;> rfl) ?_
      refine al_splitT 56 (by first | rfl | (simp [go_sem, h1, h2, h3, h4, h5, hc1, hc3, hc4] <;> rfl)) (fun h25 => ?_) (fun h25 => ?_)
      ·refine aLG 2 56 true (by simp [go_sem, h1, h2, h3, h4, h5, hc1, hc3, hc4] <;> rfl) ?_
       refine aL 2 (by simp [go_sem, h1, h2, h3, h4, h5, hc1, hc3, hc4] <;> rfl) ?_
       refine al_splitT 60 (by first | rfl | (simp [go_sem, h1, h2, h3, h4, h5, hc1, hc3, hc4] <;> rfl)) (fun h26 => ?_) (fun h26 => ?_)
       ·refine aLG 3 60 true (by simp [go_sem, h1, h2, h3, h4, h5, hc1, hc3, hc4] <;> rfl) ?_
        refine aL 2 (by simp [go_sem, h1, h2, h3, h4, h5, hc1, hc3, hc4] <;> rfl) ?_
        refine al_splitT 65 (by first | rfl | (simp [go_sem, h1, h2, h3, h4, h5, hc1, hc3, hc4] <;> rfl)) (fun h27 => ?_) (fun h27 => ?_)
        ·refine aLG 1 65 true (by simp [go_sem, h1, h2, h3, h4, h5, hc1, hc3, hc4] <;> rfl) ?_
         refine al_fnG 65 true true (by simp [go_sem]) rfl (by simp [go_sem]) rfl rfl (by simp [go_sem, h1, h2, h3, h4, h5, hc1, hc3, hc4] <;> rfl) call54 ((c_flat_Check z (by omega)) _ (by exact hgl)) (by simp [go_sem, h1, h2, h3, h4, h5, hc1, hc3, hc4] <;> rfl) (by simp [go_sem, h1, h2, h3, h4, h5, hc1, hc3, hc4, hz]) rfl rfl ?_
         refine aLG 1 65 true (by simp [go_sem, h1, h2, h3, h4, h5, hc1, hc3, hc4] <;> rfl) ?_
         refine aL 2 (by simp [go_sem, h1, h2, h3, h4, h5, hc1, hc3, hc4] <;> rfl) ?_
         refine al_nil ?_
         refine awp_ret ?_
         refine ends_ret (by simp [go_sem] <;> rfl) (by simp [go_sem]) ?_
         exact ⟨by simp [go_sem], by simp [go_sem]⟩
        ·cases h27
       ·cases h26
      ·cases h25
     ·cases h24
    ·cases h23
   ·cases h22
  ·cases h21
 ·cases h20

theorem c_alive (σ : Store) (hσ : σ = ⟨(GL kr), [], []⟩) : PurAt Tryz.prog σ 18 [] (.pv (.bool true)) := by
  obtain ⟨c0, r, hc1, hc2⟩ := ex_kids
  subst hσ
  exact c_alive_of _ rfl exD exC c0 (dlist []) (dnum 0) [] _ c_example ex_size ex_check ex_Size ex_canon ex_reach hc1 (by rw [hc2]; rfl) (Nat.le_of_ble_eq_true rfl) (c_pagodaref01_Num 0) (deq_refl _) (enc_list []) (Nat.le_of_ble_eq_true rfl) ex_none

end Go.Proofs.YtnibcmaaehkhlaaGreatDoor

namespace Go.Proofs.YtnibcmaaehkhlaaGreatDoor
open Go Go.Aw
variable {kr : KR}
set_option maxHeartbeats 1000000 in
theorem c_sName (d : D) : Pur Tryz.prog (GL kr) 213 [.pv (enc d)] (.pv (.bool (nmS d))) := by
 refine pur_of fun σ hgl => ?_
 have hgw : lookupG σ.gl 0 = some (.ptr [.map (wdK kr) (wdV kr)]) := by rw [hgl]; exact gl_wd
 have hlw := fun (s : St) (x : ByteArray) => look_wd (W := kr) (ty := ty) (s := s) (t := 131) (x := x) rfl rfl rfl rfl rfl rfl rfl
 refine acalls_of tyOk Tryz.func213 rfl (by simp [Tryz.f213]) ?_
 refine awp_seq (aR (by simp [go_sem, hgw, hlw] <;> rfl) ?_)
 refine awp_seq (awp_reg ?_)
 refine aL 4 (by simp [go_sem, hgw, hlw] <;> rfl) ?_
 refine al_splitT 6 (by first | rfl | (simp [go_sem, hgw, hlw] <;> rfl)) (fun h0 => ?_) (fun h0 => ?_)
 ·refine aLG 5 6 true (by simp [go_sem, hgw, hlw] <;> rfl) ?_
  refine aL 2 (by simp [go_sem, hgw, hlw] <;> rfl) ?_
  refine al_nil ?_
  refine awp_ret ?_
  refine ends_ret (by simp [go_sem, hgw, hlw] <;> rfl) (by simp [go_sem]) ?_
  exact ⟨by simp only [nmS, hgw, hlw, h0, bA, bB, bC, bD, bE, bF, bG, bH, bI, bJ, Bool.false_eq_true, if_true, if_false]; simp [go_sem], by simp [go_sem]⟩
 ·refine aK 5 6 true ?_
  refine aL 2 (by simp [go_sem, hgw, hlw] <;> rfl) ?_
  refine al_nil ?_
  refine awp_ret ?_
  refine ends_ret (by simp [go_sem, hgw, hlw] <;> rfl) (by simp [go_sem]) ?_
  exact ⟨by simp only [nmS, hgw, hlw, h0, bA, bB, bC, bD, bE, bF, bG, bH, bI, bJ, Bool.false_eq_true, if_true, if_false]; simp [go_sem], by simp [go_sem]⟩

set_option maxHeartbeats 1000000 in
theorem c_Differ (l : List D) (hl : l.length ≤ 1000000000) (m : Int) : Pur Tryz.prog (GL kr) 248 [.pv (.slice (l.map enc)), .pv (.int .i64 m)] (.pv (.bool (differB l m))) := by
 refine pur_of fun σ hgl => ?_
 refine acalls_of tyOk Tryz.func248 rfl (by simp [Tryz.f248]) ?_
 refine awp_seq (aR (by simp [go_sem, setS_new] <;> rfl) ?_)
 refine awp_seq (awp_seq (aR (by simp [go_sem, setS_new] <;> rfl) ?_))
 refine awp_cond (by first | rfl | (simp [go_sem, setS_new] <;> rfl)) (fun h0 => ?_) (fun h0 => ?_)
 ·refine awp_seq ?_
  refine aR (by simp [go_sem, setS_new] <;> rfl) ?_
  refine awp_ret ?_
  refine then_ret ?_
  have hM : differB l m = false := by unfold differB; rw [if_pos h0]
  refine ends_ret (by simp [go_sem] <;> rfl) (by simp [go_sem]) ?_
  exact ⟨by simp [go_sem, hM], by simp [go_sem]⟩
 ·refine awp_skip ?_
  refine awp_seq (aR (by simp [go_sem, setS_new] <;> rfl) ?_)
  refine awp_seq (awp_seq (aR (by simp [go_sem, setS_new] <;> rfl) ?_))
  refine awp_block ?_
  refine awp_loop_headK (σ.objs.length + 1) σ.toks.length 0 [4, 5, 13, 14] (fun k : Nat => [(15, .pv (.int .i64 ↑k))]) (fun k => { σ with objs := σ.objs ++ [.map (tK (((l.map D.text).take (k)).foldl addS [])) (tV (((l.map D.text).take (k)).foldl addS []))] }) (fun k => k ≤ l.length ∧ NotYet (badAt l) (List.range l.length) k) (fun k => l.length - k) 0 (⟨Nat.zero_le _, .zero⟩) ⟨by simp [go_sem, setS_new, tK_nil, tV_nil], rfl, by simp, by simp, by simp [go_sem, setS_new, tK_nil, tV_nil], fun ob h => mem_app1 rfl h, by simp [go_sem]⟩ ?_
  rintro k ⟨hk, hn⟩
  refine awp_seq (aR (by simp [go_sem, setS_new] <;> rfl) ?_)
  refine awp_seq (awp_cond (by first | rfl | (simp [go_sem, setS_new] <;> rfl)) (fun h1 => ?_) (fun h1 => ?_))
  ·have hlt : k < l.length := by simp at h1; omega
   have hw : IntKind.i64.wrap (↑k + 1) = (k : Int) + 1 := wrap_succ (by omega)
   obtain ⟨x, hx, hxm⟩ := get_lt hlt
   have hr : (List.range l.length)[k]? = some k := by simp [hlt]
   have hlk := fun (s : St) (ho : s.σ.objs[σ.objs.length]? = some (.map (tK (((l.map D.text).take (k)).foldl addS [])) (tV (((l.map D.text).take (k)).foldl addS [])))) => look_set (ty := ty) (s := s) (t := 95) (S := (((l.map D.text).take (k)).foldl addS [])) (o := σ.objs.length) rfl rfl rfl rfl rfl rfl rfl ho x.text
   have hpk := fun (s : St) (ho : s.σ.objs[σ.objs.length]? = some (.map (tK (((l.map D.text).take (k)).foldl addS [])) (tV (((l.map D.text).take (k)).foldl addS [])))) => put_set (ty := ty) (s := s) (t := 95) (o := σ.objs.length) rfl rfl rfl rfl ho x.text
   have htx : addS (((l.map D.text).take (k)).foldl addS []) x.text = (((l.map D.text).take (k + 1)).foldl addS []) := by rw [take_next (l := l.map D.text) (k := k) (x := x.text) (by simp [hx])]; simp
   have hba := badAt_eq hx
   refine awp_skip ?_
   refine awp_seq (awp_block ?_)
   refine awp_seq (aR (by simp [go_sem, setS_new, hx, hlk, hpk] <;> rfl) ?_)
   refine awp_seq (awp_seq (awp_reg ?_))
   refine aL 1 (by simp [go_sem, setS_new, hx, hlk, hpk] <;> rfl) ?_
   refine aF call213 ((c_sName x) _ (by exact hgl)) (by simp [go_sem, setS_new, hx, hlk, hpk] <;> rfl) (by simp [go_sem, setS_new, hx, hlk, hpk]) ?_
   refine aL 2 (by simp [go_sem, setS_new, hx, hlk, hpk] <;> rfl) ?_
   refine al_splitT 22 (by first | rfl | (simp [go_sem, setS_new, hx, hlk, hpk] <;> rfl)) (fun h2 => ?_) (fun h2 => ?_)
   ·refine aK 4 22 false ?_
    refine aL 1 (by simp [go_sem, setS_new, hx, hlk, hpk] <;> rfl) ?_
    refine al_nil ?_
    refine awp_cond (b := true) (by simp [go_sem, setS_new, hx, hlk, hpk, h0, h1, h2]) (fun h => ?_) (fun h => ?_)
    rotate_left
    ·cases h
    refine awp_seq (aR (by simp [go_sem, setS_new, hx, hlk, hpk] <;> rfl) ?_)
    refine awp_ret ?_
    refine then_ret ?_
    refine inBlock_ret ?_
    refine then_ret ?_
    refine then_ret ?_
    refine inBlock_ret ?_
    refine then_ret ?_
    have hM : differB l m = false := by unfold differB; split; rfl; rw [show ((List.range l.length).any (badAt l)) = true from List.any_eq_true.2 ⟨k, List.mem_range.2 hlt, by rw [hba]; simp only [Bool.not_true, setS_new, hx, hlk, hpk, h0, h1, h2, bA, bB, bC, bD, bE, bF, bG, bH, bI, bJ, Bool.false_eq_true, if_true, if_false]⟩]; rfl
    refine ends_ret (by simp [go_sem] <;> rfl) (by simp [go_sem]) ?_
    exact ⟨by simp [go_sem, hM], by simp [go_sem]⟩
   ·refine aLG 4 22 false (by simp [go_sem, setS_new, hx, hlk, hpk] <;> rfl) ?_
    refine aL 1 (by simp [go_sem, setS_new, hx, hlk, hpk] <;> rfl) ?_
    refine al_nil ?_
    refine awp_cond (by first | rfl | (simp [go_sem, setS_new, hx, hlk, hpk] <;> rfl)) (fun h3 => ?_) (fun h3 => ?_)
    ·refine awp_seq ?_
     refine aR (by simp [go_sem, setS_new, hx, hlk, hpk] <;> rfl) ?_
     refine awp_ret ?_
     refine then_ret ?_
     refine inBlock_ret ?_
     refine then_ret ?_
     refine then_ret ?_
     refine inBlock_ret ?_
     refine then_ret ?_
     have hM : differB l m = false := by unfold differB; split; rfl; rw [show ((List.range l.length).any (badAt l)) = true from List.any_eq_true.2 ⟨k, List.mem_range.2 hlt, by rw [hba]; simp only [Bool.not_true, setS_new, hx, hlk, hpk, h0, h1, h2, h3, bA, bB, bC, bD, bE, bF, bG, bH, bI, bJ, Bool.false_eq_true, if_true, if_false]⟩]; rfl
     refine ends_ret (by simp [go_sem] <;> rfl) (by simp [go_sem]) ?_
     exact ⟨by simp [go_sem, hM], by simp [go_sem]⟩
    ·refine awp_skip ?_
     refine aR (by simp [go_sem, setS_new, hx, hlk, hpk] <;> rfl) ?_
     refine aR (by simp [go_sem, setS_new, hx, hlk, hpk] <;> rfl) ?_
     exact next_intro (k + 1) (σ.objs.length + 1) σ.toks.length 0 (⟨hlt, hn.succ hr (by rw [hba]; simp only [h0, h1, h2, h3, bA, bB, bC, bD, bE, bF, bG, bH, bI, bJ, Bool.false_eq_true, if_true, if_false])⟩) (by omega) ⟨by simp [go_sem, setS_new, hx, hlk, hpk, hw, setS_new, htx], rfl, by simp, by simp, by simp [go_sem, setS_new, hx, hlk, hpk, hw, setS_new, htx], fun ob h => mem_app1 rfl h, by simp [go_sem]⟩
  ·have hke : k = l.length := by simp at h1; omega
   subst hke
   have hany : ((List.range l.length).any (badAt l)) = false := NotYet.any (by simpa using hn)
   refine awp_exit ?_
   refine then_exit ?_
   refine then_exit ?_
   refine inBlock_hit ?_
   refine awp_seq (aR (by simp [go_sem, setS_new] <;> rfl) ?_)
   refine awp_ret ?_
   have hM : differB l m = true := by unfold differB; rw [if_neg (by rw [h0]; decide), hany]; rfl
   refine ends_ret (by simp [go_sem] <;> rfl) (by simp [go_sem]) ?_
   exact ⟨by simp [go_sem, hM], by simp [go_sem]⟩

set_option maxHeartbeats 1000000 in
theorem c_isNames (d : D) (hd : d.size ≤ 1000000000) (m : Int) : Pur Tryz.prog (GL kr) 212 [.pv (enc d), .pv (.int .i64 m)] (.pv (.bool (isNms d m))) := by
 have hkl := D.kids_length_lt d
 refine pur_of fun σ hgl => ?_
 refine acalls_of tyOk Tryz.func212 rfl (by simp [Tryz.f212]) ?_
 refine awp_seq (aR (by simp [go_sem] <;> rfl) ?_)
 refine awp_seq (awp_reg ?_)
 refine aL 4 (by simp [go_sem] <;> rfl) ?_
 refine al_splitT 8 (by first | rfl | (simp [go_sem] <;> rfl)) (fun h0 => ?_) (fun h0 => ?_)
 ·refine aLG 3 8 true (by simp [go_sem] <;> rfl) ?_
  refine al_fnG 8 true true (by simp [go_sem]) rfl (by simp [go_sem]) rfl rfl (by simp [go_sem] <;> rfl) call248 ((c_Differ d.kids (by omega) m) _ (by exact hgl)) (by simp [go_sem] <;> rfl) (by simp [go_sem]) rfl rfl ?_
  refine aL 2 (by simp [go_sem] <;> rfl) ?_
  refine al_nil ?_
  refine awp_ret ?_
  refine ends_ret (by simp [go_sem] <;> rfl) (by simp [go_sem]) ?_
  exact ⟨by simp only [isNms, h0, bA, bB, bC, bD, bE, bF, bG, bH, bI, bJ, Bool.false_eq_true, if_true, if_false]; simp [go_sem], by simp [go_sem]⟩
 ·refine aK 4 8 true ?_
  refine aL 2 (by simp [go_sem] <;> rfl) ?_
  refine al_nil ?_
  refine awp_ret ?_
  refine ends_ret (by simp [go_sem] <;> rfl) (by simp [go_sem]) ?_
  exact ⟨by simp only [isNms, h0, bA, bB, bC, bD, bE, bF, bG, bH, bI, bJ, Bool.false_eq_true, if_true, if_false]; simp [go_sem], by simp [go_sem]⟩

set_option maxHeartbeats 1000000 in
theorem c_isGroup (d : D) (hd : d.size ≤ 1000000000) : Pur Tryz.prog (GL kr) 214 [.pv (enc d)] (.pv (.bool (isGrp d))) := by
 have hkl := D.kids_length_lt d
 refine pur_of fun σ hgl => ?_
 refine acalls_of tyOk Tryz.func214 rfl (by simp [Tryz.f214]) ?_
 refine awp_seq (aR (by simp [go_sem] <;> rfl) ?_)
 refine awp_seq (awp_seq (awp_reg ?_))
 refine aL 4 (by simp [go_sem] <;> rfl) ?_
 refine al_splitT 9 (by first | rfl | (simp [go_sem] <;> rfl)) (fun h0 => ?_) (fun h0 => ?_)
 ·refine aK 4 9 false ?_
  refine aL 2 (by simp [go_sem] <;> rfl) ?_
  refine aK 4 15 false ?_
  refine aL 1 (by simp [go_sem] <;> rfl) ?_
  refine al_nil ?_
  refine awp_cond (b := true) (by simp [go_sem, h0]) (fun h => ?_) (fun h => ?_)
  rotate_left
  ·cases h
  refine awp_seq (aR (by simp [go_sem] <;> rfl) ?_)
  refine awp_ret ?_
  refine then_ret ?_
  have hM : isGrp d = false := by unfold isGrp; simp only [Bool.not_true, h0, bA, bB, bC, bD, bE, bF, bG, bH, bI, bJ, Bool.false_eq_true, if_true, if_false]
  refine ends_ret (by simp [go_sem] <;> rfl) (by simp [go_sem]) ?_
  exact ⟨by simp [go_sem, hM], by simp [go_sem]⟩
 ·refine aLG 4 9 false (by simp [go_sem] <;> rfl) ?_
  refine aL 2 (by simp [go_sem] <;> rfl) ?_
  refine al_splitT 15 (by first | rfl | (simp [go_sem] <;> rfl)) (fun h1 => ?_) (fun h1 => ?_)
  ·refine aK 4 15 false ?_
   refine aL 1 (by simp [go_sem] <;> rfl) ?_
   refine al_nil ?_
   refine awp_cond (b := true) (by simp [go_sem, h0, h1]) (fun h => ?_) (fun h => ?_)
   rotate_left
   ·cases h
   refine awp_seq (aR (by simp [go_sem] <;> rfl) ?_)
   refine awp_ret ?_
   refine then_ret ?_
   have hM : isGrp d = false := by unfold isGrp; simp only [Bool.not_true, h0, h1, bA, bB, bC, bD, bE, bF, bG, bH, bI, bJ, Bool.false_eq_true, if_true, if_false]
   refine ends_ret (by simp [go_sem] <;> rfl) (by simp [go_sem]) ?_
   exact ⟨by simp [go_sem, hM], by simp [go_sem]⟩
  ·refine aLG 4 15 false (by simp [go_sem] <;> rfl) ?_
   refine aL 1 (by simp [go_sem] <;> rfl) ?_
   refine al_nil ?_
   refine awp_cond (by first | rfl | (simp [go_sem] <;> rfl)) (fun h2 => ?_) (fun h2 => ?_)
   ·refine awp_seq ?_
    refine aR (by simp [go_sem] <;> rfl) ?_
    refine awp_ret ?_
    refine then_ret ?_
    have hM : isGrp d = false := by unfold isGrp; simp only [Bool.not_true, h0, h1, h2, bA, bB, bC, bD, bE, bF, bG, bH, bI, bJ, Bool.false_eq_true, if_true, if_false]
    refine ends_ret (by simp [go_sem] <;> rfl) (by simp [go_sem]) ?_
    exact ⟨by simp [go_sem, hM], by simp [go_sem]⟩
   ·refine awp_skip ?_
    refine awp_seq (aR (by simp [go_sem] <;> rfl) ?_)
    refine awp_seq (awp_seq (aR (by simp [go_sem] <;> rfl) ?_))
    refine awp_adopt' 3 24 4 (by simp [go_sem] <;> rfl) ?_
    refine awp_block ?_
    refine awp_loop_headK σ.objs.length (σ.toks.length + 1) 1 [2, 22, 23] (fun k : Nat => [(3, .acc ((d.kids.map (enc ∘ D.head)).take k) σ.toks.length), (24, .pv (.int .i64 ↑k))]) (fun k => { σ with toks := σ.toks ++ [⟨k, 24, 4⟩] }) (fun k => k ≤ d.kids.length ∧ NotYet (grpBad) d.kids k) (fun k => d.kids.length - k) 0 (⟨Nat.zero_le _, .zero⟩) ⟨by simp [go_sem], rfl, by simp, by simp, by simp [go_sem], fun ob h => .inl (by simpa [go_sem] using h), by simp [go_sem]⟩ ?_
    rintro k ⟨hk, hn⟩
    refine awp_seq (aR (by simp [go_sem] <;> rfl) ?_)
    refine awp_seq (awp_cond (by first | rfl | (simp [go_sem] <;> rfl)) (fun h3 => ?_) (fun h3 => ?_))
    ·have hlt : k < d.kids.length := by simp at h3; omega
     have hw : IntKind.i64.wrap (↑k + 1) = (k : Int) + 1 := wrap_succ (by omega)
     obtain ⟨x, hx, hxm⟩ := get_lt hlt
     have ht : (d.kids.map (enc ∘ D.head)).take (k + 1) = (d.kids.map (enc ∘ D.head)).take k ++ [enc x.head] := take_next (by simp [hx])
     have hm : min k d.kids.length = k := by omega
     have hb2 : (k + 1) * 56 ≤ 140737488355328 := by omega
     refine awp_skip ?_
     refine awp_seq (awp_block ?_)
     refine awp_seq (aR (by simp [go_sem, hx, hm, hb2] <;> rfl) ?_)
     refine awp_seq (awp_seq (awp_reg ?_))
     refine aL 4 (by simp [go_sem, hx, hm, hb2] <;> rfl) ?_
     refine al_splitT 31 (by first | rfl | (simp [go_sem, hx, hm, hb2] <;> rfl)) (fun h4 => ?_) (fun h4 => ?_)
     ·refine aK 4 31 false ?_
      refine aL 2 (by simp [go_sem, hx, hm, hb2] <;> rfl) ?_
      refine aK 6 37 false ?_
      refine aL 1 (by simp [go_sem, hx, hm, hb2] <;> rfl) ?_
      refine al_nil ?_
      refine awp_cond (b := true) (by simp [go_sem, hx, hm, hb2, h0, h1, h2, h3, h4]) (fun h => ?_) (fun h => ?_)
      rotate_left
      ·cases h
      refine awp_seq (aR (by simp [go_sem, hx, hm, hb2] <;> rfl) ?_)
      refine awp_ret ?_
      refine then_ret ?_
      refine inBlock_ret ?_
      refine then_ret ?_
      refine then_ret ?_
      refine inBlock_ret ?_
      refine then_ret ?_
      have hany : d.kids.any grpBad = true := any_found hx (by unfold grpBad; first | (rw [hd1]; simp only [Bool.not_true, hx, hm, hb2, h0, h1, h2, h3, h4, bA, bB, bC, bD, bE, bF, bG, bH, bI, bJ, Bool.false_eq_true, if_true, if_false]; done) | simp only [Bool.not_true, hx, hm, hb2, h0, h1, h2, h3, h4, bA, bB, bC, bD, bE, bF, bG, bH, bI, bJ, Bool.false_eq_true, if_true, if_false])
      have hM : isGrp d = false := by unfold isGrp; rw [hany]; split <;> rfl
      refine ends_ret (by simp [go_sem] <;> rfl) (by simp [go_sem]) ?_
      exact ⟨by simp [go_sem, hM], by simp [go_sem]⟩
     ·refine aLG 4 31 false (by simp [go_sem, hx, hm, hb2] <;> rfl) ?_
      refine aL 2 (by simp [go_sem, hx, hm, hb2] <;> rfl) ?_
      refine al_splitT 37 (by first | rfl | (simp [go_sem, hx, hm, hb2] <;> rfl)) (fun h5 => ?_) (fun h5 => ?_)
      ·refine aK 6 37 false ?_
       refine aL 1 (by simp [go_sem, hx, hm, hb2] <;> rfl) ?_
       refine al_nil ?_
       refine awp_cond (b := true) (by simp [go_sem, hx, hm, hb2, h0, h1, h2, h3, h4, h5]) (fun h => ?_) (fun h => ?_)
       rotate_left
       ·cases h
       refine awp_seq (aR (by simp [go_sem, hx, hm, hb2] <;> rfl) ?_)
       refine awp_ret ?_
       refine then_ret ?_
       refine inBlock_ret ?_
       refine then_ret ?_
       refine then_ret ?_
       refine inBlock_ret ?_
       refine then_ret ?_
       have hany : d.kids.any grpBad = true := any_found hx (by unfold grpBad; first | (rw [hd1]; simp only [Bool.not_true, hx, hm, hb2, h0, h1, h2, h3, h4, h5, bA, bB, bC, bD, bE, bF, bG, bH, bI, bJ, Bool.false_eq_true, if_true, if_false]; done) | simp only [Bool.not_true, hx, hm, hb2, h0, h1, h2, h3, h4, h5, bA, bB, bC, bD, bE, bF, bG, bH, bI, bJ, Bool.false_eq_true, if_true, if_false])
       have hM : isGrp d = false := by unfold isGrp; rw [hany]; split <;> rfl
       refine ends_ret (by simp [go_sem] <;> rfl) (by simp [go_sem]) ?_
       exact ⟨by simp [go_sem, hM], by simp [go_sem]⟩
      ·have hl3 : x.kids.length = 3 := by have h := h5; simp at h; omega
       obtain ⟨y1, hy1, hy1m⟩ := get_lt (l := x.kids) (k := 1) (by omega)
       have hd1 : d1 x.kids = y1 := getD_of hy1
       obtain ⟨y0, hy0, hy0m⟩ := get_lt (l := x.kids) (k := 0) (by omega)
       have hh0 : x.head = y0 := head_get hy0
       refine aLG 4 37 false (by simp [go_sem, hx, hm, hb2, hy1, hy0] <;> rfl) ?_
       refine al_fnG 37 false false (by simp [go_sem]) rfl (by simp [go_sem]) rfl rfl (by simp [go_sem, hx, hm, hb2, hy1, hy0] <;> rfl) call212 ((c_isNames y1 (by have := D.size_kid_lt hxm; have := D.size_kid_lt hy1m; omega) 8) _ (by exact hgl)) (by simp [go_sem, hx, hm, hb2, hy1, hy0] <;> rfl) (by simp [go_sem, hx, hm, hb2, hy1, hy0]) rfl rfl ?_
       refine aLG 1 37 false (by simp [go_sem, hx, hm, hb2, hy1, hy0] <;> rfl) ?_
       refine aL 1 (by simp [go_sem, hx, hm, hb2, hy1, hy0] <;> rfl) ?_
       refine al_nil ?_
       refine awp_cond (by first | rfl | (simp [go_sem, hx, hm, hb2, hy1, hy0] <;> rfl)) (fun h6 => ?_) (fun h6 => ?_)
       ·refine awp_seq ?_
        refine aR (by simp [go_sem, hx, hm, hb2, hy1, hy0] <;> rfl) ?_
        refine awp_ret ?_
        refine then_ret ?_
        refine inBlock_ret ?_
        refine then_ret ?_
        refine then_ret ?_
        refine inBlock_ret ?_
        refine then_ret ?_
        have hany : d.kids.any grpBad = true := any_found hx (by unfold grpBad; first | (rw [hd1]; simp only [Bool.not_true, hx, hm, hb2, hy1, hy0, h0, h1, h2, h3, h4, h5, h6, bA, bB, bC, bD, bE, bF, bG, bH, bI, bJ, Bool.false_eq_true, if_true, if_false]; done) | simp only [Bool.not_true, hx, hm, hb2, hy1, hy0, h0, h1, h2, h3, h4, h5, h6, bA, bB, bC, bD, bE, bF, bG, bH, bI, bJ, Bool.false_eq_true, if_true, if_false])
        have hM : isGrp d = false := by unfold isGrp; rw [hany]; split <;> rfl
        refine ends_ret (by simp [go_sem] <;> rfl) (by simp [go_sem]) ?_
        exact ⟨by simp [go_sem, hM], by simp [go_sem]⟩
       ·refine awp_skip ?_
        refine aR (by simp [go_sem, hx, hm, hb2, hy1, hy0] <;> rfl) ?_
        refine aR (by simp [go_sem, hx, hm, hb2, hy1, hy0] <;> rfl) ?_
        exact next_intro (k + 1) σ.objs.length (σ.toks.length + 1) 1 (⟨hlt, hn.succ hx (by unfold grpBad; rw [hd1]; simp only [h0, h1, h2, h3, h4, h5, h6, bA, bB, bC, bD, bE, bF, bG, bH, bI, bJ, Bool.false_eq_true, if_true, if_false])⟩) (by omega) ⟨by simp [go_sem, hx, hm, hb2, hy1, hy0, hw, ht, hh0], rfl, by simp, by simp, by simp [go_sem, hx, hm, hb2, hy1, hy0, hw, ht, hh0], fun ob h => .inl (by simpa [go_sem, hx, hm, hb2, hy1, hy0, hw, ht, hh0] using h), by simp [go_sem]⟩
    ·have hke : k = d.kids.length := by simp at h3; omega
     subst hke
     have hany := hn.any
     refine awp_exit ?_
     refine then_exit ?_
     refine then_exit ?_
     refine inBlock_hit ?_
     refine awp_seq (awp_reg ?_)
     refine aL 1 (by simp [go_sem] <;> rfl) ?_
     refine aF call248 ((c_Differ (d.kids.map D.head) (by rw [List.length_map]; omega) 40) _ (by exact hgl)) (by simp [go_sem] <;> rfl) (by simp [go_sem]) ?_
     refine aL 1 (by simp [go_sem] <;> rfl) ?_
     refine al_nil ?_
     refine awp_ret ?_
     have hM : isGrp d = differB (d.kids.map D.head) 40 := by unfold isGrp; rw [if_neg (by simp only [Bool.not_true, h0, h1, h2, bA, bB, bC, bD, bE, bF, bG, bH, bI, bJ, Bool.false_eq_true, if_true, if_false]; decide), hany, if_neg (by decide)]
     refine ends_ret (by simp [go_sem] <;> rfl) (by simp [go_sem]) ?_
     exact ⟨by simp [go_sem, hM], by simp [go_sem]⟩

set_option maxHeartbeats 4000000 in
theorem c_Kind (d : D) (hd : d.size ≤ 1000000000) : Pur Tryz.prog (GL kr) 138 [.pv (enc d)] (.pv (.int .i64 (synKind d))) := by
 refine pur_of fun σ hgl => ?_
 have hgw : lookupG σ.gl 0 = some (.ptr [.map (wdK kr) (wdV kr)]) := by rw [hgl]; exact gl_wd
 have hlw := fun (s : St) (x : ByteArray) => look_wd (W := kr) (ty := ty) (s := s) (t := 131) (x := x) rfl rfl rfl rfl rfl rfl rfl
 refine acalls_of tyOk Tryz.func138 rfl (by simp [Tryz.f138]) ?_
 refine awp_seq (aR (by simp [go_sem, hgw, hlw] <;> rfl) ?_)
 refine awp_seq (awp_seq (aR (by simp [go_sem, hgw, hlw] <;> rfl) ?_))
 refine awp_block ?_
 refine awp_seq (aR (by simp [go_sem, hgw, hlw] <;> rfl) ?_)
 refine awp_cond (by first | rfl | (simp [go_sem, hgw, hlw] <;> rfl)) (fun h0 => ?_) (fun h0 => ?_)
 ·refine awp_seq ?_
  refine aR (by simp [go_sem, hgw, hlw] <;> rfl) ?_
  refine awp_ret ?_
  refine inBlock_ret ?_
  refine then_ret ?_
  refine ends_ret (by simp [go_sem, hgw, hlw] <;> rfl) (by simp [go_sem]) ?_
  exact ⟨by simp only [synKind, fmOk, hgw, hlw, h0, bA, bB, bC, bD, bE, bF, bG, bH, bI, bJ, Bool.false_eq_true, if_true, if_false]; simp [go_sem], by simp [go_sem]⟩
 ·refine awp_seq ?_
  refine aR (by simp [go_sem, hgw, hlw] <;> rfl) ?_
  refine awp_cond (by first | rfl | (simp [go_sem, hgw, hlw] <;> rfl)) (fun h1 => ?_) (fun h1 => ?_)
  ·refine awp_seq ?_
   refine awp_seq (aR (by simp [go_sem, hgw, hlw] <;> rfl) ?_)
   refine awp_cond (by first | rfl | (simp [go_sem, hgw, hlw] <;> rfl)) (fun h2 => ?_) (fun h2 => ?_)
   ·refine awp_seq ?_
    refine aR (by simp [go_sem, hgw, hlw] <;> rfl) ?_
    refine awp_ret ?_
    refine then_ret ?_
    refine inBlock_ret ?_
    refine then_ret ?_
    refine ends_ret (by simp [go_sem, hgw, hlw] <;> rfl) (by simp [go_sem]) ?_
    exact ⟨by simp only [synKind, fmOk, hgw, hlw, h0, h1, h2, bA, bB, bC, bD, bE, bF, bG, bH, bI, bJ, Bool.false_eq_true, if_true, if_false]; simp [go_sem], by simp [go_sem]⟩
   ·refine awp_skip ?_
    refine awp_seq (aR (by simp [go_sem, hgw, hlw] <;> rfl) ?_)
    refine awp_ret ?_
    refine inBlock_ret ?_
    refine then_ret ?_
    refine ends_ret (by simp [go_sem, hgw, hlw] <;> rfl) (by simp [go_sem]) ?_
    exact ⟨by simp only [synKind, fmOk, hgw, hlw, h0, h1, h2, bA, bB, bC, bD, bE, bF, bG, bH, bI, bJ, Bool.false_eq_true, if_true, if_false]; simp [go_sem], by simp [go_sem]⟩
  ·refine awp_skip ?_
   refine awp_seq (awp_seq (aR (by simp [go_sem, hgw, hlw] <;> rfl) ?_))
   refine awp_cond (by first | rfl | (simp [go_sem, hgw, hlw] <;> rfl)) (fun h3 => ?_) (fun h3 => ?_)
   ·refine awp_seq ?_
    refine aR (by simp [go_sem, hgw, hlw] <;> rfl) ?_
    refine awp_ret ?_
    refine then_ret ?_
    refine ends_ret (by simp [go_sem, hgw, hlw] <;> rfl) (by simp [go_sem]) ?_
    exact ⟨by simp only [synKind, fmOk, hgw, hlw, h0, h1, h3, bA, bB, bC, bD, bE, bF, bG, bH, bI, bJ, Bool.false_eq_true, if_true, if_false]; simp [go_sem], by simp [go_sem]⟩
   ·have hne : d.kids ≠ [] := by intro e; rw [e] at h3; cases h3
    obtain ⟨x0, r0, hks⟩ := kids_cons hne
    have hx0 : d.kids[0]? = some x0 := by rw [hks]; rfl
    have hh := head_cons hks
    obtain ⟨f, hf⟩ : ∃ z, z = headN d := ⟨_, rfl⟩
    have hff := hf.symm
    refine awp_skip ?_
    refine awp_seq (awp_regDP tyOk tySz 6 (by kernel_rfl) (by decide) ?_)
    refine ul_run 6 (by simp [go_sem, hgw, hlw, hx0] <;> rfl) ?_
    refine ul_nil ?_
    refine aL 1 (by simp [go_sem, hgw, hlw, hx0] <;> rfl) ?_
    refine al_nil ?_
    refine awp_seq (aR (by simp [go_sem, hgw, hlw, hx0] <;> rfl) ?_)
    refine awp_seq (awp_seq (aR (by simp [go_sem, hgw, hlw, hx0] <;> rfl) ?_))
    refine awp_cond (by first | rfl | (simp [go_sem, hgw, hlw, hx0] <;> rfl)) (fun h4 => ?_) (fun h4 => ?_)
    ·have hfw : wordN x0.text = f := by rw [hf]; unfold headN; rw [hh, if_pos h4]
     refine awp_regDP tyOk tySz 5 (by kernel_rfl) (by decide) ?_
     refine ul_run 5 (by simp [go_sem, hgw, hlw, hx0, hfw] <;> rfl) ?_
     refine ul_nil ?_
     refine aL 2 (by simp [go_sem, hgw, hlw, hx0, hfw] <;> rfl) ?_
     refine al_nil ?_
     refine awp_seq (aR (by simp [go_sem, hgw, hlw, hx0, hfw] <;> rfl) ?_)
     refine awp_seq (awp_seq (aR (by simp [go_sem, hgw, hlw, hx0, hfw] <;> rfl) ?_))
     refine awp_block ?_
     refine awp_seq (aR (by simp [go_sem, hgw, hlw, hx0, hfw] <;> rfl) ?_)
     refine awp_cond (by first | rfl | (simp [go_sem, hgw, hlw, hx0, hfw] <;> rfl)) (fun h5 => ?_) (fun h5 => ?_)
     ·refine aR (by simp [go_sem, hgw, hlw, hx0, hfw] <;> rfl) ?_
      refine awp_seq (awp_seq (aR (by simp [go_sem, hgw, hlw, hx0, hfw] <;> rfl) ?_))
      refine awp_cond (by first | rfl | (simp [go_sem, hgw, hlw, hx0, hfw] <;> rfl)) (fun h6 => ?_) (fun h6 => ?_)
      ·have hq := h6
       first | rw [Bool.not_eq_true'] at hq | skip
       refine awp_seq (aR (by simp [go_sem, hgw, hlw, hx0, hfw] <;> rfl) ?_)
       refine awp_ret ?_
       refine then_ret ?_
       refine ends_ret (by simp [go_sem, hgw, hlw, hx0, hfw] <;> rfl) (by simp [go_sem]) ?_
       exact ⟨by simp only [synKind, fmOk, hgw, hlw, hx0, hfw, h0, h1, h3, hff, h4, h5, h6, hq, bA, bB, bC, bD, bE, bF, bG, bH, bI, bJ, Bool.false_eq_true, if_true, if_false]; simp [go_sem], by simp [go_sem]⟩
      ·have hq := h6
       first | rw [Bool.not_eq_false'] at hq | skip
       refine awp_skip ?_
       refine awp_seq (aR (by simp [go_sem, hgw, hlw, hx0, hfw] <;> rfl) ?_)
       refine awp_ret ?_
       refine ends_ret (by simp [go_sem, hgw, hlw, hx0, hfw] <;> rfl) (by simp [go_sem]) ?_
       exact ⟨by simp only [synKind, fmOk, hgw, hlw, hx0, hfw, h0, h1, h3, hff, h4, h5, h6, hq, bA, bB, bC, bD, bE, bF, bG, bH, bI, bJ, Bool.false_eq_true, if_true, if_false]; simp [go_sem], by simp [go_sem]⟩
     ·refine awp_seq ?_
      refine aR (by simp [go_sem, hgw, hlw, hx0, hfw] <;> rfl) ?_
      refine awp_cond (by first | rfl | (simp [go_sem, hgw, hlw, hx0, hfw] <;> rfl)) (fun h7 => ?_) (fun h7 => ?_)
      ·refine aR (by simp [go_sem, hgw, hlw, hx0, hfw] <;> rfl) ?_
       refine awp_seq (awp_seq (aR (by simp [go_sem, hgw, hlw, hx0, hfw] <;> rfl) ?_))
       refine awp_cond (by first | rfl | (simp [go_sem, hgw, hlw, hx0, hfw] <;> rfl)) (fun h8 => ?_) (fun h8 => ?_)
       ·have hq := h8
        first | rw [Bool.not_eq_true'] at hq | skip
        refine awp_seq (aR (by simp [go_sem, hgw, hlw, hx0, hfw] <;> rfl) ?_)
        refine awp_ret ?_
        refine then_ret ?_
        refine ends_ret (by simp [go_sem, hgw, hlw, hx0, hfw] <;> rfl) (by simp [go_sem]) ?_
        exact ⟨by simp only [synKind, fmOk, hgw, hlw, hx0, hfw, h0, h1, h3, hff, h4, h5, h7, h8, hq, bA, bB, bC, bD, bE, bF, bG, bH, bI, bJ, Bool.false_eq_true, if_true, if_false]; simp [go_sem], by simp [go_sem]⟩
       ·have hq := h8
        first | rw [Bool.not_eq_false'] at hq | skip
        refine awp_skip ?_
        refine awp_seq (aR (by simp [go_sem, hgw, hlw, hx0, hfw] <;> rfl) ?_)
        refine awp_ret ?_
        refine ends_ret (by simp [go_sem, hgw, hlw, hx0, hfw] <;> rfl) (by simp [go_sem]) ?_
        exact ⟨by simp only [synKind, fmOk, hgw, hlw, hx0, hfw, h0, h1, h3, hff, h4, h5, h7, h8, hq, bA, bB, bC, bD, bE, bF, bG, bH, bI, bJ, Bool.false_eq_true, if_true, if_false]; simp [go_sem], by simp [go_sem]⟩
      ·refine awp_seq ?_
       refine aR (by simp [go_sem, hgw, hlw, hx0, hfw] <;> rfl) ?_
       refine awp_cond (by first | rfl | (simp [go_sem, hgw, hlw, hx0, hfw] <;> rfl)) (fun h9 => ?_) (fun h9 => ?_)
       ·refine aR (by simp [go_sem, hgw, hlw, hx0, hfw] <;> rfl) ?_
        refine awp_seq (awp_seq (aR (by simp [go_sem, hgw, hlw, hx0, hfw] <;> rfl) ?_))
        refine awp_cond (by first | rfl | (simp [go_sem, hgw, hlw, hx0, hfw] <;> rfl)) (fun h10 => ?_) (fun h10 => ?_)
        ·have hq := h10
         first | rw [Bool.not_eq_true'] at hq | skip
         refine awp_seq (aR (by simp [go_sem, hgw, hlw, hx0, hfw] <;> rfl) ?_)
         refine awp_ret ?_
         refine then_ret ?_
         refine ends_ret (by simp [go_sem, hgw, hlw, hx0, hfw] <;> rfl) (by simp [go_sem]) ?_
         exact ⟨by simp only [synKind, fmOk, hgw, hlw, hx0, hfw, h0, h1, h3, hff, h4, h5, h7, h9, h10, hq, bA, bB, bC, bD, bE, bF, bG, bH, bI, bJ, Bool.false_eq_true, if_true, if_false]; simp [go_sem], by simp [go_sem]⟩
        ·have hq := h10
         first | rw [Bool.not_eq_false'] at hq | skip
         refine awp_skip ?_
         refine awp_seq (aR (by simp [go_sem, hgw, hlw, hx0, hfw] <;> rfl) ?_)
         refine awp_ret ?_
         refine ends_ret (by simp [go_sem, hgw, hlw, hx0, hfw] <;> rfl) (by simp [go_sem]) ?_
         exact ⟨by simp only [synKind, fmOk, hgw, hlw, hx0, hfw, h0, h1, h3, hff, h4, h5, h7, h9, h10, hq, bA, bB, bC, bD, bE, bF, bG, bH, bI, bJ, Bool.false_eq_true, if_true, if_false]; simp [go_sem], by simp [go_sem]⟩
       ·refine awp_seq ?_
        refine aR (by simp [go_sem, hgw, hlw, hx0, hfw] <;> rfl) ?_
        refine awp_cond (by first | rfl | (simp [go_sem, hgw, hlw, hx0, hfw] <;> rfl)) (fun h11 => ?_) (fun h11 => ?_)
        ·refine awp_reg ?_
         refine aL 3 (by simp [go_sem, hgw, hlw, hx0, hfw] <;> rfl) ?_
         refine al_splitT 55 (by first | rfl | (simp [go_sem, hgw, hlw, hx0, hfw] <;> rfl)) (fun h12 => ?_) (fun h12 => ?_)
         ·have hlk : d.kids.length = 3 := by have h := h12; simp at h; omega
          obtain ⟨x1, hx1, hx1m⟩ := get_lt (l := d.kids) (k := 1) (by omega)
          have hd1 : d1 d.kids = x1 := getD_of hx1
          have hxs := D.size_kid_lt hx1m
          refine aLG 3 55 true (by simp [go_sem, hgw, hlw, hx0, hfw, hx1] <;> rfl) ?_
          refine al_fnG 55 true true (by simp [go_sem]) rfl (by simp [go_sem]) rfl rfl (by simp [go_sem, hgw, hlw, hx0, hfw, hx1] <;> rfl) call212 ((c_isNames x1 (by omega) 8) _ (by exact hgl)) (by simp [go_sem, hgw, hlw, hx0, hfw, hx1] <;> rfl) (by simp [go_sem, hgw, hlw, hx0, hfw, hx1]) rfl rfl ?_
          refine aL 2 (by simp [go_sem, hgw, hlw, hx0, hfw, hx1] <;> rfl) ?_
          refine al_nil ?_
          refine awp_seq (awp_seq (aR (by simp [go_sem, hgw, hlw, hx0, hfw, hx1] <;> rfl) ?_))
          refine awp_cond (by first | rfl | (simp [go_sem, hgw, hlw, hx0, hfw, hx1] <;> rfl)) (fun h13 => ?_) (fun h13 => ?_)
          ·have hq := h13
           first | rw [Bool.not_eq_true'] at hq | skip
           refine awp_seq (aR (by simp [go_sem, hgw, hlw, hx0, hfw, hx1] <;> rfl) ?_)
           refine awp_ret ?_
           refine then_ret ?_
           refine ends_ret (by simp [go_sem, hgw, hlw, hx0, hfw, hx1] <;> rfl) (by simp [go_sem]) ?_
           exact ⟨by simp only [synKind, fmOk, hgw, hlw, hx0, hfw, hx1, h0, h1, h3, hff, h4, h5, h7, h9, h11, h12, hd1, h13, hq, bA, bB, bC, bD, bE, bF, bG, bH, bI, bJ, Bool.false_eq_true, if_true, if_false]; simp [go_sem], by simp [go_sem]⟩
          ·have hq := h13
           first | rw [Bool.not_eq_false'] at hq | skip
           refine awp_skip ?_
           refine awp_seq (aR (by simp [go_sem, hgw, hlw, hx0, hfw, hx1] <;> rfl) ?_)
           refine awp_ret ?_
           refine ends_ret (by simp [go_sem, hgw, hlw, hx0, hfw, hx1] <;> rfl) (by simp [go_sem]) ?_
           exact ⟨by simp only [synKind, fmOk, hgw, hlw, hx0, hfw, hx1, h0, h1, h3, hff, h4, h5, h7, h9, h11, h12, hd1, h13, hq, bA, bB, bC, bD, bE, bF, bG, bH, bI, bJ, Bool.false_eq_true, if_true, if_false]; simp [go_sem], by simp [go_sem]⟩
         ·refine aK 4 55 true ?_
          refine aL 2 (by simp [go_sem, hgw, hlw, hx0, hfw] <;> rfl) ?_
          refine al_nil ?_
          refine awp_seq (awp_seq (aR (by simp [go_sem, hgw, hlw, hx0, hfw] <;> rfl) ?_))
          refine awp_cond (b := true) (by simp [go_sem, hgw, hlw, hx0, hfw, h0, h1, h3, hff, h4, h5, h7, h9, h11, h12]) (fun h => ?_) (fun h => ?_)
          rotate_left
          ·cases h
          refine awp_seq (aR (by simp [go_sem, hgw, hlw, hx0, hfw] <;> rfl) ?_)
          refine awp_ret ?_
          refine then_ret ?_
          refine ends_ret (by simp [go_sem, hgw, hlw, hx0, hfw] <;> rfl) (by simp [go_sem]) ?_
          exact ⟨by simp only [synKind, fmOk, hgw, hlw, hx0, hfw, h0, h1, h3, hff, h4, h5, h7, h9, h11, h12, bA, bB, bC, bD, bE, bF, bG, bH, bI, bJ, Bool.false_eq_true, if_true, if_false]; simp [go_sem], by simp [go_sem]⟩
        ·refine awp_seq ?_
         refine aR (by simp [go_sem, hgw, hlw, hx0, hfw] <;> rfl) ?_
         refine awp_cond (by first | rfl | (simp [go_sem, hgw, hlw, hx0, hfw] <;> rfl)) (fun h14 => ?_) (fun h14 => ?_)
         ·refine awp_reg ?_
          refine aL 3 (by simp [go_sem, hgw, hlw, hx0, hfw] <;> rfl) ?_
          refine al_splitT 65 (by first | rfl | (simp [go_sem, hgw, hlw, hx0, hfw] <;> rfl)) (fun h15 => ?_) (fun h15 => ?_)
          ·have hlk : d.kids.length = 3 := by have h := h15; simp at h; omega
           obtain ⟨x1, hx1, hx1m⟩ := get_lt (l := d.kids) (k := 1) (by omega)
           have hd1 : d1 d.kids = x1 := getD_of hx1
           have hxs := D.size_kid_lt hx1m
           refine aLG 3 65 true (by simp [go_sem, hgw, hlw, hx0, hfw, hx1] <;> rfl) ?_
           refine al_fnG 65 true true (by simp [go_sem]) rfl (by simp [go_sem]) rfl rfl (by simp [go_sem, hgw, hlw, hx0, hfw, hx1] <;> rfl) call212 ((c_isNames x1 (by omega) 3) _ (by exact hgl)) (by simp [go_sem, hgw, hlw, hx0, hfw, hx1] <;> rfl) (by simp [go_sem, hgw, hlw, hx0, hfw, hx1]) rfl rfl ?_
           refine aL 2 (by simp [go_sem, hgw, hlw, hx0, hfw, hx1] <;> rfl) ?_
           refine al_splitT 71 (by first | rfl | (simp [go_sem, hgw, hlw, hx0, hfw, hx1] <;> rfl)) (fun h16 => ?_) (fun h16 => ?_)
           ·refine aLG 6 71 true (by simp [go_sem, hgw, hlw, hx0, hfw, hx1] <;> rfl) ?_
            refine aL 2 (by simp [go_sem, hgw, hlw, hx0, hfw, hx1] <;> rfl) ?_
            refine al_nil ?_
            refine awp_seq (awp_seq (aR (by simp [go_sem, hgw, hlw, hx0, hfw, hx1] <;> rfl) ?_))
            refine awp_cond (by first | rfl | (simp [go_sem, hgw, hlw, hx0, hfw, hx1] <;> rfl)) (fun h17 => ?_) (fun h17 => ?_)
            ·have hq := h17
             first | rw [Bool.not_eq_true'] at hq | skip
             refine awp_seq (aR (by simp [go_sem, hgw, hlw, hx0, hfw, hx1] <;> rfl) ?_)
             refine awp_ret ?_
             refine then_ret ?_
             refine ends_ret (by simp [go_sem, hgw, hlw, hx0, hfw, hx1] <;> rfl) (by simp [go_sem]) ?_
             exact ⟨by simp only [synKind, fmOk, hgw, hlw, hx0, hfw, hx1, h0, h1, h3, hff, h4, h5, h7, h9, h11, h14, h15, hd1, h16, h17, hq, bA, bB, bC, bD, bE, bF, bG, bH, bI, bJ, Bool.false_eq_true, if_true, if_false]; simp [go_sem], by simp [go_sem]⟩
            ·have hq := h17
             first | rw [Bool.not_eq_false'] at hq | skip
             refine awp_skip ?_
             refine awp_seq (aR (by simp [go_sem, hgw, hlw, hx0, hfw, hx1] <;> rfl) ?_)
             refine awp_ret ?_
             refine ends_ret (by simp [go_sem, hgw, hlw, hx0, hfw, hx1] <;> rfl) (by simp [go_sem]) ?_
             exact ⟨by simp only [synKind, fmOk, hgw, hlw, hx0, hfw, hx1, h0, h1, h3, hff, h4, h5, h7, h9, h11, h14, h15, hd1, h16, h17, hq, bA, bB, bC, bD, bE, bF, bG, bH, bI, bJ, Bool.false_eq_true, if_true, if_false]; simp [go_sem], by simp [go_sem]⟩
           ·refine aK 6 71 true ?_
            refine aL 2 (by simp [go_sem, hgw, hlw, hx0, hfw, hx1] <;> rfl) ?_
            refine al_nil ?_
            refine awp_seq (awp_seq (aR (by simp [go_sem, hgw, hlw, hx0, hfw, hx1] <;> rfl) ?_))
            refine awp_cond (b := true) (by simp [go_sem, hgw, hlw, hx0, hfw, hx1, h0, h1, h3, hff, h4, h5, h7, h9, h11, h14, h15, hd1, h16]) (fun h => ?_) (fun h => ?_)
            rotate_left
            ·cases h
            refine awp_seq (aR (by simp [go_sem, hgw, hlw, hx0, hfw, hx1] <;> rfl) ?_)
            refine awp_ret ?_
            refine then_ret ?_
            refine ends_ret (by simp [go_sem, hgw, hlw, hx0, hfw, hx1] <;> rfl) (by simp [go_sem]) ?_
            exact ⟨by simp only [synKind, fmOk, hgw, hlw, hx0, hfw, hx1, h0, h1, h3, hff, h4, h5, h7, h9, h11, h14, h15, hd1, h16, bA, bB, bC, bD, bE, bF, bG, bH, bI, bJ, Bool.false_eq_true, if_true, if_false]; simp [go_sem], by simp [go_sem]⟩
          ·refine aK 4 65 true ?_
           refine aL 2 (by simp [go_sem, hgw, hlw, hx0, hfw] <;> rfl) ?_
           refine aK 6 71 true ?_
           refine aL 2 (by simp [go_sem, hgw, hlw, hx0, hfw] <;> rfl) ?_
           refine al_nil ?_
           refine awp_seq (awp_seq (aR (by simp [go_sem, hgw, hlw, hx0, hfw] <;> rfl) ?_))
           refine awp_cond (b := true) (by simp [go_sem, hgw, hlw, hx0, hfw, h0, h1, h3, hff, h4, h5, h7, h9, h11, h14, h15]) (fun h => ?_) (fun h => ?_)
           rotate_left
           ·cases h
           refine awp_seq (aR (by simp [go_sem, hgw, hlw, hx0, hfw] <;> rfl) ?_)
           refine awp_ret ?_
           refine then_ret ?_
           refine ends_ret (by simp [go_sem, hgw, hlw, hx0, hfw] <;> rfl) (by simp [go_sem]) ?_
           exact ⟨by simp only [synKind, fmOk, hgw, hlw, hx0, hfw, h0, h1, h3, hff, h4, h5, h7, h9, h11, h14, h15, bA, bB, bC, bD, bE, bF, bG, bH, bI, bJ, Bool.false_eq_true, if_true, if_false]; simp [go_sem], by simp [go_sem]⟩
         ·refine awp_seq ?_
          refine aR (by simp [go_sem, hgw, hlw, hx0, hfw] <;> rfl) ?_
          refine awp_cond (by first | rfl | (simp [go_sem, hgw, hlw, hx0, hfw] <;> rfl)) (fun h18 => ?_) (fun h18 => ?_)
          ·refine awp_reg ?_
           refine aL 3 (by simp [go_sem, hgw, hlw, hx0, hfw] <;> rfl) ?_
           refine al_splitT 83 (by first | rfl | (simp [go_sem, hgw, hlw, hx0, hfw] <;> rfl)) (fun h19 => ?_) (fun h19 => ?_)
           ·have hlk : d.kids.length = 4 := by have h := h19; simp at h; omega
            obtain ⟨x1, hx1, hx1m⟩ := get_lt (l := d.kids) (k := 1) (by omega)
            have hd1 : d1 d.kids = x1 := getD_of hx1
            have hxs := D.size_kid_lt hx1m
            refine aLG 3 83 true (by simp [go_sem, hgw, hlw, hx0, hfw, hx1] <;> rfl) ?_
            refine al_fnG 83 true true (by simp [go_sem]) rfl (by simp [go_sem]) rfl rfl (by simp [go_sem, hgw, hlw, hx0, hfw, hx1] <;> rfl) call213 ((c_sName x1) _ (by exact hgl)) (by simp [go_sem, hgw, hlw, hx0, hfw, hx1] <;> rfl) (by simp [go_sem, hgw, hlw, hx0, hfw, hx1]) rfl rfl ?_
            refine aL 2 (by simp [go_sem, hgw, hlw, hx0, hfw, hx1] <;> rfl) ?_
            refine al_nil ?_
            refine awp_seq (awp_seq (aR (by simp [go_sem, hgw, hlw, hx0, hfw, hx1] <;> rfl) ?_))
            refine awp_cond (by first | rfl | (simp [go_sem, hgw, hlw, hx0, hfw, hx1] <;> rfl)) (fun h20 => ?_) (fun h20 => ?_)
            ·have hq := h20
             first | rw [Bool.not_eq_true'] at hq | skip
             refine awp_seq (aR (by simp [go_sem, hgw, hlw, hx0, hfw, hx1] <;> rfl) ?_)
             refine awp_ret ?_
             refine then_ret ?_
             refine ends_ret (by simp [go_sem, hgw, hlw, hx0, hfw, hx1] <;> rfl) (by simp [go_sem]) ?_
             exact ⟨by simp only [synKind, fmOk, hgw, hlw, hx0, hfw, hx1, h0, h1, h3, hff, h4, h5, h7, h9, h11, h14, h18, h19, hd1, h20, hq, bA, bB, bC, bD, bE, bF, bG, bH, bI, bJ, Bool.false_eq_true, if_true, if_false]; simp [go_sem], by simp [go_sem]⟩
            ·have hq := h20
             first | rw [Bool.not_eq_false'] at hq | skip
             refine awp_skip ?_
             refine awp_seq (aR (by simp [go_sem, hgw, hlw, hx0, hfw, hx1] <;> rfl) ?_)
             refine awp_ret ?_
             refine ends_ret (by simp [go_sem, hgw, hlw, hx0, hfw, hx1] <;> rfl) (by simp [go_sem]) ?_
             exact ⟨by simp only [synKind, fmOk, hgw, hlw, hx0, hfw, hx1, h0, h1, h3, hff, h4, h5, h7, h9, h11, h14, h18, h19, hd1, h20, hq, bA, bB, bC, bD, bE, bF, bG, bH, bI, bJ, Bool.false_eq_true, if_true, if_false]; simp [go_sem], by simp [go_sem]⟩
           ·refine aK 4 83 true ?_
            refine aL 2 (by simp [go_sem, hgw, hlw, hx0, hfw] <;> rfl) ?_
            refine al_nil ?_
            refine awp_seq (awp_seq (aR (by simp [go_sem, hgw, hlw, hx0, hfw] <;> rfl) ?_))
            refine awp_cond (b := true) (by simp [go_sem, hgw, hlw, hx0, hfw, h0, h1, h3, hff, h4, h5, h7, h9, h11, h14, h18, h19]) (fun h => ?_) (fun h => ?_)
            rotate_left
            ·cases h
            refine awp_seq (aR (by simp [go_sem, hgw, hlw, hx0, hfw] <;> rfl) ?_)
            refine awp_ret ?_
            refine then_ret ?_
            refine ends_ret (by simp [go_sem, hgw, hlw, hx0, hfw] <;> rfl) (by simp [go_sem]) ?_
            exact ⟨by simp only [synKind, fmOk, hgw, hlw, hx0, hfw, h0, h1, h3, hff, h4, h5, h7, h9, h11, h14, h18, h19, bA, bB, bC, bD, bE, bF, bG, bH, bI, bJ, Bool.false_eq_true, if_true, if_false]; simp [go_sem], by simp [go_sem]⟩
          ·refine awp_seq ?_
           refine aR (by simp [go_sem, hgw, hlw, hx0, hfw] <;> rfl) ?_
           refine awp_cond (by first | rfl | (simp [go_sem, hgw, hlw, hx0, hfw] <;> rfl)) (fun h21 => ?_) (fun h21 => ?_)
           ·refine aR (by simp [go_sem, hgw, hlw, hx0, hfw] <;> rfl) ?_
            refine awp_seq (awp_seq (aR (by simp [go_sem, hgw, hlw, hx0, hfw] <;> rfl) ?_))
            refine awp_cond (by first | rfl | (simp [go_sem, hgw, hlw, hx0, hfw] <;> rfl)) (fun h22 => ?_) (fun h22 => ?_)
            ·have hq := h22
             first | rw [Bool.not_eq_true'] at hq | skip
             refine awp_seq (aR (by simp [go_sem, hgw, hlw, hx0, hfw] <;> rfl) ?_)
             refine awp_ret ?_
             refine then_ret ?_
             refine ends_ret (by simp [go_sem, hgw, hlw, hx0, hfw] <;> rfl) (by simp [go_sem]) ?_
             exact ⟨by simp only [synKind, fmOk, hgw, hlw, hx0, hfw, h0, h1, h3, hff, h4, h5, h7, h9, h11, h14, h18, h21, h22, hq, bA, bB, bC, bD, bE, bF, bG, bH, bI, bJ, Bool.false_eq_true, if_true, if_false]; simp [go_sem], by simp [go_sem]⟩
            ·have hq := h22
             first | rw [Bool.not_eq_false'] at hq | skip
             refine awp_skip ?_
             refine awp_seq (aR (by simp [go_sem, hgw, hlw, hx0, hfw] <;> rfl) ?_)
             refine awp_ret ?_
             refine ends_ret (by simp [go_sem, hgw, hlw, hx0, hfw] <;> rfl) (by simp [go_sem]) ?_
             exact ⟨by simp only [synKind, fmOk, hgw, hlw, hx0, hfw, h0, h1, h3, hff, h4, h5, h7, h9, h11, h14, h18, h21, h22, hq, bA, bB, bC, bD, bE, bF, bG, bH, bI, bJ, Bool.false_eq_true, if_true, if_false]; simp [go_sem], by simp [go_sem]⟩
           ·refine awp_seq ?_
            refine aR (by simp [go_sem, hgw, hlw, hx0, hfw] <;> rfl) ?_
            refine awp_cond (by first | rfl | (simp [go_sem, hgw, hlw, hx0, hfw] <;> rfl)) (fun h23 => ?_) (fun h23 => ?_)
            ·refine awp_reg ?_
             refine aL 3 (by simp [go_sem, hgw, hlw, hx0, hfw] <;> rfl) ?_
             refine al_splitT 97 (by first | rfl | (simp [go_sem, hgw, hlw, hx0, hfw] <;> rfl)) (fun h24 => ?_) (fun h24 => ?_)
             ·have hlk : d.kids.length = 3 := by have h := h24; simp at h; omega
              obtain ⟨x1, hx1, hx1m⟩ := get_lt (l := d.kids) (k := 1) (by omega)
              have hd1 : d1 d.kids = x1 := getD_of hx1
              have hxs := D.size_kid_lt hx1m
              refine aLG 3 97 true (by simp [go_sem, hgw, hlw, hx0, hfw, hx1] <;> rfl) ?_
              refine al_fnG 97 true true (by simp [go_sem]) rfl (by simp [go_sem]) rfl rfl (by simp [go_sem, hgw, hlw, hx0, hfw, hx1] <;> rfl) call214 ((c_isGroup x1 (by omega)) _ (by exact hgl)) (by simp [go_sem, hgw, hlw, hx0, hfw, hx1] <;> rfl) (by simp [go_sem, hgw, hlw, hx0, hfw, hx1]) rfl rfl ?_
              refine aL 2 (by simp [go_sem, hgw, hlw, hx0, hfw, hx1] <;> rfl) ?_
              refine al_nil ?_
              refine awp_seq (awp_seq (aR (by simp [go_sem, hgw, hlw, hx0, hfw, hx1] <;> rfl) ?_))
              refine awp_cond (by first | rfl | (simp [go_sem, hgw, hlw, hx0, hfw, hx1] <;> rfl)) (fun h25 => ?_) (fun h25 => ?_)
              ·have hq := h25
               first | rw [Bool.not_eq_true'] at hq | skip
               refine awp_seq (aR (by simp [go_sem, hgw, hlw, hx0, hfw, hx1] <;> rfl) ?_)
               refine awp_ret ?_
               refine then_ret ?_
               refine ends_ret (by simp [go_sem, hgw, hlw, hx0, hfw, hx1] <;> rfl) (by simp [go_sem]) ?_
               exact ⟨by simp only [synKind, fmOk, hgw, hlw, hx0, hfw, hx1, h0, h1, h3, hff, h4, h5, h7, h9, h11, h14, h18, h21, h23, h24, hd1, h25, hq, bA, bB, bC, bD, bE, bF, bG, bH, bI, bJ, Bool.false_eq_true, if_true, if_false]; simp [go_sem], by simp [go_sem]⟩
              ·have hq := h25
               first | rw [Bool.not_eq_false'] at hq | skip
               refine awp_skip ?_
               refine awp_seq (aR (by simp [go_sem, hgw, hlw, hx0, hfw, hx1] <;> rfl) ?_)
               refine awp_ret ?_
               refine ends_ret (by simp [go_sem, hgw, hlw, hx0, hfw, hx1] <;> rfl) (by simp [go_sem]) ?_
               exact ⟨by simp only [synKind, fmOk, hgw, hlw, hx0, hfw, hx1, h0, h1, h3, hff, h4, h5, h7, h9, h11, h14, h18, h21, h23, h24, hd1, h25, hq, bA, bB, bC, bD, bE, bF, bG, bH, bI, bJ, Bool.false_eq_true, if_true, if_false]; simp [go_sem], by simp [go_sem]⟩
             ·refine aK 4 97 true ?_
              refine aL 2 (by simp [go_sem, hgw, hlw, hx0, hfw] <;> rfl) ?_
              refine al_nil ?_
              refine awp_seq (awp_seq (aR (by simp [go_sem, hgw, hlw, hx0, hfw] <;> rfl) ?_))
              refine awp_cond (b := true) (by simp [go_sem, hgw, hlw, hx0, hfw, h0, h1, h3, hff, h4, h5, h7, h9, h11, h14, h18, h21, h23, h24]) (fun h => ?_) (fun h => ?_)
              rotate_left
              ·cases h
              refine awp_seq (aR (by simp [go_sem, hgw, hlw, hx0, hfw] <;> rfl) ?_)
              refine awp_ret ?_
              refine then_ret ?_
              refine ends_ret (by simp [go_sem, hgw, hlw, hx0, hfw] <;> rfl) (by simp [go_sem]) ?_
              exact ⟨by simp only [synKind, fmOk, hgw, hlw, hx0, hfw, h0, h1, h3, hff, h4, h5, h7, h9, h11, h14, h18, h21, h23, h24, bA, bB, bC, bD, bE, bF, bG, bH, bI, bJ, Bool.false_eq_true, if_true, if_false]; simp [go_sem], by simp [go_sem]⟩
            ·refine awp_skip ?_
             refine awp_seq (awp_seq (aR (by simp [go_sem, hgw, hlw, hx0, hfw] <;> rfl) ?_))
             refine awp_cond (b := true) (by simp [go_sem, hgw, hlw, hx0, hfw, h0, h1, h3, hff, h4, h5, h7, h9, h11, h14, h18, h21, h23]) (fun h => ?_) (fun h => ?_)
             rotate_left
             ·cases h
             refine awp_seq (aR (by simp [go_sem, hgw, hlw, hx0, hfw] <;> rfl) ?_)
             refine awp_ret ?_
             refine then_ret ?_
             refine ends_ret (by simp [go_sem, hgw, hlw, hx0, hfw] <;> rfl) (by simp [go_sem]) ?_
             exact ⟨by simp only [synKind, fmOk, hgw, hlw, hx0, hfw, h0, h1, h3, hff, h4, h5, h7, h9, h11, h14, h18, h21, h23, bA, bB, bC, bD, bE, bF, bG, bH, bI, bJ, Bool.false_eq_true, if_true, if_false]; simp [go_sem], by simp [go_sem]⟩
    ·have hf0 : f = 0 := by rw [hf]; unfold headN; rw [hh, if_neg (by rw [h4]; decide)]
     subst hf0
     refine awp_skip ?_
     refine awp_seq (aR (by simp [go_sem, hgw, hlw, hx0] <;> rfl) ?_)
     refine awp_seq (awp_seq (aR (by simp [go_sem, hgw, hlw, hx0] <;> rfl) ?_))
     refine awp_block ?_
     refine awp_seq (aR (by simp [go_sem, hgw, hlw, hx0] <;> rfl) ?_)
     refine awp_cond (by first | rfl | (simp [go_sem, hgw, hlw, hx0] <;> rfl)) (fun h26 => ?_) (fun h26 => ?_)
     ·refine aR (by simp [go_sem, hgw, hlw, hx0] <;> rfl) ?_
      refine awp_seq (awp_seq (aR (by simp [go_sem, hgw, hlw, hx0] <;> rfl) ?_))
      refine awp_cond (by first | rfl | (simp [go_sem, hgw, hlw, hx0] <;> rfl)) (fun h27 => ?_) (fun h27 => ?_)
      ·have hq := h27
       first | rw [Bool.not_eq_true'] at hq | skip
       refine awp_seq (aR (by simp [go_sem, hgw, hlw, hx0] <;> rfl) ?_)
       refine awp_ret ?_
       refine then_ret ?_
       refine ends_ret (by simp [go_sem, hgw, hlw, hx0] <;> rfl) (by simp [go_sem]) ?_
       exact ⟨by simp only [synKind, fmOk, hgw, hlw, hx0, h0, h1, h3, hff, h4, h26, h27, hq, bA, bB, bC, bD, bE, bF, bG, bH, bI, bJ, Bool.false_eq_true, if_true, if_false]; simp [go_sem], by simp [go_sem]⟩
      ·have hq := h27
       first | rw [Bool.not_eq_false'] at hq | skip
       refine awp_skip ?_
       refine awp_seq (aR (by simp [go_sem, hgw, hlw, hx0] <;> rfl) ?_)
       refine awp_ret ?_
       refine ends_ret (by simp [go_sem, hgw, hlw, hx0] <;> rfl) (by simp [go_sem]) ?_
       exact ⟨by simp only [synKind, fmOk, hgw, hlw, hx0, h0, h1, h3, hff, h4, h26, h27, hq, bA, bB, bC, bD, bE, bF, bG, bH, bI, bJ, Bool.false_eq_true, if_true, if_false]; simp [go_sem], by simp [go_sem]⟩
     ·first | (cases h26; done) | (simp at h26; done)

end Go.Proofs.YtnibcmaaehkhlaaGreatDoor

namespace Go.Proofs.YtnibcmaaehkhlaaGreatDoor
open Go Go.Aw
variable {kr : KR}
def renG : Go.Shelf.Ren := ⟨fun x => match x with | 4 => 216 | n => n, fun x => match x with | 0 => 0 | 3 => 3 | 4 => 4 | 9 => 9 | 20 => 20 | 22 => 32 | 25 => 3 | n => n, fun x => match x with | n => n⟩
theorem laysG : Go.Proofs.Lays8.n4 Tryz.prog renG :=
  {
    mixed := by kernel_rfl,
    f4 := ⟨Tryz.f216.name, by kernel_rfl, Eq.trans Tryz.func216 (congrArg some (by kernel_rfl))⟩,
    t0 := Tryz.underlying0,
    a0 := Tryz.isAgg0,
    z0 := Tryz.sizeOf0,
    v0 := Tryz.zeroValue0,
    t3 := Tryz.underlying3,
    a3 := Tryz.isAgg3,
    z3 := Tryz.sizeOf3,
    v3 := Tryz.zeroValue3,
    t4 := Tryz.underlying4,
    a4 := Tryz.isAgg4,
    z4 := Tryz.sizeOf4,
    v4 := Tryz.zeroValue4,
    t9 := Tryz.underlying9,
    a9 := Tryz.isAgg9,
    z9 := Tryz.sizeOf9,
    v9 := Tryz.zeroValue9,
    t20 := Tryz.underlying20,
    a20 := Tryz.isAgg20,
    z20 := Tryz.sizeOf20,
    v20 := Tryz.zeroValue20,
    t22 := Tryz.underlying32,
    a22 := Tryz.isAgg32,
    z22 := Tryz.sizeOf32,
    v22 := Tryz.zeroValue32 }
theorem c_Grow (n : Nat) (hn : n ≤ 1000000000) (σ : Store) : ACalls Tryz.prog 216 [.pv .nils, .pv (.int .i64 n)] σ fun r σ' => r = .acc [] σ.toks.length ∧ σ' = { σ with toks := σ.toks ++ [⟨0, 3, 1⟩] } := by
  refine acalls_grow (e := 3) (fun w => Go.Proofs.Any8.slices_Grow_room laysG none 0 0 0 w (by decide) (by decide) (by decide) (by decide)) (fun n w h0 h1 => ?_) n hn σ
  obtain ⟨i, z, k1, k2, k3, k4, k5, k6, k7⟩ := (tyOk _ _ ty3).info
  have hz1 : z.cells.size = 1 := k6
  refine (Go.Proofs.Any8.slices_Grow_grow laysG i z k1 k4 (by rw [k2]; decide) none 0 0 n [] w (by omega) (by omega) (by rw [k3]; show (0 + n) * 8 ≤ _; omega) (by omega) (by simp) (fun _ => rfl) (fun a h => by cases h)).mono ?_
  rintro r w' ⟨rfl, rfl⟩
  have hge := grownCap_ge w (0 + n) 0 3
  have hcm : grownCap w (0 + n) 0 3 ≤ maxLen := grownCap_le_maxLen w _ 0 3 (by simp only [maxLen]; omega)
  refine ⟨_, _, rfl, rfl, ?_, hcm⟩
  simp only [Array.size_append, size_zeroCells, hz1, List.size_toArray, List.length_nil]
  show 0 + (0 + n - 0) * 1 + (grownCap w (0 + n) 0 3 - (0 + n)) * 1 = grownCap w (0 + n) 0 3
  omega

def ipv (p : List Int) : List PV := p.map (.int .i64)
theorem ipv_len (p : List Int) : (ipv p).length = p.length := by simp [ipv]
@[go_sem] theorem allSz_ipv (p : List Int) : allSz 1 (ipv p) = true := by
  unfold allSz ipv
  rw [List.all_map]
  exact List.all_eq_true.2 fun _ _ => rfl
theorem ipv_nil : ipv [] = [] := rfl
theorem ipv_app (p q : List Int) : ipv (p ++ q) = ipv p ++ ipv q := by simp [ipv]

set_option maxHeartbeats 1000000 in
theorem c_Texts (l : List D) (hl : l.length ≤ 1000000000) : Pur Tryz.prog (GL kr) 165 [.pv (.slice (l.map enc))] (.pv (.slice ((l.map D.text).map .str))) := by
 refine pur_of fun σ hgl => ?_
 refine acalls_of tyOk Tryz.func165 rfl (by simp [Tryz.f165]) ?_
 refine awp_seq (aR (by simp [go_sem] <;> rfl) ?_)
 refine awp_seq (aR (by simp [go_sem] <;> rfl) ?_)
 refine awp_seq (awp_seq (aR (by simp [go_sem] <;> rfl) ?_))
 refine awp_adopt' 3 9 1 (by simp [go_sem] <;> rfl) ?_
 refine awp_block ?_
 refine awp_loop_headK σ.objs.length (σ.toks.length + 1) 0 [2, 6, 7] (fun k : Nat => [(3, .acc ((l.map (PV.str ∘ D.text)).take k) σ.toks.length), (8, .pv (.int .i64 ↑k))]) (fun k => { σ with toks := σ.toks ++ [⟨k, 9, 1⟩] }) (fun k => k ≤ l.length) (fun k => l.length - k) 0 (Nat.zero_le _) ⟨by simp [go_sem], rfl, by simp, by simp, by simp [go_sem], fun ob h => .inl (by simpa [go_sem] using h), by simp [go_sem]⟩ ?_
 intro k hk
 refine awp_seq (aR (by simp [go_sem] <;> rfl) ?_)
 refine awp_seq (awp_cond (by first | rfl | (simp [go_sem] <;> rfl)) (fun h0 => ?_) (fun h0 => ?_))
 ·have hlt : k < l.length := by simp at h0; omega
  have hw : IntKind.i64.wrap (↑k + 1) = (k : Int) + 1 := wrap_succ (by omega)
  obtain ⟨x, hx, hxm⟩ := get_lt hlt
  have ht : (l.map (PV.str ∘ D.text)).take (k + 1) = (l.map (PV.str ∘ D.text)).take k ++ [.str x.text] := take_next (by simp [hx])
  have hm : min k l.length = k := by omega
  have hb2 : (k + 1) * 16 ≤ 140737488355328 := by omega
  refine awp_skip ?_
  refine awp_seq (awp_block ?_)
  refine awp_seq (aR (by simp [go_sem, hx, hm, hb2] <;> rfl) ?_)
  refine aR (by simp [go_sem, hx, hm, hb2] <;> rfl) ?_
  refine aR (by simp [go_sem, hx, hm, hb2] <;> rfl) ?_
  exact next_intro (k + 1) σ.objs.length (σ.toks.length + 1) 0 (hlt) (by omega) ⟨by simp [go_sem, hx, hm, hb2, hw, ht], rfl, by simp, by simp, by simp [go_sem, hx, hm, hb2, hw, ht], fun ob h => .inl (by simpa [go_sem, hx, hm, hb2, hw, ht] using h), by simp [go_sem]⟩
 ·have hke : k = l.length := by simp at h0; omega
  subst hke
  refine awp_exit ?_
  refine then_exit ?_
  refine then_exit ?_
  refine inBlock_hit ?_
  refine awp_seq (aR (by simp [go_sem] <;> rfl) ?_)
  refine awp_ret ?_
  refine ends_ret (by simp [go_sem] <;> rfl) (by simp [go_sem]) ?_
  exact ⟨by simp [go_sem], by simp [go_sem]⟩

set_option maxHeartbeats 1000000 in
theorem c_Own (d : D) (hd : d.size ≤ 1000000000) : Pur Tryz.prog (GL kr) 104 [.pv (enc d)] (.pv (.slice ((ownS d).map .str))) := by
 have hkl := D.kids_length_lt d
 have h5l := syn_len d
 refine pur_of fun σ hgl => ?_
 refine acalls_of tyOk Tryz.func104 rfl (by simp [Tryz.f104]) ?_
 refine awp_seq (aR (by simp [go_sem] <;> rfl) ?_)
 refine awp_seq (awp_seq (awp_reg ?_))
 refine aL 1 (by simp [go_sem] <;> rfl) ?_
 refine aF call138 ((c_Kind d hd) _ (by exact hgl)) (by simp [go_sem] <;> rfl) (by simp [go_sem]) ?_
 refine al_nil ?_
 refine awp_block ?_
 refine awp_seq (awp_seq (aR (by simp [go_sem] <;> rfl) ?_))
 refine awp_cond (by first | rfl | (simp [go_sem] <;> rfl)) (fun h0 => ?_) (fun h0 => ?_)
 ·have hlen := h5l.1 (by first | exact .inl (by simpa using h0) | exact .inr (.inl (by simpa using h0)))
  obtain ⟨x1, hx1, hx1m⟩ := get_lt (l := d.kids) (k := 1) (by omega)
  have hd1 : d1 d.kids = x1 := getD_of hx1
  have hxs := D.size_kid_lt hx1m
  have hxl := D.kids_length_lt x1
  refine awp_skip ?_
  refine awp_cond (b := true) (by simp [go_sem, hx1, h0, hd1]) (fun h => ?_) (fun h => ?_)
  rotate_left
  ·cases h
  refine awp_seq (awp_reg ?_)
  refine aL 5 (by simp [go_sem, hx1] <;> rfl) ?_
  refine aF call165 ((c_Texts x1.kids (by omega)) _ (by exact hgl)) (by simp [go_sem, hx1] <;> rfl) (by simp [go_sem, hx1]) ?_
  refine aL 1 (by simp [go_sem, hx1] <;> rfl) ?_
  refine al_nil ?_
  refine awp_ret ?_
  refine inBlock_ret ?_
  refine then_ret ?_
  refine ends_ret (by simp [go_sem, hx1] <;> rfl) (by simp [go_sem]) ?_
  exact ⟨by simp only [ownS, hx1, h0, hd1, bA, bB, bC, bD, bE, bF, bG, bH, bI, bJ, Bool.false_eq_true, if_true, if_false]; simp [go_sem], by simp [go_sem]⟩
 ·refine aR (by simp [go_sem] <;> rfl) ?_
  refine awp_cond (by first | rfl | (simp [go_sem] <;> rfl)) (fun h1 => ?_) (fun h1 => ?_)
  ·have hlen := h5l.1 (by first | exact .inl (by simpa using h1) | exact .inr (.inl (by simpa using h1)))
   obtain ⟨x1, hx1, hx1m⟩ := get_lt (l := d.kids) (k := 1) (by omega)
   have hd1 : d1 d.kids = x1 := getD_of hx1
   have hxs := D.size_kid_lt hx1m
   have hxl := D.kids_length_lt x1
   refine awp_seq (awp_reg ?_)
   refine aL 5 (by simp [go_sem, hx1] <;> rfl) ?_
   refine aF call165 ((c_Texts x1.kids (by omega)) _ (by exact hgl)) (by simp [go_sem, hx1] <;> rfl) (by simp [go_sem, hx1]) ?_
   refine aL 1 (by simp [go_sem, hx1] <;> rfl) ?_
   refine al_nil ?_
   refine awp_ret ?_
   refine inBlock_ret ?_
   refine then_ret ?_
   refine ends_ret (by simp [go_sem, hx1] <;> rfl) (by simp [go_sem]) ?_
   exact ⟨by simp only [ownS, hx1, h0, h1, hd1, bA, bB, bC, bD, bE, bF, bG, bH, bI, bJ, Bool.false_eq_true, if_true, if_false]; simp [go_sem], by simp [go_sem]⟩
  ·refine awp_seq ?_
   refine aR (by simp [go_sem] <;> rfl) ?_
   refine awp_cond (by first | rfl | (simp [go_sem] <;> rfl)) (fun h2 => ?_) (fun h2 => ?_)
   ·have hlen := h5l.2.1 (by simpa using h2)
    obtain ⟨x1, hx1, hx1m⟩ := get_lt (l := d.kids) (k := 1) (by omega)
    have hd1 : d1 d.kids = x1 := getD_of hx1
    have hxs := D.size_kid_lt hx1m
    have hxl := D.kids_length_lt x1
    have hT : (List.take 2 (List.map enc d.kids)).tail = [enc x1] := take_two hx1
    have h2i : (2 : Int) ≤ d.kids.length := by omega
    refine awp_seq (awp_reg ?_)
    refine aL 3 (by simp [go_sem, hx1, hT, h2i] <;> rfl) ?_
    refine aF call165 ((c_Texts [x1] (by simp)) _ (by exact hgl)) (by simp [go_sem, hx1, hT, h2i] <;> rfl) (by simp [go_sem, hx1, hT, h2i]) ?_
    refine aL 1 (by simp [go_sem, hx1, hT, h2i] <;> rfl) ?_
    refine al_nil ?_
    refine awp_ret ?_
    refine inBlock_ret ?_
    refine then_ret ?_
    refine ends_ret (by simp [go_sem, hx1, hT, h2i] <;> rfl) (by simp [go_sem]) ?_
    exact ⟨by simp only [ownS, hx1, hT, h2i, h0, h1, h2, hd1, bA, bB, bC, bD, bE, bF, bG, bH, bI, bJ, Bool.false_eq_true, if_true, if_false]; simp [go_sem], by simp [go_sem]⟩
   ·refine awp_seq ?_
    refine aR (by simp [go_sem] <;> rfl) ?_
    refine awp_cond (by first | rfl | (simp [go_sem] <;> rfl)) (fun h3 => ?_) (fun h3 => ?_)
    ·have hlen := h5l.1 (.inr (.inr (by simpa using h3)))
     obtain ⟨x1, hx1, hx1m⟩ := get_lt (l := d.kids) (k := 1) (by omega)
     have hd1 : d1 d.kids = x1 := getD_of hx1
     have hxs := D.size_kid_lt hx1m
     have hxl := D.kids_length_lt x1
     have hk3 := h5l.2.2 (by simpa using h3)
     rw [hd1] at hk3
     refine awp_seq (aR (by simp [go_sem, hx1] <;> rfl) ?_)
     refine awp_seq (awp_seq (aR (by simp [go_sem, hx1] <;> rfl) ?_))
     refine awp_adopt' 3 24 4 (by simp [go_sem] <;> rfl) ?_
     refine awp_block ?_
     refine awp_loop_headK σ.objs.length (σ.toks.length + 1) 1 [2, 29, 30] (fun k : Nat => [(3, .acc ((x1.kids.map (enc ∘ D.head)).take k) σ.toks.length), (31, .pv (.int .i64 ↑k))]) (fun k => { σ with toks := σ.toks ++ [⟨k, 24, 4⟩] }) (fun k => k ≤ x1.kids.length) (fun k => x1.kids.length - k) 0 (Nat.zero_le _) ⟨by simp [go_sem, hx1], rfl, by simp, by simp, by simp [go_sem, hx1], fun ob h => .inl (by simpa [go_sem, hx1] using h), by simp [go_sem]⟩ ?_
     intro k hk
     refine awp_seq (aR (by simp [go_sem, hx1] <;> rfl) ?_)
     refine awp_seq (awp_cond (by first | rfl | (simp [go_sem, hx1] <;> rfl)) (fun h4 => ?_) (fun h4 => ?_))
     ·have hlt : k < x1.kids.length := by simp at h4; omega
      have hw : IntKind.i64.wrap (↑k + 1) = (k : Int) + 1 := wrap_succ (by omega)
      obtain ⟨x, hx, hxm⟩ := get_lt hlt
      obtain ⟨y0, hy0, hy0m⟩ := get_lt (l := x.kids) (k := 0) (by rw [hk3 x hxm]; decide)
      have hh0 : x.head = y0 := head_get hy0
      have ht : (x1.kids.map (enc ∘ D.head)).take (k + 1) = (x1.kids.map (enc ∘ D.head)).take k ++ [enc x.head] := take_next (by simp [hx])
      have hm : min k x1.kids.length = k := by omega
      have hb2 : (k + 1) * 56 ≤ 140737488355328 := by omega
      refine awp_skip ?_
      refine awp_seq (awp_block ?_)
      refine awp_seq (aR (by simp [go_sem, hx1, hx, hy0, hm, hb2] <;> rfl) ?_)
      refine aR (by simp [go_sem, hx1, hx, hy0, hm, hb2] <;> rfl) ?_
      refine aR (by simp [go_sem, hx1, hx, hy0, hm, hb2] <;> rfl) ?_
      exact next_intro (k + 1) σ.objs.length (σ.toks.length + 1) 1 (hlt) (by omega) ⟨by simp [go_sem, hx1, hx, hy0, hm, hb2, hw, ht, hh0], rfl, by simp, by simp, by simp [go_sem, hx1, hx, hy0, hm, hb2, hw, ht, hh0], fun ob h => .inl (by simpa [go_sem, hx1, hx, hy0, hm, hb2, hw, ht, hh0] using h), by simp [go_sem]⟩
     ·have hke : k = x1.kids.length := by simp at h4; omega
      subst hke
      refine awp_exit ?_
      refine then_exit ?_
      refine then_exit ?_
      refine inBlock_hit ?_
      refine awp_seq (awp_reg ?_)
      refine aL 1 (by simp [go_sem, hx1] <;> rfl) ?_
      refine aF call165 ((c_Texts (x1.kids.map D.head) (by rw [List.length_map]; omega)) _ (by exact hgl)) (by simp [go_sem, hx1] <;> rfl) (by simp [go_sem, hx1]) ?_
      refine aL 1 (by simp [go_sem, hx1] <;> rfl) ?_
      refine al_nil ?_
      refine awp_ret ?_
      refine inBlock_ret ?_
      refine then_ret ?_
      refine ends_ret (by simp [go_sem, hx1] <;> rfl) (by simp [go_sem]) ?_
      exact ⟨by simp only [ownS, hx1, h0, h1, h2, h3, hd1, bA, bB, bC, bD, bE, bF, bG, bH, bI, bJ, Bool.false_eq_true, if_true, if_false]; simp [go_sem], by simp [go_sem]⟩
    ·refine awp_skip ?_
     refine awp_seq (aR (by simp [go_sem] <;> rfl) ?_)
     refine awp_ret ?_
     refine ends_ret (by simp [go_sem] <;> rfl) (by simp [go_sem]) ?_
     exact ⟨by simp only [ownS, h0, h1, h2, h3, bA, bB, bC, bD, bE, bF, bG, bH, bI, bJ, Bool.false_eq_true, if_true, if_false]; simp [go_sem], by simp [go_sem]⟩

set_option maxHeartbeats 1000000 in
theorem c_Concat (ls : List (List Int)) (hl : ls.length ≤ 1000000) (hs : (ls.map List.length).sum ≤ 1000000000) : Pur Tryz.prog (GL kr) 140 [.pv (.slice (ls.map fun p => .slice (ipv p)))] (.pv (.slice (ipv ls.flatten))) := by
 have hs0 : ((ls.map List.length).take 0).sum = 0 := rfl
 have hsa : ((ls.map List.length).take ls.length).sum = (ls.map List.length).sum := by rw [List.take_of_length_le (by simp)]
 have hf0 : ipv (ls.take 0).flatten = [] := rfl
 have hfa : ipv (ls.take ls.length).flatten = ipv ls.flatten := by rw [List.take_length]
 have hsk := fun k => sum_take_le ls k
 have hflat := fun k => flatten_len ls k
 refine pur_of fun σ hgl => ?_
 refine acalls_of tyOk Tryz.func140 rfl (by simp [Tryz.f140]) ?_
 refine awp_seq (aR (by simp [go_sem] <;> rfl) ?_)
 refine awp_seq (aR (by simp [go_sem] <;> rfl) ?_)
 refine awp_seq (awp_seq (aR (by simp [go_sem] <;> rfl) ?_))
 refine awp_block ?_
 refine awp_loop_headK σ.objs.length σ.toks.length 0 [0, 2, 9, 10] (fun k : Nat => [(3, .pv (.int .i64 (((((ls.map List.length).take k).sum : Nat) : Nat) : Int))), (11, .pv (.int .i64 ↑k))]) (fun k => σ) (fun k => k ≤ ls.length) (fun k => ls.length - k) 0 (Nat.zero_le _) ⟨by simp [go_sem, hs0], rfl, by simp, by simp, by simp [go_sem, hs0], fun ob h => .inl (by simpa [go_sem, hs0] using h), by simp [go_sem]⟩ ?_
 intro k hk
 refine awp_seq (aR (by simp [go_sem] <;> rfl) ?_)
 refine awp_seq (awp_cond (by first | rfl | (simp [go_sem] <;> rfl)) (fun h0 => ?_) (fun h0 => ?_))
 ·have hlt : k < ls.length := by simp at h0; omega
  have hw : IntKind.i64.wrap (↑k + 1) = (k : Int) + 1 := wrap_succ (by omega)
  obtain ⟨x, hx, hxm⟩ := get_lt hlt
  have hnx := sum_take_next hx
  have hkk := hsk (k + 1)
  have hadd : IntKind.i64.wrap ((((((ls.map List.length).take k).sum : Nat) : Nat) : Int) + (x.length : Int)) = ((((ls.map List.length).take (k + 1)).sum : Nat) : Int) := by rw [wrap_id (by omega) (by omega)]; omega
  refine awp_skip ?_
  refine awp_seq (awp_block ?_)
  refine awp_seq (aR (by simp [go_sem, hx, ipv_len, hadd] <;> rfl) ?_)
  refine awp_seq (aR (by simp [go_sem, hx, ipv_len, hadd] <;> rfl) ?_)
  refine awp_seq (aR (by simp [go_sem, hx, ipv_len, hadd] <;> rfl) ?_)
  refine awp_cond (by first | rfl | (simp [go_sem, hx, ipv_len, hadd] <;> rfl)) (fun h1 => ?_) (fun h1 => ?_)
  ·exfalso; have h := h1; simp at h; omega
  ·refine awp_skip ?_
   refine aR (by simp [go_sem, hx, ipv_len, hadd] <;> rfl) ?_
   exact next_intro (k + 1) σ.objs.length σ.toks.length 0 (hlt) (by omega) ⟨by simp [go_sem, hx, ipv_len, hadd, hw], rfl, by simp, by simp, by simp [go_sem, hx, ipv_len, hadd, hw], fun ob h => .inl (by simpa [go_sem, hx, ipv_len, hadd, hw] using h), by simp [go_sem]⟩
 ·have hke : k = ls.length := by simp at h0; omega
  subst hke
  refine awp_exit ?_
  refine then_exit ?_
  refine then_exit ?_
  refine inBlock_hit ?_
  refine awp_seq (awp_reg ?_)
  refine aL 1 (by simp [go_sem, hsa] <;> rfl) ?_
  refine al_callW rfl rfl rfl (by simp [go_sem, hsa] <;> rfl) call216 (c_Grow ((ls.map List.length).sum) (by omega) σ) (by simp [go_sem, hsa] <;> rfl) (by simp [go_sem, hsa]) rfl rfl ?_
  rintro r σ' ⟨rfl, rfl⟩
  refine aL 1 (by simp [go_sem, hsa] <;> rfl) ?_
  refine al_nil ?_
  refine awp_seq (awp_seq (aR (by simp [go_sem, hsa] <;> rfl) ?_))
  refine awp_block ?_
  refine awp_loop_headK σ.objs.length (σ.toks.length + 1) 0 [2, 25, 26] (fun k : Nat => [(6, .acc (ipv (ls.take k).flatten) σ.toks.length), (27, .pv (.int .i64 ↑k))]) (fun k => { σ with toks := σ.toks ++ [⟨(ipv (ls.take k).flatten).length, 3, 1⟩] }) (fun k => k ≤ ls.length) (fun k => ls.length - k) 0 (Nat.zero_le _) ⟨by simp [go_sem, hsa, hf0, ipv_len, ipv_nil], rfl, by simp, by simp, by simp [go_sem, hsa, hf0, ipv_len, ipv_nil], fun ob h => .inl (by simpa [go_sem, hsa, hf0, ipv_len, ipv_nil] using h), by simp [go_sem]⟩ ?_
  intro k hk
  refine awp_seq (aR (by simp [go_sem, hsa] <;> rfl) ?_)
  refine awp_seq (awp_cond (by first | rfl | (simp [go_sem, hsa] <;> rfl)) (fun h2 => ?_) (fun h2 => ?_))
  ·have hlt : k < ls.length := by simp at h2; omega
   have hw : IntKind.i64.wrap (↑k + 1) = (k : Int) + 1 := wrap_succ (by omega)
   obtain ⟨x, hx, hxm⟩ := get_lt hlt
   have hnx := flat_take_next hx
   have hkk := hsk (k + 1)
   have hk2 := hflat (k + 1)
   have hk1 := hflat k
   have hsn := sum_take_next hx
   have hb2 : ((ipv (ls.take k).flatten).length + (ipv x).length) * 8 ≤ 140737488355328 := by rw [ipv_len, ipv_len]; omega
   refine awp_skip ?_
   refine awp_seq (awp_block ?_)
   refine awp_seq (aR (by simp [go_sem, hsa, hx, hb2] <;> rfl) ?_)
   refine aR (by simp [go_sem, hsa, hx, hb2] <;> rfl) ?_
   refine aR (by simp [go_sem, hsa, hx, hb2] <;> rfl) ?_
   exact next_intro (k + 1) σ.objs.length (σ.toks.length + 1) 0 (hlt) (by omega) ⟨by simp [go_sem, hsa, hx, hb2, hw, hnx, ipv_app, ipv_len], rfl, by simp, by simp, by simp [go_sem, hsa, hx, hb2, hw, hnx, ipv_app, ipv_len], fun ob h => .inl (by simpa [go_sem, hsa, hx, hb2, hw, hnx, ipv_app, ipv_len] using h), by simp [go_sem]⟩
  ·have hke : k = ls.length := by simp at h2; omega
   subst hke
   refine awp_exit ?_
   refine then_exit ?_
   refine then_exit ?_
   refine inBlock_hit ?_
   refine awp_seq (aR (by simp [go_sem, hsa, hfa] <;> rfl) ?_)
   refine awp_ret ?_
   refine ends_ret (by simp [go_sem, hsa, hfa] <;> rfl) (by simp [go_sem]) ?_
   exact ⟨by simp [go_sem, hsa, hfa], by simp [go_sem]⟩

end Go.Proofs.YtnibcmaaehkhlaaGreatDoor
