/- Part of the proof that the statement holds for every input that its row lets in: the contracts of the program's functions, printed by a program out of annotations; the statement itself stands at the end of the last part. -/
import Derived.Test.YtienmmfjjffjaaaGreatDoorZS1
import Derived.Test.YtienmmfjjffjaaaGreatDoorZA3
set_option linter.unusedSimpArgs false
set_option linter.unusedVariables false
/- What is reached. -/
namespace Go.Proofs.YtienmmfjjffjaaaGreatDoor
open Go Go.Aw
variable {kr : ResO}
theorem c_calls_nil (d : D) (σ : Store) (om : Nat) (hgl : σ.gl = (GL kr)) (hok : okE d = true) (hom : σ.objs[om]? = some (.map [] [])) (hb : d.size ≤ 1000000000) :
    ACalls Tryz.prog 80 [.pv (enc d), .pv .nils, .map om] σ (fun r σ' => r = .pv (.slice ((callsOf d).map enc)) ∧ σ' = { σ with objs := σ.objs.set om (.map (mapK (callsD d ([], [])).2) (mapV pbool (callsD d ([], [])).2)) }) := by
  have h := c_flat_calls d [] [] { σ with toks := σ.toks ++ [⟨0, 24, 4⟩] } om σ.toks.length hgl hok ⟨hom, by simp⟩ (by simpa using hb)
  refine (ACalls.adoptArg (pre := [.pv (enc d)]) (post := [.map om]) h).less ?_
  rintro _ _ ⟨rfl, rfl⟩
  refine ⟨σ.objs.length, σ.toks.length, _, (WV.pv rfl : WV _ _ _ _ (.pv (.slice ((callsOf d).map enc)))), Nat.le_refl _, Nat.le_refl _, fun ob hob => ?_, rfl, ?_⟩
  · exact setCM_mem (List.mem_of_mem_take hob) _ _ _
  · have hn : σ.objs.length = (σ.objs.set om (.map (mapK (callsD d ([], [])).2) (mapV pbool (callsD d ([], [])).2))).length := by simp
    simp only [setCM, Store.cut, Store.tok]
    rw [List.take_of_length_le (by simp), modify_app, List.take_append_of_le_length (Nat.le_refl _), List.take_length]

set_option maxHeartbeats 1000000 in
theorem c_flat_reach (p : D) (R : Right p) : Pur Tryz.prog (GL kr) 62 [.pv (enc p)] (.pv (.slice ((reach p).map enc))) := by
 refine pur_of fun σ hgl => ?_
 have hsz := R.sz
 have hkl := D.kids_length_lt p
 obtain ⟨p0, pr, hpk⟩ := kids_cons R.ne
 have hp0 : p.kids[0]? = some p0 := by rw [hpk]; rfl
 have hph := head_cons hpk
 have hp0m : p0 ∈ p.kids := List.mem_of_getElem? hp0
 obtain ⟨q0, qr, hqk⟩ := kids_cons (R.kids_ne hp0m)
 have hq0 : p0.kids[0]? = some q0 := by rw [hqk]; rfl
 have hqh := head_cons hqk
 have hr0 : rst p 0 = ([p0], [(q0, true)]) := by show ([p.head], [(p.head.head, true)]) = _; rw [hph, hqh]
 have hmg := fun (m : List (D × D)) => withM_get (σ := σ) (m := m)
 have hpt0 := fun (s : St) (d : D) (v : Bool) (ho : s.σ.objs[σ.objs.length + 1]? = some (.map [] [])) => put_seen (m := []) ho d v
 have hmk : mapK [(q0, true)] = [keyPV q0] := rfl
 have hmv : mapV pbool [(q0, true)] = [.bool true] := rfl
 refine acalls_of tyOk Tryz.func62 rfl (by simp [Tryz.f62]) ?_
 refine awp_seq (aR (by simp [go_sem] <;> rfl) ?_)
 refine awp_seq (awp_reg ?_)
 refine aL 1 (by simp [go_sem] <;> rfl) ?_
 refine al_callW rfl rfl rfl (by simp [go_sem] <;> rfl) call102 (c_flat_defs p (by omega) (fun x hx => R.kids_ne hx) σ hgl) (by simp [go_sem] <;> rfl) (by simp [go_sem]) rfl rfl ?_
 rintro r σ' ⟨rfl, rfl⟩
 refine aL 1 (by simp [go_sem] <;> rfl) ?_
 refine al_nil ?_
 refine awp_seq (aR (by simp [go_sem, hp0] <;> rfl) ?_)
 refine awp_seq (awp_reg ?_)
 refine aL 8 (by simp [go_sem, hp0, hq0, withM, hpt0] <;> rfl) ?_
 refine aF call98 ((c_flat_keyOf q0) _ (by exact hgl)) (by simp [go_sem, hp0, hq0, withM, hpt0] <;> rfl) (by simp [go_sem, hp0, hq0, withM, hpt0]) ?_
 refine aL 3 (by simp [go_sem, hp0, hq0, withM, hpt0] <;> rfl) ?_
 refine al_nil ?_
 refine awp_seq (awp_seq (aR (by simp [go_sem, hp0, hq0, withM, hpt0] <;> rfl) ?_))
 refine awp_adopt' 4 24 4 (by simp [go_sem] <;> rfl) ?_
 refine awp_block ?_
 refine awp_loop_headK (σ.objs.length + 2) (σ.toks.length + 1) 1 [2, 3, 5] (fun k : Nat => [(4, .acc ((rst p k).1.map enc) σ.toks.length), (6, .pv (.int .i64 ↑k))]) (fun k => withR σ (defsL p.kids) 24 (rst p k)) (fun k => k ≤ (rst p k).1.length) (fun k => p.kids.length - k) 0 (Nat.zero_le _) ⟨by show withR σ (defsL p.kids) 24 (rst p 0) = _; rw [hr0]; simp [withR, hmk, hmv, go_sem, List.take_of_length_le, kset, pbool], rfl, by simp, by simp, by simp [go_sem, hp0, hq0, withM, hpt0, hr0], fun ob h => withR_mem h _ _ _, by simp [go_sem]⟩ ?_
 intro k hk
 refine awp_seq (awp_seq (aR (by simp [go_sem, hp0, hq0, withM, hpt0] <;> rfl) ?_))
 refine awp_cond (by first | rfl | (simp [go_sem, hp0, hq0, withM, hpt0] <;> rfl)) (fun h0 => ?_) (fun h0 => ?_)
 ·have hlt : k < (rst p k).1.length := by simpa using h0
  have hkl2 := (rst_inv R k).len
  have hw : IntKind.i64.wrap (↑k + 1) = (k : Int) + 1 := wrap_succ (by omega)
  obtain ⟨x, hx, hxm⟩ := get_lt hlt
  have hxp := (rst_inv R k).mem x hxm
  obtain ⟨x0, x1, x2, ns, hkk, _⟩ := R.def hxp
  have hx2 : x.kids[2]? = some x2 := by rw [hkk]; rfl
  have hd2 : d2 x.kids = x2 := by rw [hkk]; rfl
  have hok := R.ok hxp
  rw [hd2] at hok
  have hsx := D.size_kid_lt hxp
  have hsx2 := D.size_kid_lt (d := x) (k := x2) (by rw [hkk]; simp)
  have hnx := rst_next hx
  rw [hd2] at hnx
  have hcl : (callsOf x2).length ≤ x2.size := by have := callsD_len x2 ([], []); simp only [List.length_nil, Nat.zero_add] at this; exact this
  have hkn := fun f hf => R.known (f := f) hxp (by rw [hd2]; exact hf)
  refine awp_skip ?_
  refine awp_seq (awp_block ?_)
  refine awp_seq (awp_reg ?_)
  refine aL 8 (by simp [go_sem, hp0, hq0, withM, hpt0, hx, hx2, withR_no] <;> rfl) ?_
  refine al_callW rfl rfl rfl (by simp [go_sem, hp0, hq0, withM, hpt0, hx, hx2, withR_no] <;> rfl) call80 (c_calls_nil x2 _ (σ.objs.length + 2) (by exact hgl) hok (by simp [withR]) (by omega)) (by simp [go_sem, hp0, hq0, withM, hpt0, hx, hx2, withR_no] <;> rfl) (by simp [go_sem, hp0, hq0, withM, hpt0, hx, hx2, withR_no]) rfl rfl ?_
  rintro r σ' ⟨rfl, rfl⟩
  refine aL 2 (by simp [go_sem, hp0, hq0, withM, hpt0, hx, hx2, withR_no] <;> rfl) ?_
  refine al_nil ?_
  refine awp_block ?_
  refine awp_loop_headK (σ.objs.length + 2) (σ.toks.length + 1) 1 [2, 3, 5, 6, 40, 41] (fun j : Nat => [(4, .acc ((rin p (rst p k) (callsOf x2) j).1.map enc) σ.toks.length), (42, .pv (.int .i64 ↑j))]) (fun j => withR σ (defsL p.kids) 24 (rin p (rst p k) (callsOf x2) j)) (fun j => j ≤ (callsOf x2).length) (fun j => (callsOf x2).length - j) 0 (Nat.zero_le _) ⟨by show withR σ (defsL p.kids) 24 (rin p (rst p k) (callsOf x2) 0) = Store.cut _ _ _; rw [rin_zero]; simp [withR, go_sem, List.take_of_length_le], rfl, by simp, by simp, by simp [go_sem, hp0, hq0, withM, hpt0, hx, hx2, rin_zero, withR_nt], fun ob h => withR_mem h _ _ _, by simp [go_sem]⟩ ?_
  intro j hk
  refine awp_seq (aR (by simp [go_sem, hp0, hq0, withM, hpt0, hx, hx2] <;> rfl) ?_)
  refine awp_seq (awp_cond (by first | rfl | (simp [go_sem, hp0, hq0, withM, hpt0, hx, hx2] <;> rfl)) (fun h1 => ?_) (fun h1 => ?_))
  ·have hlt : j < (callsOf x2).length := by simp at h1; omega
   have hw : IntKind.i64.wrap (↑j + 1) = (j : Int) + 1 := wrap_succ (by omega)
   obtain ⟨y, hy, hym⟩ := get_lt hlt
   obtain ⟨e, he, hqe, hge⟩ := hkn y hym
   have hri := (rin_inv (rst_inv R k) hkn j).len
   have hg0 := withR_get0 (σ := σ) (m := defsL p.kids) (e := 24) (st := (rin p (rst p k) (callsOf x2) j))
   have hg1 := withR_get1 (σ := σ) (m := defsL p.kids) (e := 24) (st := (rin p (rst p k) (callsOf x2) j))
   have htk := withR_tok (σ := σ) (m := defsL p.kids) (e := 24) (st := (rin p (rst p k) (callsOf x2) j))
   have hbb : ((rin p (rst p k) (callsOf x2) j).1.length + 1) * 56 ≤ 140737488355328 := by omega
   have hlk := fun (s : St) (d : D) (ho : s.σ.objs[σ.objs.length + 1]? = some (.map (mapK (rin p (rst p k) (callsOf x2) j).2) (mapV pbool (rin p (rst p k) (callsOf x2) j).2))) => look_seen ho d
   have hpt := fun (s : St) (d : D) (v : Bool) (ho : s.σ.objs[σ.objs.length + 1]? = some (.map (mapK (rin p (rst p k) (callsOf x2) j).2) (mapV pbool (rin p (rst p k) (callsOf x2) j).2))) => put_seen ho d v
   have hld := fun (s : St) (ho : s.σ.objs[σ.objs.length]? = some (.map (mapK (defsL p.kids)) (mapV enc (defsL p.kids)))) => look_def ho y e hge
   refine awp_skip ?_
   refine awp_seq (awp_block ?_)
   refine awp_seq (aR (by simp [go_sem, hp0, hq0, withM, hpt0, hx, hx2, hy, hg0, hg1, htk, hlk, hpt, hld, hbb] <;> rfl) ?_)
   refine awp_seq (awp_reg ?_)
   refine aL 2 (by simp [go_sem, hp0, hq0, withM, hpt0, hx, hx2, hy, hg0, hg1, htk, hlk, hpt, hld, hbb] <;> rfl) ?_
   refine aF call98 ((c_flat_keyOf y) _ (by exact hgl)) (by simp [go_sem, hp0, hq0, withM, hpt0, hx, hx2, hy, hg0, hg1, htk, hlk, hpt, hld, hbb] <;> rfl) (by simp [go_sem, hp0, hq0, withM, hpt0, hx, hx2, hy, hg0, hg1, htk, hlk, hpt, hld, hbb]) ?_
   refine aL 2 (by simp [go_sem, hp0, hq0, withM, hpt0, hx, hx2, hy, hg0, hg1, htk, hlk, hpt, hld, hbb] <;> rfl) ?_
   refine al_nil ?_
   refine awp_cond (by first | rfl | (simp [go_sem, hp0, hq0, withM, hpt0, hx, hx2, hy, hg0, hg1, htk, hlk, hpt, hld, hbb] <;> rfl)) (fun h2 => ?_) (fun h2 => ?_)
   ·have hrn : rin p (rst p k) (callsOf x2) (j + 1) = ((rin p (rst p k) (callsOf x2) j).1 ++ [e], kset (rin p (rst p k) (callsOf x2) j).2 y true) := by rw [rin_next hy]; exact reachStep_new (by simpa using h2) hge
    refine awp_seq (awp_reg ?_)
    refine aL 2 (by simp [go_sem, hp0, hq0, withM, hpt0, hx, hx2, hy, hg0, hg1, htk, hlk, hpt, hld, hbb] <;> rfl) ?_
    refine aF call98 ((c_flat_keyOf y) _ (by exact hgl)) (by simp [go_sem, hp0, hq0, withM, hpt0, hx, hx2, hy, hg0, hg1, htk, hlk, hpt, hld, hbb] <;> rfl) (by simp [go_sem, hp0, hq0, withM, hpt0, hx, hx2, hy, hg0, hg1, htk, hlk, hpt, hld, hbb]) ?_
    refine aL 1 (by simp [go_sem, hp0, hq0, withM, hpt0, hx, hx2, hy, hg0, hg1, htk, hlk, hpt, hld, hbb] <;> rfl) ?_
    refine al_nil ?_
    refine awp_reg ?_
    refine aL 3 (by simp [go_sem, hp0, hq0, withM, hpt0, hx, hx2, hy, hg0, hg1, htk, hlk, hpt, hld, hbb] <;> rfl) ?_
    refine aF call98 ((c_flat_keyOf y) _ (by exact hgl)) (by simp [go_sem, hp0, hq0, withM, hpt0, hx, hx2, hy, hg0, hg1, htk, hlk, hpt, hld, hbb] <;> rfl) (by simp [go_sem, hp0, hq0, withM, hpt0, hx, hx2, hy, hg0, hg1, htk, hlk, hpt, hld, hbb]) ?_
    refine aL 4 (by simp [go_sem, hp0, hq0, withM, hpt0, hx, hx2, hy, hg0, hg1, htk, hlk, hpt, hld, hbb] <;> rfl) ?_
    refine al_nil ?_
    refine aR (by simp [go_sem, hp0, hq0, withM, hpt0, hx, hx2, hy, hg0, hg1, htk, hlk, hpt, hld, hbb] <;> rfl) ?_
    exact next_intro (j + 1) (σ.objs.length + 2) (σ.toks.length + 1) 1 (hlt) (by omega) ⟨by show withR σ (defsL p.kids) 24 (rin p (rst p k) (callsOf x2) (j + 1)) = Store.cut _ _ _; rw [hrn]; simp [withR, go_sem, List.take_of_length_le], rfl, by simp, by simp, by simp [go_sem, hp0, hq0, withM, hpt0, hx, hx2, hy, hg0, hg1, htk, hlk, hpt, hld, hbb, hw, hrn, withR_nt], fun ob h => withR_mem h _ _ _, by simp [go_sem]⟩
   ·have hrn : rin p (rst p k) (callsOf x2) (j + 1) = (rin p (rst p k) (callsOf x2) j) := by rw [rin_next hy]; exact reachStep_old (by simpa using h2)
    refine awp_skip ?_
    refine aR (by simp [go_sem, hp0, hq0, withM, hpt0, hx, hx2, hy, hg0, hg1, htk, hlk, hpt, hld, hbb] <;> rfl) ?_
    exact next_intro (j + 1) (σ.objs.length + 2) (σ.toks.length + 1) 1 (hlt) (by omega) ⟨by show withR σ (defsL p.kids) 24 (rin p (rst p k) (callsOf x2) (j + 1)) = Store.cut _ _ _; rw [hrn]; simp [withR, go_sem, List.take_of_length_le], rfl, by simp, by simp, by simp [go_sem, hp0, hq0, withM, hpt0, hx, hx2, hy, hg0, hg1, htk, hlk, hpt, hld, hbb, hw, hrn, withR_nt], fun ob h => withR_mem h _ _ _, by simp [go_sem]⟩
  ·have hke : j = (callsOf x2).length := by simp at h1; omega
   subst hke
   have hout : rst p (k + 1) = rin p (rst p k) (callsOf x2) (callsOf x2).length := by rw [hnx, rin_all]
   refine awp_exit ?_
   refine then_exit ?_
   refine then_exit ?_
   refine inBlock_hit ?_
   refine aR (by simp [go_sem, hp0, hq0, withM, hpt0, hx, hx2] <;> rfl) ?_
   exact next_intro (k + 1) (σ.objs.length + 2) (σ.toks.length + 1) 1 (by have := rst_len hx; omega) (by have := (rst_inv R k).len; omega) ⟨by show withR σ (defsL p.kids) 24 (rst p (k + 1)) = Store.cut _ _ _; rw [hout]; exact withR_cut.symm, rfl, by simp, by simp, by simp [go_sem, hp0, hq0, withM, hpt0, hx, hx2, hw, hout], fun ob h => withR_mem h _ _ _, by simp [go_sem]⟩
 ·have hke : (rst p k).1.length ≤ k := by simpa using h0
  have hfin := reach_done hke (by have := (rst_inv R k).len; omega)
  refine awp_exit ?_
  refine then_exit ?_
  refine then_exit ?_
  refine inBlock_hit ?_
  refine awp_seq (aR (by simp [go_sem, hp0, hq0, withM, hpt0] <;> rfl) ?_)
  refine awp_ret ?_
  refine ends_ret (by simp [go_sem] <;> rfl) (by simp [go_sem]) ?_
  exact ⟨by simp [go_sem, hfin], withR_cut0⟩

end Go.Proofs.YtienmmfjjffjaaaGreatDoor

/- Other labels and names. -/
namespace Go.Proofs.YtienmmfjjffjaaaGreatDoor
open Go Go.Aw
variable {kr : ResO}
set_option maxHeartbeats 1000000 in
theorem c_flat_renamer_expr (O : List AObj) (ro : Nat) (fl fn : FuncId) (cl cn : List AV) (bare : Bool) (lab nm : D → D) (hro : O[ro]? = some (renBox fl fn cl cn bare)) (HL : RenAt Tryz.prog (GL kr) O fl cl lab) (HN : RenAt Tryz.prog (GL kr) O fn cn nm) (d : D) : ∀ σ : Store, σ.gl = (GL kr) → σ.objs = O → okE d = true → formed d = true → d.size ≤ 1000000000 → PurAt Tryz.prog σ 122 [.ptr ro 0, .pv (enc d)] (.pv (enc (rexpr lab nm bare d))) := by
 induction d using D.ind with
 | _ kind num text kids ih =>
 generalize hD : D.mk kind num text kids = d at *
 have hk : d.kids = kids := by rw [← hD]; rfl
 clear hD
 subst hk
 have hkl := D.kids_length_lt d
 intro σ hgl hO hok hf hd
 have hor := (List.getElem?_eq_some_iff.1 hro).1
 have hpl := parts_len d
 refine purAt_of ?_
 refine acalls_of tyOk Tryz.func122 rfl (by simp [Tryz.f122]) ?_
 refine awp_seq (aR (by simp [go_sem, hO, hro] <;> rfl) ?_)
 refine awp_seq (awp_block ?_)
 refine awp_seq (aR (by simp [go_sem, hO, hro] <;> rfl) ?_)
 refine awp_cond (by first | rfl | (simp [go_sem, hO, hro] <;> rfl)) (fun h0 => ?_) (fun h0 => ?_)
 ·refine awp_seq ?_
  refine aR (by simp [go_sem, hO, hro] <;> rfl) ?_
  refine awp_ret ?_
  refine inBlock_ret ?_
  refine then_ret ?_
  refine ends_ret (by simp [go_sem] <;> rfl) (by simp [go_sem]) ?_
  exact ⟨by simp [go_sem, rexpr_num h0], by subst hO; simp [go_sem]⟩
 ·refine awp_seq ?_
  refine aR (by simp [go_sem, hO, hro] <;> rfl) ?_
  refine awp_cond (by first | rfl | (simp [go_sem, hO, hro] <;> rfl)) (fun h1 => ?_) (fun h1 => ?_)
  ·refine awp_seq ?_
   refine awp_regDP tyOk tySz 5 (by kernel_rfl) (by decide) ?_
   refine ul_run 5 (by simp [go_sem, hO, hro] <;> rfl) ?_
   refine ul_nil ?_
   refine al_fn rfl rfl rfl (by simp [go_sem, hO, hro] <;> rfl) HN.1 (HN.2.2 _ (by exact hgl) (by first | exact hO | rfl) d hd (formed_text hf)) (by simp [go_sem, hO, hro] <;> rfl) (by simp [go_sem, hO, hro]) (by simp [go_sem, HN.2.1]) rfl ?_
   refine aL 1 (by simp [go_sem, hO, hro] <;> rfl) ?_
   refine al_nil ?_
   refine awp_ret ?_
   refine inBlock_ret ?_
   refine then_ret ?_
   refine ends_ret (by simp [go_sem] <;> rfl) (by simp [go_sem]) ?_
   exact ⟨by simp [go_sem, rexpr_sym h0 h1], by subst hO; simp [go_sem]⟩
  ·have hk3 : d.kind = 3 := by rcases okE_kind hok with h | h | h; exact (nomatch (show (d.kind == 1) = true by rw [h]; rfl).symm.trans h0); exact (nomatch (show (d.kind == 2) = true by rw [h]; rfl).symm.trans h1); exact h
   have hx0 : ∃ x0, d.kids[0]? = some x0 := by obtain ⟨x0, r, e⟩ := kids_cons (okE_ne hok hk3); exact ⟨x0, by rw [e]; rfl⟩
   obtain ⟨x0, hx0⟩ := hx0
   have hh := D.head_of hx0
   have hx0m := List.mem_of_getElem? hx0
   have hs0 := D.size_kid_lt hx0m
   refine awp_skip ?_
   refine awp_seq (aR (by simp [go_sem, hO, hro, hx0] <;> rfl) ?_)
   refine awp_seq (awp_seq (aR (by simp [go_sem, hO, hro, hx0] <;> rfl) ?_))
   refine awp_block ?_
   refine awp_seq (aR (by simp [go_sem, hO, hro, hx0] <;> rfl) ?_)
   refine awp_cond (by first | rfl | (simp [go_sem, hO, hro, hx0] <;> rfl)) (fun h2 => ?_) (fun h2 => ?_)
   ·refine awp_seq ?_
    refine awp_reg ?_
    refine aL 1 (by simp [go_sem, hO, hro, hx0] <;> rfl) ?_
    refine aF call48 ((c_own d hd) _ (by exact hgl)) (by simp [go_sem, hO, hro, hx0] <;> rfl) (by simp [go_sem, hO, hro, hx0]) ?_
    refine aL 1 (by simp [go_sem, hO, hro, hx0] <;> rfl) ?_
    refine al_nil ?_
    refine awp_ret ?_
    refine inBlock_ret ?_
    refine then_ret ?_
    refine ends_ret (by simp [go_sem] <;> rfl) (by simp [go_sem]) ?_
    exact ⟨by simp [go_sem, rexpr_quote h0 h1 (by rw [hh]; exact h2)], by subst hO; simp [go_sem]⟩
   ·refine awp_seq ?_
    refine aR (by simp [go_sem, hO, hro, hx0] <;> rfl) ?_
    refine awp_cond (by first | rfl | (simp [go_sem, hO, hro, hx0] <;> rfl)) (fun h3 => ?_) (fun h3 => ?_)
    ·have h2l := okE_two hok hk3 (.inl (by rw [hh]; exact of_decide_eq_true h3))
     obtain ⟨x1, hx1, hx1m⟩ := get_lt (l := d.kids) (k := 1) (by omega)
     have hd1 : d1 d.kids = x1 := getD_of hx1
     have hs1 := D.size_kid_lt hx1m
     obtain ⟨pre, hpre⟩ : ∃ pre, pre = [x0, nm x1] := ⟨_, rfl⟩
     have hsp := rexpr_let (lab := lab) (nm := nm) (bare := bare) h0 h1 (by rw [hh]; exact h2) (by rw [hh]; exact h3)
     rw [hh, hd1, ← hpre] at hsp
     refine awp_regDP tyOk tySz 13 (by kernel_rfl) (by decide) ?_
     refine ul_run 12 (by simp [go_sem, hO, hro, hx0, hx1] <;> rfl) ?_
     refine ul_fn (by first | (intro _ _ hh; exact hh) | simp [go_sem]) rfl rfl rfl rfl (by simp [go_sem, hO, hro, hx0, hx1] <;> rfl) HN.1 (HN.2.2 _ (by exact hgl) (by first | exact hO | rfl) x1 (by omega) (formed_text (formed_kids hf hx1m))) (by simp [go_sem, hO, hro, hx0, hx1] <;> rfl) (by simp [go_sem, hO, hro, hx0, hx1]) (by simp [go_sem, HN.2.1]) rfl ?_
     refine ul_nil ?_
     refine aL 2 (by simp [go_sem, hO, hro, hx0, hx1] <;> rfl) ?_
     refine al_nil ?_
     refine awp_seq (awp_seq (awp_reg ?_))
     refine aL 1 (by simp [go_sem, hO, hro, hx0, hx1] <;> rfl) ?_
     refine aF call96 ((c_flat_Parts d (okE_ne hok) (okE_two hok)) _ (by exact hgl)) (by simp [go_sem, hO, hro, hx0, hx1] <;> rfl) (by simp [go_sem, hO, hro, hx0, hx1]) ?_
     refine aL 2 (by simp [go_sem, hO, hro, hx0, hx1] <;> rfl) ?_
     refine al_nil ?_
     refine awp_adopt' 5 24 4 (by simp [go_sem] <;> rfl) ?_
     refine awp_block ?_
     refine awp_loop_headK σ.objs.length (σ.toks.length + 1) 2 [0, 4, 76, 77] (fun k : Nat => [(5, .acc ((outK pre (parts d) (rexpr lab nm bare) k).map enc) σ.toks.length), (78, .pv (.int .i64 ↑k))]) (fun k => { σ with toks := σ.toks ++ [⟨pre.length + k, 24, 4⟩] }) (fun k => k ≤ (parts d).length) (fun k => (parts d).length - k) 0 (Nat.zero_le _) ⟨by simp [go_sem, hpre, hO], rfl, by simp, by simp, by simp [go_sem, hO, hro, hx0, hx1, hpre, outK_zero, hor], fun ob h => .inl (by simpa [go_sem, hO, hro, hx0, hx1, hpre, outK_zero, hor] using h), by simp [go_sem]⟩ ?_
     intro k hk
     refine awp_seq (aR (by simp [go_sem, hO, hro, hx0, hx1] <;> rfl) ?_)
     refine awp_seq (awp_cond (by first | rfl | (simp [go_sem, hO, hro, hx0, hx1] <;> rfl)) (fun h4 => ?_) (fun h4 => ?_))
     ·have hlt : k < (parts d).length := by simp at h4; omega
      have hw : IntKind.i64.wrap (↑k + 1) = (k : Int) + 1 := wrap_succ (by omega)
      obtain ⟨x, hx, hxm⟩ := get_lt hlt
      have hon := outK_next (pre := pre) (h := rexpr lab nm bare) hx
      have hol := outK_len (pre := pre) (h := rexpr lab nm bare) hk
      have hpr : pre.length ≤ 2 := by rw [hpre]; simp
      have hbb : (pre.length + k + 1) * 56 ≤ 140737488355328 := by omega
      refine awp_skip ?_
      refine awp_seq (awp_block ?_)
      refine awp_seq (aR (by simp [go_sem, hO, hro, hx0, hx1, hx, hol, hbb] <;> rfl) ?_)
      refine awp_reg ?_
      refine aL 3 (by simp [go_sem, hO, hro, hx0, hx1, hx, hol, hbb] <;> rfl) ?_
      refine aF call122 (ih x (parts_mem hxm) _ (by exact hgl) (by first | exact hO | rfl) (okE_parts hok x hxm) (formed_kids hf (parts_mem hxm)) (by have := D.size_kid_lt (parts_mem hxm); omega)) (by simp [go_sem, hO, hro, hx0, hx1, hx, hol, hbb] <;> rfl) (by simp [go_sem, hO, hro, hx0, hx1, hx, hol, hbb]) ?_
      refine aL 3 (by simp [go_sem, hO, hro, hx0, hx1, hx, hol, hbb] <;> rfl) ?_
      refine al_nil ?_
      refine aR (by simp [go_sem, hO, hro, hx0, hx1, hx, hol, hbb] <;> rfl) ?_
      exact next_intro (k + 1) σ.objs.length (σ.toks.length + 1) 2 (hlt) (by omega) ⟨by simp [go_sem, hO, hro, hx0, hx1, hx, hol, hbb, hw, hon, hor, Nat.add_assoc], rfl, by simp, by simp, by simp [go_sem, hO, hro, hx0, hx1, hx, hol, hbb, hw, hon, hor, Nat.add_assoc], fun ob h => .inl (by simpa [go_sem, hO, hro, hx0, hx1, hx, hol, hbb, hw, hon, hor, Nat.add_assoc] using h), by simp [go_sem]⟩
     ·have hke : k = (parts d).length := by simp at h4; omega
      subst hke
      refine awp_exit ?_
      refine then_exit ?_
      refine then_exit ?_
      refine inBlock_hit ?_
      refine awp_seq (awp_reg ?_)
      refine aL 1 (by simp [go_sem, hO, hro, hx0, hx1, outK_all] <;> rfl) ?_
      refine aF call53 ((c_flat_List (pre ++ (parts d).map (rexpr lab nm bare))) _ (by exact hgl)) (by simp [go_sem, hO, hro, hx0, hx1, outK_all] <;> rfl) (by simp [go_sem, hO, hro, hx0, hx1, outK_all]) ?_
      refine aL 1 (by simp [go_sem, hO, hro, hx0, hx1, outK_all] <;> rfl) ?_
      refine al_nil ?_
      refine awp_ret ?_
      refine ends_ret (by simp [go_sem] <;> rfl) (by simp [go_sem]) ?_
      exact ⟨by simp [go_sem, hsp], by subst hO; simp [go_sem]⟩
    ·refine awp_seq ?_
     refine aR (by simp [go_sem, hO, hro, hx0] <;> rfl) ?_
     refine awp_cond (by first | rfl | (simp [go_sem, hO, hro, hx0] <;> rfl)) (fun h5 => ?_) (fun h5 => ?_)
     ·have h2l := okE_two hok hk3 (.inr (by rw [hh]; exact of_decide_eq_true h5))
      obtain ⟨x1, hx1, hx1m⟩ := get_lt (l := d.kids) (k := 1) (by omega)
      have hd1 : d1 d.kids = x1 := getD_of hx1
      have hs1 := D.size_kid_lt hx1m
      have hsp := rexpr_call (lab := lab) (nm := nm) (bare := bare) h0 h1 (by rw [hh]; exact h2) (by rw [hh]; exact h3) (by rw [hh]; exact h5)
      refine awp_seq (awp_regDP tyOk tySz 13 (by kernel_rfl) (by decide) ?_)
      refine ul_run 12 (by simp [go_sem, hO, hro, hx0, hx1] <;> rfl) ?_
      refine ul_fn (by first | (intro _ _ hh; exact hh) | simp [go_sem]) rfl rfl rfl rfl (by simp [go_sem, hO, hro, hx0, hx1] <;> rfl) HL.1 (HL.2.2 _ (by exact hgl) (by first | exact hO | rfl) x1 (by omega) (formed_text (formed_kids hf hx1m))) (by simp [go_sem, hO, hro, hx0, hx1] <;> rfl) (by simp [go_sem, hO, hro, hx0, hx1]) (by simp [go_sem, HL.2.1]) rfl ?_
      refine ul_nil ?_
      refine aL 2 (by simp [go_sem, hO, hro, hx0, hx1] <;> rfl) ?_
      refine al_nil ?_
      refine awp_seq (aR (by simp [go_sem, hO, hro, hx0, hx1] <;> rfl) ?_)
      refine awp_cond (by first | rfl | (simp [go_sem, hO, hro, hx0, hx1] <;> rfl)) (fun h6 => ?_) (fun h6 => ?_)
      ·obtain ⟨pre, hpre⟩ : ∃ pre, pre = [lab x1] := ⟨_, rfl⟩
       rw [if_pos h6, hd1, ← hpre] at hsp
       refine aR (by simp [go_sem, hO, hro, hx0, hx1] <;> rfl) ?_
       refine awp_seq (awp_seq (awp_reg ?_))
       refine aL 1 (by simp [go_sem, hO, hro, hx0, hx1] <;> rfl) ?_
       refine aF call96 ((c_flat_Parts d (okE_ne hok) (okE_two hok)) _ (by exact hgl)) (by simp [go_sem, hO, hro, hx0, hx1] <;> rfl) (by simp [go_sem, hO, hro, hx0, hx1]) ?_
       refine aL 2 (by simp [go_sem, hO, hro, hx0, hx1] <;> rfl) ?_
       refine al_nil ?_
       refine awp_adopt' 5 24 4 (by simp [go_sem] <;> rfl) ?_
       refine awp_block ?_
       refine awp_loop_headK σ.objs.length (σ.toks.length + 1) 2 [0, 4, 76, 77] (fun k : Nat => [(5, .acc ((outK pre (parts d) (rexpr lab nm bare) k).map enc) σ.toks.length), (78, .pv (.int .i64 ↑k))]) (fun k => { σ with toks := σ.toks ++ [⟨pre.length + k, 24, 4⟩] }) (fun k => k ≤ (parts d).length) (fun k => (parts d).length - k) 0 (Nat.zero_le _) ⟨by simp [go_sem, hpre, hO], rfl, by simp, by simp, by simp [go_sem, hO, hro, hx0, hx1, hpre, outK_zero, hor], fun ob h => .inl (by simpa [go_sem, hO, hro, hx0, hx1, hpre, outK_zero, hor] using h), by simp [go_sem]⟩ ?_
       intro k hk
       refine awp_seq (aR (by simp [go_sem, hO, hro, hx0, hx1] <;> rfl) ?_)
       refine awp_seq (awp_cond (by first | rfl | (simp [go_sem, hO, hro, hx0, hx1] <;> rfl)) (fun h7 => ?_) (fun h7 => ?_))
       ·have hlt : k < (parts d).length := by simp at h7; omega
        have hw : IntKind.i64.wrap (↑k + 1) = (k : Int) + 1 := wrap_succ (by omega)
        obtain ⟨x, hx, hxm⟩ := get_lt hlt
        have hon := outK_next (pre := pre) (h := rexpr lab nm bare) hx
        have hol := outK_len (pre := pre) (h := rexpr lab nm bare) hk
        have hpr : pre.length ≤ 2 := by rw [hpre]; simp
        have hbb : (pre.length + k + 1) * 56 ≤ 140737488355328 := by omega
        refine awp_skip ?_
        refine awp_seq (awp_block ?_)
        refine awp_seq (aR (by simp [go_sem, hO, hro, hx0, hx1, hx, hol, hbb] <;> rfl) ?_)
        refine awp_reg ?_
        refine aL 3 (by simp [go_sem, hO, hro, hx0, hx1, hx, hol, hbb] <;> rfl) ?_
        refine aF call122 (ih x (parts_mem hxm) _ (by exact hgl) (by first | exact hO | rfl) (okE_parts hok x hxm) (formed_kids hf (parts_mem hxm)) (by have := D.size_kid_lt (parts_mem hxm); omega)) (by simp [go_sem, hO, hro, hx0, hx1, hx, hol, hbb] <;> rfl) (by simp [go_sem, hO, hro, hx0, hx1, hx, hol, hbb]) ?_
        refine aL 3 (by simp [go_sem, hO, hro, hx0, hx1, hx, hol, hbb] <;> rfl) ?_
        refine al_nil ?_
        refine aR (by simp [go_sem, hO, hro, hx0, hx1, hx, hol, hbb] <;> rfl) ?_
        exact next_intro (k + 1) σ.objs.length (σ.toks.length + 1) 2 (hlt) (by omega) ⟨by simp [go_sem, hO, hro, hx0, hx1, hx, hol, hbb, hw, hon, hor, Nat.add_assoc], rfl, by simp, by simp, by simp [go_sem, hO, hro, hx0, hx1, hx, hol, hbb, hw, hon, hor, Nat.add_assoc], fun ob h => .inl (by simpa [go_sem, hO, hro, hx0, hx1, hx, hol, hbb, hw, hon, hor, Nat.add_assoc] using h), by simp [go_sem]⟩
       ·have hke : k = (parts d).length := by simp at h7; omega
        subst hke
        refine awp_exit ?_
        refine then_exit ?_
        refine then_exit ?_
        refine inBlock_hit ?_
        refine awp_seq (awp_reg ?_)
        refine aL 1 (by simp [go_sem, hO, hro, hx0, hx1, outK_all] <;> rfl) ?_
        refine aF call53 ((c_flat_List (pre ++ (parts d).map (rexpr lab nm bare))) _ (by exact hgl)) (by simp [go_sem, hO, hro, hx0, hx1, outK_all] <;> rfl) (by simp [go_sem, hO, hro, hx0, hx1, outK_all]) ?_
        refine aL 1 (by simp [go_sem, hO, hro, hx0, hx1, outK_all] <;> rfl) ?_
        refine al_nil ?_
        refine awp_ret ?_
        refine ends_ret (by simp [go_sem] <;> rfl) (by simp [go_sem]) ?_
        exact ⟨by simp [go_sem, hsp], by subst hO; simp [go_sem]⟩
      ·obtain ⟨pre, hpre⟩ : ∃ pre, pre = [x0, lab x1] := ⟨_, rfl⟩
       rw [if_neg (by rw [h6]; decide), hd1, hh, ← hpre] at hsp
       refine awp_skip ?_
       refine awp_seq (awp_seq (awp_reg ?_))
       refine aL 1 (by simp [go_sem, hO, hro, hx0, hx1] <;> rfl) ?_
       refine aF call96 ((c_flat_Parts d (okE_ne hok) (okE_two hok)) _ (by exact hgl)) (by simp [go_sem, hO, hro, hx0, hx1] <;> rfl) (by simp [go_sem, hO, hro, hx0, hx1]) ?_
       refine aL 2 (by simp [go_sem, hO, hro, hx0, hx1] <;> rfl) ?_
       refine al_nil ?_
       refine awp_adopt' 5 24 4 (by simp [go_sem] <;> rfl) ?_
       refine awp_block ?_
       refine awp_loop_headK σ.objs.length (σ.toks.length + 1) 2 [0, 4, 76, 77] (fun k : Nat => [(5, .acc ((outK pre (parts d) (rexpr lab nm bare) k).map enc) σ.toks.length), (78, .pv (.int .i64 ↑k))]) (fun k => { σ with toks := σ.toks ++ [⟨pre.length + k, 24, 4⟩] }) (fun k => k ≤ (parts d).length) (fun k => (parts d).length - k) 0 (Nat.zero_le _) ⟨by simp [go_sem, hpre, hO], rfl, by simp, by simp, by simp [go_sem, hO, hro, hx0, hx1, hpre, outK_zero, hor], fun ob h => .inl (by simpa [go_sem, hO, hro, hx0, hx1, hpre, outK_zero, hor] using h), by simp [go_sem]⟩ ?_
       intro k hk
       refine awp_seq (aR (by simp [go_sem, hO, hro, hx0, hx1] <;> rfl) ?_)
       refine awp_seq (awp_cond (by first | rfl | (simp [go_sem, hO, hro, hx0, hx1] <;> rfl)) (fun h8 => ?_) (fun h8 => ?_))
       ·have hlt : k < (parts d).length := by simp at h8; omega
        have hw : IntKind.i64.wrap (↑k + 1) = (k : Int) + 1 := wrap_succ (by omega)
        obtain ⟨x, hx, hxm⟩ := get_lt hlt
        have hon := outK_next (pre := pre) (h := rexpr lab nm bare) hx
        have hol := outK_len (pre := pre) (h := rexpr lab nm bare) hk
        have hpr : pre.length ≤ 2 := by rw [hpre]; simp
        have hbb : (pre.length + k + 1) * 56 ≤ 140737488355328 := by omega
        refine awp_skip ?_
        refine awp_seq (awp_block ?_)
        refine awp_seq (aR (by simp [go_sem, hO, hro, hx0, hx1, hx, hol, hbb] <;> rfl) ?_)
        refine awp_reg ?_
        refine aL 3 (by simp [go_sem, hO, hro, hx0, hx1, hx, hol, hbb] <;> rfl) ?_
        refine aF call122 (ih x (parts_mem hxm) _ (by exact hgl) (by first | exact hO | rfl) (okE_parts hok x hxm) (formed_kids hf (parts_mem hxm)) (by have := D.size_kid_lt (parts_mem hxm); omega)) (by simp [go_sem, hO, hro, hx0, hx1, hx, hol, hbb] <;> rfl) (by simp [go_sem, hO, hro, hx0, hx1, hx, hol, hbb]) ?_
        refine aL 3 (by simp [go_sem, hO, hro, hx0, hx1, hx, hol, hbb] <;> rfl) ?_
        refine al_nil ?_
        refine aR (by simp [go_sem, hO, hro, hx0, hx1, hx, hol, hbb] <;> rfl) ?_
        exact next_intro (k + 1) σ.objs.length (σ.toks.length + 1) 2 (hlt) (by omega) ⟨by simp [go_sem, hO, hro, hx0, hx1, hx, hol, hbb, hw, hon, hor, Nat.add_assoc], rfl, by simp, by simp, by simp [go_sem, hO, hro, hx0, hx1, hx, hol, hbb, hw, hon, hor, Nat.add_assoc], fun ob h => .inl (by simpa [go_sem, hO, hro, hx0, hx1, hx, hol, hbb, hw, hon, hor, Nat.add_assoc] using h), by simp [go_sem]⟩
       ·have hke : k = (parts d).length := by simp at h8; omega
        subst hke
        refine awp_exit ?_
        refine then_exit ?_
        refine then_exit ?_
        refine inBlock_hit ?_
        refine awp_seq (awp_reg ?_)
        refine aL 1 (by simp [go_sem, hO, hro, hx0, hx1, outK_all] <;> rfl) ?_
        refine aF call53 ((c_flat_List (pre ++ (parts d).map (rexpr lab nm bare))) _ (by exact hgl)) (by simp [go_sem, hO, hro, hx0, hx1, outK_all] <;> rfl) (by simp [go_sem, hO, hro, hx0, hx1, outK_all]) ?_
        refine aL 1 (by simp [go_sem, hO, hro, hx0, hx1, outK_all] <;> rfl) ?_
        refine al_nil ?_
        refine awp_ret ?_
        refine ends_ret (by simp [go_sem] <;> rfl) (by simp [go_sem]) ?_
        exact ⟨by simp [go_sem, hsp], by subst hO; simp [go_sem]⟩
     ·obtain ⟨pre, hpre⟩ : ∃ pre, pre = [x0] := ⟨_, rfl⟩
      have hsp := rexpr_other (lab := lab) (nm := nm) (bare := bare) h0 h1 (by rw [hh]; exact h2) (by rw [hh]; exact h3) (by rw [hh]; exact h5)
      rw [hh, ← hpre] at hsp
      refine aR (by simp [go_sem, hO, hro, hx0] <;> rfl) ?_
      refine awp_seq (awp_seq (awp_reg ?_))
      refine aL 1 (by simp [go_sem, hO, hro, hx0] <;> rfl) ?_
      refine aF call96 ((c_flat_Parts d (okE_ne hok) (okE_two hok)) _ (by exact hgl)) (by simp [go_sem, hO, hro, hx0] <;> rfl) (by simp [go_sem, hO, hro, hx0]) ?_
      refine aL 2 (by simp [go_sem, hO, hro, hx0] <;> rfl) ?_
      refine al_nil ?_
      refine awp_adopt' 5 24 4 (by simp [go_sem] <;> rfl) ?_
      refine awp_block ?_
      refine awp_loop_headK σ.objs.length (σ.toks.length + 1) 2 [0, 4, 76, 77] (fun k : Nat => [(5, .acc ((outK pre (parts d) (rexpr lab nm bare) k).map enc) σ.toks.length), (78, .pv (.int .i64 ↑k))]) (fun k => { σ with toks := σ.toks ++ [⟨pre.length + k, 24, 4⟩] }) (fun k => k ≤ (parts d).length) (fun k => (parts d).length - k) 0 (Nat.zero_le _) ⟨by simp [go_sem, hpre, hO], rfl, by simp, by simp, by simp [go_sem, hO, hro, hx0, hpre, outK_zero, hor], fun ob h => .inl (by simpa [go_sem, hO, hro, hx0, hpre, outK_zero, hor] using h), by simp [go_sem]⟩ ?_
      intro k hk
      refine awp_seq (aR (by simp [go_sem, hO, hro, hx0] <;> rfl) ?_)
      refine awp_seq (awp_cond (by first | rfl | (simp [go_sem, hO, hro, hx0] <;> rfl)) (fun h9 => ?_) (fun h9 => ?_))
      ·have hlt : k < (parts d).length := by simp at h9; omega
       have hw : IntKind.i64.wrap (↑k + 1) = (k : Int) + 1 := wrap_succ (by omega)
       obtain ⟨x, hx, hxm⟩ := get_lt hlt
       have hon := outK_next (pre := pre) (h := rexpr lab nm bare) hx
       have hol := outK_len (pre := pre) (h := rexpr lab nm bare) hk
       have hpr : pre.length ≤ 2 := by rw [hpre]; simp
       have hbb : (pre.length + k + 1) * 56 ≤ 140737488355328 := by omega
       refine awp_skip ?_
       refine awp_seq (awp_block ?_)
       refine awp_seq (aR (by simp [go_sem, hO, hro, hx0, hx, hol, hbb] <;> rfl) ?_)
       refine awp_reg ?_
       refine aL 3 (by simp [go_sem, hO, hro, hx0, hx, hol, hbb] <;> rfl) ?_
       refine aF call122 (ih x (parts_mem hxm) _ (by exact hgl) (by first | exact hO | rfl) (okE_parts hok x hxm) (formed_kids hf (parts_mem hxm)) (by have := D.size_kid_lt (parts_mem hxm); omega)) (by simp [go_sem, hO, hro, hx0, hx, hol, hbb] <;> rfl) (by simp [go_sem, hO, hro, hx0, hx, hol, hbb]) ?_
       refine aL 3 (by simp [go_sem, hO, hro, hx0, hx, hol, hbb] <;> rfl) ?_
       refine al_nil ?_
       refine aR (by simp [go_sem, hO, hro, hx0, hx, hol, hbb] <;> rfl) ?_
       exact next_intro (k + 1) σ.objs.length (σ.toks.length + 1) 2 (hlt) (by omega) ⟨by simp [go_sem, hO, hro, hx0, hx, hol, hbb, hw, hon, hor, Nat.add_assoc], rfl, by simp, by simp, by simp [go_sem, hO, hro, hx0, hx, hol, hbb, hw, hon, hor, Nat.add_assoc], fun ob h => .inl (by simpa [go_sem, hO, hro, hx0, hx, hol, hbb, hw, hon, hor, Nat.add_assoc] using h), by simp [go_sem]⟩
      ·have hke : k = (parts d).length := by simp at h9; omega
       subst hke
       refine awp_exit ?_
       refine then_exit ?_
       refine then_exit ?_
       refine inBlock_hit ?_
       refine awp_seq (awp_reg ?_)
       refine aL 1 (by simp [go_sem, hO, hro, hx0, outK_all] <;> rfl) ?_
       refine aF call53 ((c_flat_List (pre ++ (parts d).map (rexpr lab nm bare))) _ (by exact hgl)) (by simp [go_sem, hO, hro, hx0, outK_all] <;> rfl) (by simp [go_sem, hO, hro, hx0, outK_all]) ?_
       refine aL 1 (by simp [go_sem, hO, hro, hx0, outK_all] <;> rfl) ?_
       refine al_nil ?_
       refine awp_ret ?_
       refine ends_ret (by simp [go_sem] <;> rfl) (by simp [go_sem]) ?_
       exact ⟨by simp [go_sem, hsp], by subst hO; simp [go_sem]⟩

end Go.Proofs.YtienmmfjjffjaaaGreatDoor

/- Canonical forms. -/
namespace Go.Proofs.YtienmmfjjffjaaaGreatDoor
open Go Go.Aw
variable {kr : ResO}
theorem look_par0 {s : St} {om : Nat} {ps : List (D × Int)} (ho : s.σ.objs[om]? = some (.map (mapK ps) (mapV pint ps))) (d : D) :
    lookAV ty s 106 (.map om) (.pv (keyPV d)) false = some (.pv (.int .i64 (kpar ps d).1)) := by
  rw [look_map (f := pint) rfl rfl rfl rfl rfl ho]
  unfold kpar
  cases kget ps d <;> rfl

set_option maxHeartbeats 1000000 in
theorem c_canon_1 (O : List AObj) (ol oa om : Nat) (fl : FuncId) (cl : List AV) (at_ : List (D × Int)) (label : Int → D) (h0 : O[ol]? = some (.box [.func (.func fl) cl])) (h1 : O[oa]? = some (.box [.map om])) (h2 : O[om]? = some (.map (mapK at_) (mapV pint at_))) (HB : LabAt Tryz.prog (GL kr) O fl cl label) (hbd : ∀ d, 0 ≤ (kpar at_ d).1 ∧ (kpar at_ d).1 ≤ 1000000000) (d : D) (σ : Store) (hgl : σ.gl = (GL kr)) (hO : σ.objs = O) : PurAt Tryz.prog σ 99 [.pv (enc d), .ptr ol 0, .ptr oa 0] (.pv (enc (label (kpar at_ d).1))) := by
 have hlk := fun (s : St) (d : D) (ho : s.σ.objs[om]? = some (.map (mapK at_) (mapV pint at_))) => look_par0 ho d
 refine purAt_of ?_
 refine acalls_of tyOk Tryz.func99 rfl (by simp [Tryz.f99]) ?_
 refine awp_seq (aR (by simp [go_sem, hO, h0, h1, h2, hlk] <;> rfl) ?_)
 refine awp_seq (awp_regDP tyOk tySz 5 (by kernel_rfl) (by decide) ?_)
 refine ul_run 3 (by simp [go_sem, hO, h0, h1, h2, hlk] <;> rfl) ?_
 refine ul_fn (by first | (intro _ _ hh; exact hh) | simp [go_sem]) rfl rfl rfl rfl (by simp [go_sem, hO, h0, h1, h2, hlk] <;> rfl) call98 ((c_flat_keyOf d) _ (by exact hgl)) (by simp [go_sem, hO, h0, h1, h2, hlk] <;> rfl) (by simp [go_sem, hO, h0, h1, h2, hlk]) rfl rfl ?_
 refine ul_run 1 (by simp [go_sem, hO, h0, h1, h2, hlk] <;> rfl) ?_
 refine ul_nil ?_
 refine al_fn rfl rfl rfl (by simp [go_sem, hO, h0, h1, h2, hlk] <;> rfl) HB.1 (HB.2.2 _ (by exact hgl) (by first | exact hO | rfl) (kpar at_ d).1 (hbd d).1 (hbd d).2) (by simp [go_sem, hO, h0, h1, h2, hlk] <;> rfl) (by simp [go_sem, hO, h0, h1, h2, hlk]) (by simp [go_sem, HB.2.1]) rfl ?_
 refine aL 1 (by simp [go_sem, hO, h0, h1, h2, hlk] <;> rfl) ?_
 refine al_nil ?_
 refine awp_ret ?_
 refine ends_ret (by simp [go_sem] <;> rfl) (by simp [go_sem]) ?_
 exact ⟨by simp [go_sem], by subst hO; simp [go_sem]⟩

set_option maxHeartbeats 1000000 in
theorem c_def (O : List AObj) (ro : Nat) (fl fn : FuncId) (cl cn : List AV) (bare : Bool) (lab nm : D → D) (hro : O[ro]? = some (renBox fl fn cl cn bare)) (HL : RenAt Tryz.prog (GL kr) O fl cl lab) (HN : RenAt Tryz.prog (GL kr) O fn cn nm) (d x0 x1 x2 : D) (hk3 : d.kids = [x0, x1, x2]) (hok : okE x2 = true) (hf : formed d = true) (hd : d.size ≤ 1000000000) (σ : Store) (hgl : σ.gl = (GL kr)) (hO : σ.objs = O) : PurAt Tryz.prog σ 100 [.ptr ro 0, .pv (enc d)] (.pv (enc (rdef lab nm bare d))) := by
 have hor := (List.getElem?_eq_some_iff.1 hro).1
 have hx0 : d.kids[0]? = some x0 := by rw [hk3]; rfl
 have hx1 : d.kids[1]? = some x1 := by rw [hk3]; rfl
 have hx2 : d.kids[2]? = some x2 := by rw [hk3]; rfl
 have hs0 := D.size_kid_lt (List.mem_of_getElem? hx0)
 have hs1 := D.size_kid_lt (List.mem_of_getElem? hx1)
 have hs2 := D.size_kid_lt (List.mem_of_getElem? hx2)
 have hkl := D.kids_length_lt x1
 have hkd := D.kids_length_lt d
 have hsp : rdef lab nm bare d = dlist [lab x0, dlist (x1.kids.map nm), rexpr lab nm bare x2] := by unfold rdef; rw [head_cons hk3, hk3]; rfl
 refine purAt_of ?_
 refine acalls_of tyOk Tryz.func100 rfl (by simp [Tryz.f100]) ?_
 refine awp_seq (aR (by simp [go_sem, hO, hro, hx0, hx1, hx2] <;> rfl) ?_)
 refine awp_seq (aR (by simp [go_sem, hO, hro, hx0, hx1, hx2] <;> rfl) ?_)
 refine awp_seq (awp_seq (aR (by simp [go_sem, hO, hro, hx0, hx1, hx2] <;> rfl) ?_))
 refine awp_adopt' 5 24 4 (by simp [go_sem] <;> rfl) ?_
 refine awp_block ?_
 refine awp_loop_headK σ.objs.length (σ.toks.length + 1) 2 [0, 3, 4, 12, 13] (fun k : Nat => [(5, .acc ((outK [] x1.kids nm k).map enc) σ.toks.length), (14, .pv (.int .i64 ↑k))]) (fun k => { σ with toks := σ.toks ++ [⟨k, 24, 4⟩] }) (fun k => k ≤ x1.kids.length) (fun k => x1.kids.length - k) 0 (Nat.zero_le _) ⟨by simp [go_sem, hO], rfl, by simp, by simp, by simp [go_sem, hO, hro, hx0, hx1, hx2, outK_zero, hor], fun ob h => .inl (by simpa [go_sem, hO, hro, hx0, hx1, hx2, outK_zero, hor] using h), by simp [go_sem]⟩ ?_
 intro k hk
 refine awp_seq (aR (by simp [go_sem, hO, hro, hx0, hx1, hx2] <;> rfl) ?_)
 refine awp_seq (awp_cond (by first | rfl | (simp [go_sem, hO, hro, hx0, hx1, hx2] <;> rfl)) (fun h0 => ?_) (fun h0 => ?_))
 ·have hlt : k < x1.kids.length := by simp at h0; omega
  have hw : IntKind.i64.wrap (↑k + 1) = (k : Int) + 1 := wrap_succ (by omega)
  obtain ⟨x, hx, hxm⟩ := get_lt hlt
  have hon := outK_next (pre := []) (h := nm) hx
  have hol := outK_len (pre := []) (h := nm) hk
  rw [List.length_nil, Nat.zero_add] at hol
  have hbb : (k + 1) * 56 ≤ 140737488355328 := by omega
  refine awp_skip ?_
  refine awp_seq (awp_block ?_)
  refine awp_seq (aR (by simp [go_sem, hO, hro, hx0, hx1, hx2, hx, hol, hbb] <;> rfl) ?_)
  refine awp_regDP tyOk tySz 8 (by kernel_rfl) (by decide) ?_
  refine ul_run 6 (by simp [go_sem, hO, hro, hx0, hx1, hx2, hx, hol, hbb] <;> rfl) ?_
  refine ul_fn (by first | (intro _ _ hh; exact hh) | simp [go_sem]) rfl rfl rfl rfl (by simp [go_sem, hO, hro, hx0, hx1, hx2, hx, hol, hbb] <;> rfl) HN.1 (HN.2.2 _ (by exact hgl) (by first | exact hO | rfl) x (by have := D.size_kid_lt hxm; omega) (formed_text (formed_kids (formed_kids hf (List.mem_of_getElem? hx1)) hxm))) (by simp [go_sem, hO, hro, hx0, hx1, hx2, hx, hol, hbb] <;> rfl) (by simp [go_sem, hO, hro, hx0, hx1, hx2, hx, hol, hbb]) (by simp [go_sem, HN.2.1]) rfl ?_
  refine ul_run 1 (by simp [go_sem, hO, hro, hx0, hx1, hx2, hx, hol, hbb] <;> rfl) ?_
  refine ul_nil ?_
  refine aL 2 (by simp [go_sem, hO, hro, hx0, hx1, hx2, hx, hol, hbb] <;> rfl) ?_
  refine al_nil ?_
  refine aR (by simp [go_sem, hO, hro, hx0, hx1, hx2, hx, hol, hbb] <;> rfl) ?_
  exact next_intro (k + 1) σ.objs.length (σ.toks.length + 1) 2 (hlt) (by omega) ⟨by simp [go_sem, hO, hro, hx0, hx1, hx2, hx, hol, hbb, hw, hon, hor], rfl, by simp, by simp, by simp [go_sem, hO, hro, hx0, hx1, hx2, hx, hol, hbb, hw, hon, hor], fun ob h => .inl (by simpa [go_sem, hO, hro, hx0, hx1, hx2, hx, hol, hbb, hw, hon, hor] using h), by simp [go_sem]⟩
 ·have hke : k = x1.kids.length := by simp at h0; omega
  subst hke
  refine awp_exit ?_
  refine then_exit ?_
  refine then_exit ?_
  refine inBlock_hit ?_
  refine awp_seq (awp_regDP tyOk tySz 16 (by kernel_rfl) (by decide) ?_)
  refine ul_run 8 (by simp [go_sem, hO, hro, hx0, hx1, hx2, outK_all] <;> rfl) ?_
  refine ul_fn (by first | (intro _ _ hh; exact hh) | simp [go_sem]) rfl rfl rfl rfl (by simp [go_sem, hO, hro, hx0, hx1, hx2, outK_all] <;> rfl) HL.1 (HL.2.2 _ (by exact hgl) (by first | exact hO | rfl) x0 (by omega) (formed_text (formed_kids hf (List.mem_of_getElem? hx0)))) (by simp [go_sem, hO, hro, hx0, hx1, hx2, outK_all] <;> rfl) (by simp [go_sem, hO, hro, hx0, hx1, hx2, outK_all]) (by simp [go_sem, HL.2.1]) rfl ?_
  refine ul_run 1 (by simp [go_sem, hO, hro, hx0, hx1, hx2, outK_all] <;> rfl) ?_
  refine ul_fn (by first | (intro _ _ hh; exact hh) | simp [go_sem]) rfl rfl rfl rfl (by simp [go_sem, hO, hro, hx0, hx1, hx2, outK_all] <;> rfl) call53 ((c_flat_List (x1.kids.map nm)) _ (by exact hgl)) (by simp [go_sem, hO, hro, hx0, hx1, hx2, outK_all] <;> rfl) (by simp [go_sem, hO, hro, hx0, hx1, hx2, outK_all]) rfl rfl ?_
  refine ul_run 5 (by simp [go_sem, hO, hro, hx0, hx1, hx2, outK_all] <;> rfl) ?_
  refine ul_nil ?_
  refine aF call122 (c_flat_renamer_expr O ro fl fn cl cn bare lab nm hro HL HN x2 _ (by exact hgl) (by first | exact hO | rfl) hok (formed_kids hf (List.mem_of_getElem? hx2)) (by omega)) (by simp [go_sem, hO, hro, hx0, hx1, hx2, outK_all] <;> rfl) (by simp [go_sem, hO, hro, hx0, hx1, hx2, outK_all]) ?_
  refine aL 1 (by simp [go_sem, hO, hro, hx0, hx1, hx2, outK_all] <;> rfl) ?_
  refine aF call53 ((c_flat_List [lab x0, dlist (x1.kids.map nm), rexpr lab nm bare x2]) _ (by exact hgl)) (by simp [go_sem, hO, hro, hx0, hx1, hx2, outK_all] <;> rfl) (by simp [go_sem, hO, hro, hx0, hx1, hx2, outK_all]) ?_
  refine aL 1 (by simp [go_sem, hO, hro, hx0, hx1, hx2, outK_all] <;> rfl) ?_
  refine al_nil ?_
  refine awp_ret ?_
  refine ends_ret (by simp [go_sem] <;> rfl) (by simp [go_sem]) ?_
  exact ⟨by simp [go_sem, hsp], by subst hO; simp [go_sem]⟩

set_option maxHeartbeats 1000000 in
theorem c_canon (p : D) (R : Right p) (fl fn : FuncId) (bare : Bool) (label : Int → D) (nm : D → D) (hlab : ∀ O, LabAt Tryz.prog (GL kr) O fl [] label) (hnm : ∀ O, RenAt Tryz.prog (GL kr) O fn [] nm) : Pur Tryz.prog (GL kr) 54 [.pv (enc p), .func (.func fl) [], .func (.func fn) [], .pv (.bool bare)] (.pv (.slice ((canonL (reach p) label nm bare).map enc))) := by
 refine pur_of fun σ hgl => ?_
 have hsz := R.sz
 have hkl := D.kids_length_lt p
 have hrl : (reach p).length ≤ p.kids.length := (rst_inv R _).len
 have hrm : ∀ x, x ∈ reach p → x ∈ p.kids := (rst_inv R _).mem
 refine acalls_of tyOk Tryz.func54 rfl (by simp [Tryz.f54]) ?_
 refine awp_seq (awp_region_run (sh := [5]) tyOk (by simp [go_sem] <;> rfl) ?_)
 refine awp_seq (awp_reg ?_)
 refine aL 1 (by simp [go_sem] <;> rfl) ?_
 refine aF call62 ((c_flat_reach p R) _ (by exact hgl)) (by simp [go_sem] <;> rfl) (by simp [go_sem]) ?_
 refine aL 1 (by simp [go_sem] <;> rfl) ?_
 refine al_nil ?_
 refine awp_seq (awp_region_run (sh := [10]) tyOk (by simp [go_sem] <;> rfl) ?_)
 refine awp_seq (awp_seq (aR (by simp [go_sem] <;> rfl) ?_))
 refine awp_block ?_
 refine awp_loop_headK (σ.objs.length + 3) σ.toks.length 1 [2, 3, 5, 8, 9, 10, 20, 21] (fun k : Nat => [(22, .pv (.int .i64 ↑k))]) (fun k => withA σ fl (atK (reach p) k)) (fun k => k ≤ (reach p).length) (fun k => (reach p).length - k) 0 (Nat.zero_le _) ⟨by show withA σ fl (atK (reach p) 0) = _; rw [atK_zero]; simp [withA, mapK, mapV, go_sem, List.take_of_length_le], rfl, by simp, by simp, by simp [go_sem], fun ob h => withA_mem h, by simp [go_sem]⟩ ?_
 intro k hk
 refine awp_seq (aR (by simp [go_sem] <;> rfl) ?_)
 refine awp_seq (awp_cond (by first | rfl | (simp [go_sem] <;> rfl)) (fun h0 => ?_) (fun h0 => ?_))
 ·have hlt : k < (reach p).length := by simp at h0; omega
  have hw : IntKind.i64.wrap (↑k + 1) = (k : Int) + 1 := wrap_succ (by omega)
  obtain ⟨x, hx, hxm⟩ := get_lt hlt
  have hxp := hrm x hxm
  obtain ⟨x0, x1, x2, ns, hkk, _⟩ := R.def hxp
  have hx0 : x.kids[0]? = some x0 := by rw [hkk]; rfl
  have hsx := D.size_kid_lt hxp
  have hat := atK_next hx
  rw [head_cons hkk] at hat
  have hg2 := withA_get2 (σ := σ) (fl := fl) (ps := atK (reach p) k)
  have hg1 := withA_get1 (σ := σ) (fl := fl) (ps := atK (reach p) k)
  have hpt := fun (s : St) (d : D) (v : Int) (ho : s.σ.objs[σ.objs.length + 1]? = some (.map (mapK (atK (reach p) k)) (mapV pint (atK (reach p) k)))) => put_par ho d v
  refine awp_skip ?_
  refine awp_seq (awp_block ?_)
  refine awp_seq (aR (by simp [go_sem, hx, hx0, hg1, hg2, hpt] <;> rfl) ?_)
  refine awp_regDP tyOk tySz 7 (by kernel_rfl) (by decide) ?_
  refine ul_run 5 (by simp [go_sem, hx, hx0, hg1, hg2, hpt] <;> rfl) ?_
  refine ul_fn (by first | (intro _ _ hh; exact hh) | simp [go_sem]) rfl rfl rfl rfl (by simp [go_sem, hx, hx0, hg1, hg2, hpt] <;> rfl) call98 ((c_flat_keyOf x0) _ (by exact hgl)) (by simp [go_sem, hx, hx0, hg1, hg2, hpt] <;> rfl) (by simp [go_sem, hx, hx0, hg1, hg2, hpt]) rfl rfl ?_
  refine ul_run 1 (by simp [go_sem, hx, hx0, hg1, hg2, hpt] <;> rfl) ?_
  refine ul_nil ?_
  refine aL 1 (by simp [go_sem, hx, hx0, hg1, hg2, hpt] <;> rfl) ?_
  refine al_nil ?_
  refine aR (by simp [go_sem, hx, hx0, hg1, hg2, hpt] <;> rfl) ?_
  exact next_intro (k + 1) (σ.objs.length + 3) σ.toks.length 1 (hlt) (by omega) ⟨by show withA σ fl (atK (reach p) (k + 1)) = Store.cut _ _ _; rw [hat]; simp [withA, go_sem, List.take_of_length_le], rfl, by simp, by simp, by simp [go_sem, hx, hx0, hg1, hg2, hpt, hw], fun ob h => withA_mem h, by simp [go_sem]⟩
 ·have hke : k = (reach p).length := by simp at h0; omega
  subst hke
  have haa := atK_all (l := reach p)
  refine awp_exit ?_
  refine then_exit ?_
  refine then_exit ?_
  refine inBlock_hit ?_
  refine awp_seq (awp_region_run (sh := [39]) tyOk (by simp [go_sem, haa, withA_no, withA_toks] <;> rfl) ?_)
  refine awp_seq (aR (by simp [go_sem, haa, withA_no, withA_toks] <;> rfl) ?_)
  refine awp_seq (awp_seq (aR (by simp [go_sem, haa, withA_no, withA_toks] <;> rfl) ?_))
  refine awp_adopt' 14 24 4 (by simp [go_sem] <;> rfl) ?_
  have HB : RenAt Tryz.prog (GL kr) (withB σ 99 fl fn (atL (reach p)) bare).objs 99 [.ptr σ.objs.length 0, .ptr (σ.objs.length + 2) 0] (fun f => label (kpar (atL (reach p)) f).1) := ⟨call99, rfl, fun σ2 hgl2 hO2 x hx _ => c_canon_1 _ σ.objs.length (σ.objs.length + 2) (σ.objs.length + 1) fl [] (atL (reach p)) label withB_get0 withB_get2 withB_get1 (hlab _) (fun d => atL_bound d (by omega)) x σ2 hgl2 hO2⟩
  refine awp_block ?_
  refine awp_loop_headK (σ.objs.length + 4) (σ.toks.length + 1) 1 [8, 13, 40, 41] (fun k : Nat => [(14, .acc ((outK [] (reach p) (rdef (fun f => label (kpar (atL (reach p)) f).1) nm bare) k).map enc) σ.toks.length), (42, .pv (.int .i64 ↑k))]) (fun k => { withB σ 99 fl fn (atL (reach p)) bare with toks := σ.toks ++ [⟨k, 24, 4⟩] }) (fun k => k ≤ (reach p).length) (fun k => (reach p).length - k) 0 (Nat.zero_le _) ⟨by show ({ withB σ 99 fl fn (atL (reach p)) bare with toks := _ } : Store) = _; simp [withB, withA, go_sem, haa, List.take_of_length_le], rfl, by simp, by simp, by simp [go_sem, haa, withA_no, withA_toks, outK_zero, withA_toks], fun ob h => withB_mem h, by simp [go_sem]⟩ ?_
  intro k hk
  refine awp_seq (aR (by simp [go_sem, haa, withA_no, withA_toks] <;> rfl) ?_)
  refine awp_seq (awp_cond (by first | rfl | (simp [go_sem, haa, withA_no, withA_toks] <;> rfl)) (fun h1 => ?_) (fun h1 => ?_))
  ·have hlt : k < (reach p).length := by simp at h1; omega
   have hw : IntKind.i64.wrap (↑k + 1) = (k : Int) + 1 := wrap_succ (by omega)
   obtain ⟨x, hx, hxm⟩ := get_lt hlt
   have hxp := hrm x hxm
   obtain ⟨x0, x1, x2, ns, hkk, _⟩ := R.def hxp
   have hok := R.ok hxp
   rw [show d2 x.kids = x2 by rw [hkk]; rfl] at hok
   have hsx := D.size_kid_lt hxp
   have hon := outK_next (pre := []) (h := rdef (fun f => label (kpar (atL (reach p)) f).1) nm bare) hx
   have hol := outK_len (pre := []) (h := rdef (fun f => label (kpar (atL (reach p)) f).1) nm bare) hk
   rw [List.length_nil, Nat.zero_add] at hol
   have hbb : (k + 1) * 56 ≤ 140737488355328 := by omega
   refine awp_skip ?_
   refine awp_seq (awp_block ?_)
   refine awp_seq (aR (by simp [go_sem, haa, withA_no, withA_toks, hx, hol, hbb] <;> rfl) ?_)
   refine awp_reg ?_
   refine aL 3 (by simp [go_sem, haa, withA_no, withA_toks, hx, hol, hbb] <;> rfl) ?_
   refine aF call100 (c_def (withB σ 99 fl fn (atL (reach p)) bare).objs (σ.objs.length + 3) 99 fn [.ptr σ.objs.length 0, .ptr (σ.objs.length + 2) 0] [] bare (fun f => label (kpar (atL (reach p)) f).1) nm withB_get3 HB (hnm _) x x0 x1 x2 hkk hok (formed_kids R.formed hxp) (by omega) _ (by exact hgl) rfl) (by simp [go_sem, haa, withA_no, withA_toks, hx, hol, hbb] <;> rfl) (by simp [go_sem, haa, withA_no, withA_toks, hx, hol, hbb]) ?_
   refine aL 3 (by simp [go_sem, haa, withA_no, withA_toks, hx, hol, hbb] <;> rfl) ?_
   refine al_nil ?_
   refine aR (by simp [go_sem, haa, withA_no, withA_toks, hx, hol, hbb] <;> rfl) ?_
   exact next_intro (k + 1) (σ.objs.length + 4) (σ.toks.length + 1) 1 (hlt) (by omega) ⟨by simp [go_sem, withB_take, withB_toks], rfl, by simp, by simp, by simp [go_sem, haa, withA_no, withA_toks, hx, hol, hbb, hw, hon, withB_toks], fun ob h => withB_mem h, by simp [go_sem]⟩
  ·have hke : k = (reach p).length := by simp at h1; omega
   subst hke
   refine awp_exit ?_
   refine then_exit ?_
   refine then_exit ?_
   refine inBlock_hit ?_
   refine awp_seq (aR (by simp [go_sem, haa, withA_no, withA_toks, outK_all] <;> rfl) ?_)
   refine awp_ret ?_
   refine ends_ret (by simp [go_sem] <;> rfl) (by simp [go_sem]) ?_
   exact ⟨by simp [go_sem, canonL, outK_all], by simp [go_sem, withB_take0, withB_gl, withB_toks]⟩

end Go.Proofs.YtienmmfjjffjaaaGreatDoor

/- Canon, Size, Reach. -/
namespace Go.Proofs.YtienmmfjjffjaaaGreatDoor
open Go Go.Aw
variable {kr : ResO}
set_option maxHeartbeats 1000000 in
theorem c_flat_Canon (p : D) (hp : p.size ≤ 900000000) : Pur Tryz.prog (GL kr) 21 [.pv (enc p)] (.tuple [.pv (enc (fcanon p).1), .pv (.int .i64 (fcanon p).2)]) := by
 refine pur_of fun σ hgl => ?_
 refine acalls_of tyOk Tryz.func21 rfl (by simp [Tryz.f21]) ?_
 refine awp_seq (aR (by simp [go_sem] <;> rfl) ?_)
 refine awp_seq (awp_seq (awp_reg ?_))
 refine aL 1 (by simp [go_sem] <;> rfl) ?_
 refine aF call11 ((c_flat_Check p hp) _ (by exact hgl)) (by simp [go_sem] <;> rfl) (by simp [go_sem]) ?_
 refine aL 1 (by simp [go_sem] <;> rfl) ?_
 refine al_nil ?_
 refine awp_seq (aR (by simp [go_sem] <;> rfl) ?_)
 refine awp_cond (by first | rfl | (simp [go_sem] <;> rfl)) (fun h0 => ?_) (fun h0 => ?_)
 ·refine awp_seq ?_
  refine aR (by simp [go_sem] <;> rfl) ?_
  refine awp_ret ?_
  refine then_ret ?_
  refine ends_ret (by simp [go_sem] <;> rfl) (by simp [go_sem]) ?_
  exact ⟨by simp only [fcanon, enc_none, h0, bA, bB, bC, bD, bE, bF, bG, bH, bI, bJ, Bool.false_eq_true, if_true, if_false]; simp [go_sem], by simp [go_sem]⟩
 ·have R : Right p := ⟨by simpa using h0, hp⟩
  refine awp_skip ?_
  refine awp_seq (awp_reg ?_)
  refine aL 1 (by simp [go_sem] <;> rfl) ?_
  refine aF call54 ((c_canon p R 55 57 false dnum id (fun O => ⟨call55, rfl, fun σ hgl _ n _ _ => c_flat_Canon_1 n σ hgl⟩) (fun O => ⟨call57, rfl, fun σ hgl _ x _ _ => c_flat_Canon_2 x σ hgl⟩)) _ (by exact hgl)) (by simp [go_sem] <;> rfl) (by simp [go_sem]) ?_
  refine aF call53 ((c_flat_List (canonL (reach p) dnum id false)) _ (by exact hgl)) (by simp [go_sem] <;> rfl) (by simp [go_sem]) ?_
  refine aL 2 (by simp [go_sem] <;> rfl) ?_
  refine al_nil ?_
  refine awp_ret ?_
  refine ends_ret (by simp [go_sem] <;> rfl) (by simp [go_sem]) ?_
  exact ⟨by simp only [fcanon, canonD, h0, bA, bB, bC, bD, bE, bF, bG, bH, bI, bJ, Bool.false_eq_true, if_true, if_false]; simp [go_sem], by simp [go_sem]⟩

set_option maxHeartbeats 1000000 in
theorem c_size (d : D) : ∀ σ : Store, σ.gl = (GL kr) → okE d = true → d.size ≤ 1000000000 → PurAt Tryz.prog σ 50 [.pv (enc d)] (.pv (.int .i64 (fsize d))) := by
 induction d using D.ind with
 | _ kind num text kids ih =>
 generalize hD : D.mk kind num text kids = d at *
 have hk : d.kids = kids := by rw [← hD]; rfl
 clear hD
 subst hk
 have hkl := D.kids_length_lt d
 intro σ hgl hok hd
 have hpl := parts_len d
 have hsl := fsize_le d
 have hsp := sizes_parts d
 refine purAt_of ?_
 refine acalls_of tyOk Tryz.func50 rfl (by simp [Tryz.f50]) ?_
 refine awp_seq (aR (by simp [go_sem] <;> rfl) ?_)
 refine awp_seq (aR (by simp [go_sem] <;> rfl) ?_)
 refine awp_seq (awp_seq (awp_reg ?_))
 refine aL 1 (by simp [go_sem] <;> rfl) ?_
 refine aF call96 ((c_flat_Parts d (okE_ne hok) (okE_two hok)) _ (by exact hgl)) (by simp [go_sem] <;> rfl) (by simp [go_sem]) ?_
 refine aL 2 (by simp [go_sem] <;> rfl) ?_
 refine al_nil ?_
 refine awp_block ?_
 refine awp_loop_headK σ.objs.length σ.toks.length 1 [2, 7, 8] (fun k : Nat => [(3, .pv (.int .i64 (1 + ((sumTo fsize (parts d) k : Nat) : Int)))), (9, .pv (.int .i64 ↑k))]) (fun k => σ) (fun k => k ≤ (parts d).length) (fun k => (parts d).length - k) 0 (Nat.zero_le _) ⟨by simp [go_sem, sumTo_zero], rfl, by simp, by simp, by simp [go_sem, sumTo_zero], fun ob h => .inl (by simpa [go_sem, sumTo_zero] using h), by simp [go_sem]⟩ ?_
 intro k hk
 refine awp_seq (aR (by simp [go_sem] <;> rfl) ?_)
 refine awp_seq (awp_cond (by first | rfl | (simp [go_sem] <;> rfl)) (fun h0 => ?_) (fun h0 => ?_))
 ·have hlt : k < (parts d).length := by simp at h0; omega
  have hw : IntKind.i64.wrap (↑k + 1) = (k : Int) + 1 := wrap_succ (by omega)
  obtain ⟨x, hx, hxm⟩ := get_lt hlt
  have hsn := sumTo_next (f := fsize) hx
  have hs1 := sumTo_le (f := fsize) (l := parts d) (k := k) (fun x _ => fsize_le x)
  have hs2 := sumTo_le (f := fsize) (l := parts d) (k := k + 1) (fun x _ => fsize_le x)
  have hwa : IntKind.i64.wrap (1 + ((sumTo fsize (parts d) k : Nat) : Int) + (fsize x : Int)) = 1 + ((sumTo fsize (parts d) (k + 1) : Nat) : Int) := by rw [wrap_id (by omega) (by omega)]; omega
  refine awp_skip ?_
  refine awp_seq (awp_block ?_)
  refine awp_seq (aR (by simp [go_sem, hx, hwa] <;> rfl) ?_)
  refine awp_reg ?_
  refine aL 2 (by simp [go_sem, hx, hwa] <;> rfl) ?_
  refine aF call50 (ih x (parts_mem hxm) _ (by exact hgl) (okE_parts hok x hxm) (by have := D.size_kid_lt (parts_mem hxm); omega)) (by simp [go_sem, hx, hwa] <;> rfl) (by simp [go_sem, hx, hwa]) ?_
  refine aL 2 (by simp [go_sem, hx, hwa] <;> rfl) ?_
  refine al_nil ?_
  refine aR (by simp [go_sem, hx, hwa] <;> rfl) ?_
  exact next_intro (k + 1) σ.objs.length σ.toks.length 1 (hlt) (by omega) ⟨by simp [go_sem, hx, hwa, hw], rfl, by simp, by simp, by simp [go_sem, hx, hwa, hw], fun ob h => .inl (by simpa [go_sem, hx, hwa, hw] using h), by simp [go_sem]⟩
 ·have hke : k = (parts d).length := by simp at h0; omega
  subst hke
  have hsa := sumTo_all (f := fsize) (l := parts d)
  have hse := fsize_eq d
  rw [← hsa] at hse
  refine awp_exit ?_
  refine then_exit ?_
  refine then_exit ?_
  refine inBlock_hit ?_
  refine awp_seq (aR (by simp [go_sem] <;> rfl) ?_)
  refine awp_ret ?_
  refine ends_ret (by simp [go_sem] <;> rfl) (by simp [go_sem]) ?_
  exact ⟨by rw [hse]; simp [go_sem], by simp [go_sem]⟩

set_option maxHeartbeats 1000000 in
theorem c_flat_Size (p : D) (hp : p.size ≤ 900000000) : Pur Tryz.prog (GL kr) 14 [.pv (enc p)] (.tuple [.pv (.int .i64 (fSize p).1), .pv (.int .i64 (fSize p).2)]) := by
 have hkl := D.kids_length_lt p
 have hsk := sizes_kids p
 refine pur_of fun σ hgl => ?_
 refine acalls_of tyOk Tryz.func14 rfl (by simp [Tryz.f14]) ?_
 refine awp_seq (aR (by simp [go_sem] <;> rfl) ?_)
 refine awp_seq (awp_seq (awp_reg ?_))
 refine aL 1 (by simp [go_sem] <;> rfl) ?_
 refine aF call11 ((c_flat_Check p hp) _ (by exact hgl)) (by simp [go_sem] <;> rfl) (by simp [go_sem]) ?_
 refine aL 1 (by simp [go_sem] <;> rfl) ?_
 refine al_nil ?_
 refine awp_seq (aR (by simp [go_sem] <;> rfl) ?_)
 refine awp_cond (by first | rfl | (simp [go_sem] <;> rfl)) (fun h0 => ?_) (fun h0 => ?_)
 ·refine awp_seq ?_
  refine aR (by simp [go_sem] <;> rfl) ?_
  refine awp_ret ?_
  refine then_ret ?_
  refine ends_ret (by simp [go_sem] <;> rfl) (by simp [go_sem]) ?_
  exact ⟨by simp only [fSize, h0, bA, bB, bC, bD, bE, bF, bG, bH, bI, bJ, Bool.false_eq_true, if_true, if_false]; simp [go_sem], by simp [go_sem]⟩
 ·have R : Right p := ⟨by simpa using h0, hp⟩
  refine awp_skip ?_
  refine awp_seq (aR (by simp [go_sem] <;> rfl) ?_)
  refine awp_seq (awp_seq (aR (by simp [go_sem] <;> rfl) ?_))
  refine awp_block ?_
  refine awp_loop_headK σ.objs.length σ.toks.length 1 [2, 3, 14, 15] (fun k : Nat => [(5, .pv (.int .i64 ((sumTo bsize p.kids k : Nat) : Int))), (16, .pv (.int .i64 ↑k))]) (fun k => σ) (fun k => k ≤ p.kids.length) (fun k => p.kids.length - k) 0 (Nat.zero_le _) ⟨by simp [go_sem, sumTo_zero], rfl, by simp, by simp, by simp [go_sem, sumTo_zero], fun ob h => .inl (by simpa [go_sem, sumTo_zero] using h), by simp [go_sem]⟩ ?_
  intro k hk
  refine awp_seq (aR (by simp [go_sem] <;> rfl) ?_)
  refine awp_seq (awp_cond (by first | rfl | (simp [go_sem] <;> rfl)) (fun h1 => ?_) (fun h1 => ?_))
  ·have hlt : k < p.kids.length := by simp at h1; omega
   have hw : IntKind.i64.wrap (↑k + 1) = (k : Int) + 1 := wrap_succ (by omega)
   obtain ⟨x, hx, hxm⟩ := get_lt hlt
   obtain ⟨x0, x1, x2, ns, hkk, _⟩ := R.def hxm
   have hok := R.ok hxm
   have hd2 : d2 x.kids = x2 := by rw [hkk]; rfl
   rw [hd2] at hok
   have hx2 : x.kids[2]? = some x2 := by rw [hkk]; rfl
   have hsx := D.size_kid_lt hxm
   have hsx2 := D.size_kid_lt (List.mem_of_getElem? hx2)
   have hsn := sumTo_next (f := bsize) hx
   rw [show bsize x = fsize x2 by unfold bsize; rw [hd2]] at hsn
   have hs2 := sumTo_le (f := bsize) (l := p.kids) (k := k + 1) (fun x hx => R.bsize_le hx)
   have hwa : IntKind.i64.wrap (((sumTo bsize p.kids k : Nat) : Int) + (fsize x2 : Int)) = ((sumTo bsize p.kids (k + 1) : Nat) : Int) := by rw [wrap_add (by omega), ← hsn]
   refine awp_skip ?_
   refine awp_seq (awp_block ?_)
   refine awp_seq (aR (by simp [go_sem, hx, hx2, hwa] <;> rfl) ?_)
   refine awp_reg ?_
   refine aL 5 (by simp [go_sem, hx, hx2, hwa] <;> rfl) ?_
   refine aF call50 (c_size x2 _ (by exact hgl) hok (by omega)) (by simp [go_sem, hx, hx2, hwa] <;> rfl) (by simp [go_sem, hx, hx2, hwa]) ?_
   refine aL 2 (by simp [go_sem, hx, hx2, hwa] <;> rfl) ?_
   refine al_nil ?_
   refine aR (by simp [go_sem, hx, hx2, hwa] <;> rfl) ?_
   exact next_intro (k + 1) σ.objs.length σ.toks.length 1 (hlt) (by omega) ⟨by simp [go_sem, hx, hx2, hwa, hw], rfl, by simp, by simp, by simp [go_sem, hx, hx2, hwa, hw], fun ob h => .inl (by simpa [go_sem, hx, hx2, hwa, hw] using h), by simp [go_sem]⟩
  ·have hke : k = p.kids.length := by simp at h1; omega
   subst hke
   have hsa := sumTo_all (f := bsize) (l := p.kids)
   refine awp_exit ?_
   refine then_exit ?_
   refine then_exit ?_
   refine inBlock_hit ?_
   refine awp_seq (aR (by simp [go_sem] <;> rfl) ?_)
   refine awp_ret ?_
   refine ends_ret (by simp [go_sem] <;> rfl) (by simp [go_sem]) ?_
   have hs : fSize p = (((sumTo bsize p.kids p.kids.length : Nat) : Int), 0) := by simp only [fSize, h0, bA, bB, bC, bD, bE, bF, bG, bH, bI, bJ, Bool.false_eq_true, if_true, if_false]; rw [hsa]
   exact ⟨by simp [go_sem, hs], by simp [go_sem]⟩

set_option maxHeartbeats 1000000 in
theorem c_flat_Reach (p : D) (hp : p.size ≤ 900000000) : Pur Tryz.prog (GL kr) 25 [.pv (enc p)] (.tuple [.pv (.slice ((fReach p).1.map enc)), .pv (.int .i64 (fReach p).2)]) := by
 have hkl := D.kids_length_lt p
 refine pur_of fun σ hgl => ?_
 refine acalls_of tyOk Tryz.func25 rfl (by simp [Tryz.f25]) ?_
 refine awp_seq (aR (by simp [go_sem] <;> rfl) ?_)
 refine awp_seq (awp_seq (awp_reg ?_))
 refine aL 1 (by simp [go_sem] <;> rfl) ?_
 refine aF call11 ((c_flat_Check p hp) _ (by exact hgl)) (by simp [go_sem] <;> rfl) (by simp [go_sem]) ?_
 refine aL 1 (by simp [go_sem] <;> rfl) ?_
 refine al_nil ?_
 refine awp_seq (aR (by simp [go_sem] <;> rfl) ?_)
 refine awp_cond (by first | rfl | (simp [go_sem] <;> rfl)) (fun h0 => ?_) (fun h0 => ?_)
 ·refine awp_seq ?_
  refine aR (by simp [go_sem] <;> rfl) ?_
  refine awp_ret ?_
  refine then_ret ?_
  refine ends_ret (by simp [go_sem] <;> rfl) (by simp [go_sem]) ?_
  exact ⟨by simp only [fReach, h0, bA, bB, bC, bD, bE, bF, bG, bH, bI, bJ, Bool.false_eq_true, if_true, if_false]; simp [go_sem], by simp [go_sem]⟩
 ·have R : Right p := ⟨by simpa using h0, hp⟩
  have hrl : (reach p).length ≤ p.kids.length := (rst_inv R _).len
  have hrm : ∀ x, x ∈ reach p → x ∈ p.kids := (rst_inv R _).mem
  refine awp_skip ?_
  refine awp_seq (aR (by simp [go_sem] <;> rfl) ?_)
  refine awp_seq (awp_seq (awp_reg ?_))
  refine aL 1 (by simp [go_sem] <;> rfl) ?_
  refine aF call62 ((c_flat_reach p R) _ (by exact hgl)) (by simp [go_sem] <;> rfl) (by simp [go_sem]) ?_
  refine aL 2 (by simp [go_sem] <;> rfl) ?_
  refine al_nil ?_
  refine awp_adopt' 5 24 4 (by simp [go_sem] <;> rfl) ?_
  refine awp_block ?_
  refine awp_loop_headK σ.objs.length (σ.toks.length + 1) 1 [2, 3, 14, 15] (fun k : Nat => [(5, .acc ((outK [] (reach p) D.head k).map enc) σ.toks.length), (16, .pv (.int .i64 ↑k))]) (fun k => { σ with toks := σ.toks ++ [⟨k, 24, 4⟩] }) (fun k => k ≤ (reach p).length) (fun k => (reach p).length - k) 0 (Nat.zero_le _) ⟨by simp [go_sem, outK_zero], rfl, by simp, by simp, by simp [go_sem, outK_zero], fun ob h => .inl (by simpa [go_sem, outK_zero] using h), by simp [go_sem]⟩ ?_
  intro k hk
  refine awp_seq (aR (by simp [go_sem] <;> rfl) ?_)
  refine awp_seq (awp_cond (by first | rfl | (simp [go_sem] <;> rfl)) (fun h1 => ?_) (fun h1 => ?_))
  ·have hlt : k < (reach p).length := by simp at h1; omega
   have hw : IntKind.i64.wrap (↑k + 1) = (k : Int) + 1 := wrap_succ (by omega)
   obtain ⟨x, hx, hxm⟩ := get_lt hlt
   have hxp := hrm x hxm
   obtain ⟨x0, x1, x2, ns, hkk, _⟩ := R.def hxp
   have hx0 : x.kids[0]? = some x0 := by rw [hkk]; rfl
   have hsx := D.size_kid_lt hxp
   have hsx0 := D.size_kid_lt (List.mem_of_getElem? hx0)
   have hon := outK_next (pre := []) (h := D.head) hx
   rw [head_cons hkk] at hon
   have hol := outK_len (pre := []) (h := D.head) hk
   rw [List.length_nil, Nat.zero_add] at hol
   have hbb : (k + 1) * 56 ≤ 140737488355328 := by omega
   refine awp_skip ?_
   refine awp_seq (awp_block ?_)
   refine awp_seq (aR (by simp [go_sem, hx, hx0, hol, hbb] <;> rfl) ?_)
   refine awp_reg ?_
   refine aL 5 (by simp [go_sem, hx, hx0, hol, hbb] <;> rfl) ?_
   refine aF call48 ((c_own x0 (by omega)) _ (by exact hgl)) (by simp [go_sem, hx, hx0, hol, hbb] <;> rfl) (by simp [go_sem, hx, hx0, hol, hbb]) ?_
   refine aL 3 (by simp [go_sem, hx, hx0, hol, hbb] <;> rfl) ?_
   refine al_nil ?_
   refine aR (by simp [go_sem, hx, hx0, hol, hbb] <;> rfl) ?_
   exact next_intro (k + 1) σ.objs.length (σ.toks.length + 1) 1 (hlt) (by omega) ⟨by simp [go_sem, hx, hx0, hol, hbb, hw, hon], rfl, by simp, by simp, by simp [go_sem, hx, hx0, hol, hbb, hw, hon], fun ob h => .inl (by simpa [go_sem, hx, hx0, hol, hbb, hw, hon] using h), by simp [go_sem]⟩
  ·have hke : k = (reach p).length := by simp at h1; omega
   subst hke
   refine awp_exit ?_
   refine then_exit ?_
   refine then_exit ?_
   refine inBlock_hit ?_
   refine awp_seq (aR (by simp [go_sem, outK_all] <;> rfl) ?_)
   refine awp_ret ?_
   refine ends_ret (by simp [go_sem] <;> rfl) (by simp [go_sem]) ?_
   have hs : fReach p = ((reach p).map D.head, 0) := by simp only [fReach, outK_all, h0, bA, bB, bC, bD, bE, bF, bG, bH, bI, bJ, Bool.false_eq_true, if_true, if_false]
   exact ⟨by simp [go_sem, hs], by simp [go_sem]⟩

end Go.Proofs.YtienmmfjjffjaaaGreatDoor

/- Join. -/
namespace Go.Proofs.YtienmmfjjffjaaaGreatDoor
open Go Go.Aw
variable {kr : ResO}
end Go.Proofs.YtienmmfjjffjaaaGreatDoor

/- The specification: Same, Cut. -/
namespace Go.Proofs.YtienmmfjjffjaaaGreatDoor
open Go Go.Aw
variable {kr : ResO}
set_option maxHeartbeats 1000000 in
theorem c_cut (d : D) : ∀ (oc lf : Nat) (dp : Int) (σ : Store), σ.gl = (GL kr) → σ.objs[oc]? = some (.box [.pv (.int .i64 lf)]) → 0 < lf → lf ≤ 3000 → 1 ≤ dp → dp ≤ 2000 → ACalls Tryz.prog 79 [.ptr oc 0, .pv (enc d), .pv (.int .i64 dp)] σ (CutR oc lf σ) := by
 induction d using D.ind with
 | _ kind num text kids ih =>
 generalize hD : D.mk kind num text kids = d at *
 have hk : d.kids = kids := by rw [← hD]; rfl
 clear hD
 subst hk
 intro oc lf dp σ hgl hoc hlf0 hlf hdp hdp2
 have hol := (List.getElem?_eq_some_iff.1 hoc).1
 obtain ⟨tx, htx⟩ : ∃ tx : ByteArray, tx = d.text.extract 0 (if (42 : Int) < d.text.size then (42 : Int) else d.text.size).toNat := ⟨_, rfl⟩
 have hm1 : (0 : Int) ≤ (if (42 : Int) < d.text.size then (42 : Int) else d.text.size) := by split <;> omega
 have hm2 : (if (42 : Int) < d.text.size then (42 : Int) else d.text.size) ≤ d.text.size := by split <;> omega
 have hw1 : IntKind.i64.wrap ((lf : Int) - 1) = ((lf - 1 : Nat) : Int) := by rw [wrap_id (by omega) (by omega)]; omega
 refine cut_less (k := d.kind) (n := d.num) (tx := tx) ?_
 refine acalls_of tyOk Tryz.func79 rfl (by simp [Tryz.f79]) ?_
 refine awp_seq (aR (by simp [go_sem, hoc, hm1, hm2, hw1] <;> rfl) ?_)
 refine awp_seq (aR (by simp [go_sem, hoc, hm1, hm2, hw1] <;> rfl) ?_)
 refine awp_seq (awp_regDP tyOk tySz 13 (by kernel_rfl) (by decide) ?_)
 refine ul_run 13 (by simp [go_sem, hoc, hm1, hm2, hw1] <;> rfl) ?_
 refine ul_nil ?_
 refine aL 1 (by simp [go_sem, hoc, hm1, hm2, hw1] <;> rfl) ?_
 refine al_nil ?_
 refine awp_seq (awp_seq (aR (by simp [go_sem, hoc, hm1, hm2, hw1] <;> rfl) ?_))
 refine awp_adoptL' 2 3 24 4 (by simp [go_sem] <;> rfl) ?_
 refine awp_block ?_
 refine awp_loop_headKL σ.objs.length (σ.toks.length + 1) 3 [0, 2, 4, 6, 7] (fun i : List D × Nat => [(8, .pv (.int .i64 ↑i.1.length))]) (fun i : List D × Nat => [[.pv (.int .i64 d.kind), .pv (.int .i64 d.num), .pv (.str d.text), .pv (.slice (d.kids.map enc))], [.pv (.int .i64 0), .pv (.int .i64 0), .pv (.str ⟨#[]⟩), .pv .nils], [.pv (.int .i64 d.kind), .pv (.int .i64 d.num), .pv (.str tx), .acc (i.1.map enc) σ.toks.length]]) (fun i => { setC σ oc (i.2 : Int) with toks := σ.toks ++ [⟨i.1.length, 24, 4⟩] }) (fun i => D.sizes i.1 + i.2 + 1 ≤ lf ∧ i.1.length ≤ d.kids.length) (fun i => d.kids.length - i.1.length) ([], lf - 1) (⟨by simp [D.sizes]; omega, Nat.zero_le _⟩) ⟨by show ({ setC σ oc _ with toks := _ } : Store) = _; simp [setC, go_sem, List.take_of_length_le], by simp [go_sem, hoc, hm1, hm2, hw1, htx, hol], by simp, by simp, by simp [go_sem, hoc, hm1, hm2, hw1, htx, hol], fun ob h => setC_mem h _ _ _, by simp [go_sem]⟩ ?_
 rintro i ⟨hsz, hil⟩
 have hgc := setC_get (v := (i.2 : Int)) hoc
 have hll := D.length_le_sizes i.1
 refine awp_seq (awp_seq (awp_reg ?_))
 refine aL 6 (by simp [go_sem, hoc, hm1, hm2, hw1, hgc] <;> rfl) ?_
 refine al_splitT 33 (by first | rfl | (simp [go_sem, hoc, hm1, hm2, hw1, hgc] <;> rfl)) (fun h0 => ?_) (fun h0 => ?_)
 ·refine aLG 2 33 true (by simp [go_sem, hoc, hm1, hm2, hw1, hgc] <;> rfl) ?_
  refine aL 2 (by simp [go_sem, hoc, hm1, hm2, hw1, hgc] <;> rfl) ?_
  refine al_splitT 37 (by first | rfl | (simp [go_sem, hoc, hm1, hm2, hw1, hgc] <;> rfl)) (fun h1 => ?_) (fun h1 => ?_)
  ·refine aLG 5 37 true (by simp [go_sem, hoc, hm1, hm2, hw1, hgc] <;> rfl) ?_
   refine aL 1 (by simp [go_sem, hoc, hm1, hm2, hw1, hgc] <;> rfl) ?_
   refine al_nil ?_
   refine awp_cond (by first | rfl | (simp [go_sem, hoc, hm1, hm2, hw1, hgc] <;> rfl)) (fun h2 => ?_) (fun h2 => ?_)
   ·have hlt : i.1.length < d.kids.length := by simpa using h0
    have hlv : 0 < i.2 := by have := h2; simp at this; omega
    have hd1 : (1 : Int) < dp := by have := h1; simp at this; omega
    obtain ⟨x, hx, hxm⟩ := get_lt hlt
    have hwd : IntKind.i64.wrap (dp - 1) = dp - 1 := wrap_id (by omega) (by omega)
    have hbb : (i.1.length + 1) * 56 ≤ 140737488355328 := by omega
    have hw : IntKind.i64.wrap ((i.1.length : Int) + 1) = (i.1.length : Int) + 1 := wrap_succ (by omega)
    refine awp_skip ?_
    refine awp_seq (awp_block ?_)
    refine awp_regDC tyOk tySz 12 (by kernel_rfl) (by decide) ?_
    refine ul_run 10 (by simp [go_sem, hoc, hm1, hm2, hw1, hgc, hx, hwd, hbb, setC_with, setC_toks] <;> rfl) ?_
    refine ul_callW (by simp [go_sem]) rfl rfl rfl rfl (by simp [go_sem, hoc, hm1, hm2, hw1, hgc, hx, hwd, hbb, setC_with, setC_toks] <;> rfl) call79 (ih x hxm oc i.2 (dp - 1) _ (by exact hgl) (setC_get hoc) hlv (by omega) (by omega) (by omega)) (by simp [go_sem, hoc, hm1, hm2, hw1, hgc, hx, hwd, hbb, setC_with, setC_toks] <;> rfl) (by simp [go_sem, hoc, hm1, hm2, hw1, hgc, hx, hwd, hbb, setC_with, setC_toks]) rfl rfl (cutR_some hlv) ?_
    rintro r σ' ⟨d', lv', rfl, rfl, hsz'⟩
    refine ul_run 1 (by simp [go_sem, hoc, hm1, hm2, hw1, hgc, hx, hwd, hbb, setC_with, setC_toks] <;> rfl) ?_
    refine ul_nil ?_
    refine aL 3 (by simp [go_sem, hoc, hm1, hm2, hw1, hgc, hx, hwd, hbb, setC_with, setC_toks] <;> rfl) ?_
    refine al_nil ?_
    refine aR (by simp [go_sem, hoc, hm1, hm2, hw1, hgc, hx, hwd, hbb, setC_with, setC_toks] <;> rfl) ?_
    exact next_intro ((i.1 ++ [d'], lv')) σ.objs.length (σ.toks.length + 1) 3 (⟨by simp [sizes_append, D.sizes]; omega, by simp; omega⟩) (by simp; omega) ⟨by show ({ setC σ oc _ with toks := _ } : Store) = _; simp [setC, go_sem, List.take_of_length_le], by simp [go_sem, hoc, hm1, hm2, hw1, hgc, hx, hwd, hbb, setC_with, setC_toks, hw, hol], by simp, by simp, by simp [go_sem, hoc, hm1, hm2, hw1, hgc, hx, hwd, hbb, setC_with, setC_toks, hw, hol], fun ob h => setC_mem h _ _ _, by simp [go_sem]⟩
   ·refine awp_exit ?_
    refine then_exit ?_
    refine then_exit ?_
    refine inBlock_hit ?_
    refine awp_seq (aR (by simp [go_sem, hoc, hm1, hm2, hw1, hgc] <;> rfl) ?_)
    refine awp_ret ?_
    refine ends_ret (by simp [go_sem] <;> rfl) (by simp [go_sem]) ?_
    exact ⟨i.1, i.2, by simp [go_sem, enc_mk], by simp [setC, go_sem, List.take_of_length_le], by omega⟩
  ·refine aK 5 37 true ?_
   refine aL 1 (by simp [go_sem, hoc, hm1, hm2, hw1, hgc] <;> rfl) ?_
   refine al_nil ?_
   refine awp_cond (b := false) (by simp [go_sem, hoc, hm1, hm2, hw1, hgc, h0, h1]) (fun h => ?_) (fun h => ?_)
   ·cases h
   refine awp_exit ?_
   refine then_exit ?_
   refine then_exit ?_
   refine inBlock_hit ?_
   refine awp_seq (aR (by simp [go_sem, hoc, hm1, hm2, hw1, hgc] <;> rfl) ?_)
   refine awp_ret ?_
   refine ends_ret (by simp [go_sem] <;> rfl) (by simp [go_sem]) ?_
   exact ⟨i.1, i.2, by simp [go_sem, enc_mk], by simp [setC, go_sem, List.take_of_length_le], by omega⟩
 ·refine aK 2 33 true ?_
  refine aL 2 (by simp [go_sem, hoc, hm1, hm2, hw1, hgc] <;> rfl) ?_
  refine aK 5 37 true ?_
  refine aL 1 (by simp [go_sem, hoc, hm1, hm2, hw1, hgc] <;> rfl) ?_
  refine al_nil ?_
  refine awp_cond (b := false) (by simp [go_sem, hoc, hm1, hm2, hw1, hgc, h0]) (fun h => ?_) (fun h => ?_)
  ·cases h
  refine awp_exit ?_
  refine then_exit ?_
  refine then_exit ?_
  refine inBlock_hit ?_
  refine awp_seq (aR (by simp [go_sem, hoc, hm1, hm2, hw1, hgc] <;> rfl) ?_)
  refine awp_ret ?_
  refine ends_ret (by simp [go_sem] <;> rfl) (by simp [go_sem]) ?_
  exact ⟨i.1, i.2, by simp [go_sem, enc_mk], by simp [setC, go_sem, List.take_of_length_le], by omega⟩

set_option maxHeartbeats 1000000 in
theorem c_Cut (d : D) (σ : Store) (hgl : σ.gl = (GL kr)) : ACalls Tryz.prog 35 [.pv (enc d), .pv (.int .i64 3000), .pv (.int .i64 1005)] σ (fun r σ' => ∃ d' : D, r = .pv (enc d') ∧ σ' = σ ∧ d'.size ≤ 3000) := by
 refine ACalls.less (R := fun r σ' => ∃ d' : D, WVt σ.objs.length σ.toks.length 0 r (.pv (enc d')) ∧ σ'.cut σ.objs.length σ.toks.length = σ ∧ d'.size ≤ 3000) ?_ (fun r σ' ⟨d', h1, h2, h3⟩ => ⟨_, _, _, h1, Nat.le_refl _, Nat.le_refl _, fun ob hob => .inl (by rw [← h2]; exact hob), ⟨d', rfl, h2, h3⟩⟩)
 refine acalls_of tyOk Tryz.func35 rfl (by simp [Tryz.f35]) ?_
 refine awp_seq (aR (by simp [go_sem] <;> rfl) ?_)
 refine awp_seq (awp_region_run (sh := [10]) tyOk (by simp [go_sem] <;> rfl) ?_)
 refine awp_seq (awp_reg ?_)
 refine aL 3 (by simp [go_sem] <;> rfl) ?_
 refine al_callW rfl rfl rfl (by simp [go_sem] <;> rfl) call79 (c_cut d σ.objs.length 3000 1005 _ (by exact hgl) (by simp [go_sem]) (by decide) (by decide) (by decide) (by decide)) (by simp [go_sem] <;> rfl) (by simp [go_sem]) rfl rfl ?_
 rintro r σ' ⟨d', lv', rfl, rfl, hsz'⟩
 refine aL 1 (by simp [go_sem] <;> rfl) ?_
 refine al_nil ?_
 refine awp_ret ?_
 refine ends_ret (by simp [go_sem] <;> rfl) (by simp [go_sem]) ?_
 exact ⟨d', by simp [go_sem], by simp [setC, go_sem], by omega⟩

set_option maxHeartbeats 1000000 in
theorem c_Cut17 (d : D) (σ : Store) (hgl : σ.gl = (GL kr)) : ACalls Tryz.prog 9 [.pv (enc d)] σ (fun r σ' => ∃ d' : D, r = .pv (enc d') ∧ σ' = σ ∧ d'.size ≤ 3000) := by
 refine ACalls.less (R := fun r σ' => ∃ d' : D, WVt σ.objs.length σ.toks.length 0 r (.pv (enc d')) ∧ σ'.cut σ.objs.length σ.toks.length = σ ∧ d'.size ≤ 3000) ?_ (fun r σ' ⟨d', h1, h2, h3⟩ => ⟨_, _, _, h1, Nat.le_refl _, Nat.le_refl _, fun ob hob => .inl (by rw [← h2]; exact hob), ⟨d', rfl, h2, h3⟩⟩)
 refine acalls_of tyOk Tryz.func9 rfl (by simp [Tryz.f9]) ?_
 refine awp_seq (aR (by simp [go_sem] <;> rfl) ?_)
 refine awp_seq (awp_reg ?_)
 refine aL 1 (by simp [go_sem] <;> rfl) ?_
 refine al_callW rfl rfl rfl (by simp [go_sem] <;> rfl) call35 (c_Cut d σ hgl) (by simp [go_sem] <;> rfl) (by simp [go_sem]) rfl rfl ?_
 rintro r σ' ⟨d', rfl, rfl, hsz'⟩
 refine aL 1 (by simp [go_sem] <;> rfl) ?_
 refine al_nil ?_
 refine awp_ret ?_
 refine ends_ret (by simp [go_sem] <;> rfl) (by simp [go_sem]) ?_
 exact ⟨d', by simp [go_sem], by simp [go_sem], hsz'⟩

set_option maxHeartbeats 1000000 in
theorem c_Same (d : D) (hd : d.size ≤ 1000000000) : ∀ e : D, Pur Tryz.prog (GL kr) 15 [.pv (enc d), .pv (enc e)] (.pv (.bool (deq d e))) := by
 induction d using D.ind with
 | _ kind num text kids ih =>
 generalize hD : D.mk kind num text kids = d at *
 have hk : d.kids = kids := by rw [← hD]; rfl
 clear hD
 subst hk
 have hkl := D.kids_length_lt d
 intro e
 refine pur_of fun σ hgl => ?_
 refine acalls_of tyOk Tryz.func15 rfl (by simp [Tryz.f15]) ?_
 refine awp_seq (aR (by simp [go_sem] <;> rfl) ?_)
 refine awp_seq (awp_seq (awp_reg ?_))
 refine aL 6 (by simp [go_sem] <;> rfl) ?_
 refine al_splitT 11 (by first | rfl | (simp [go_sem] <;> rfl)) (fun h0 => ?_) (fun h0 => ?_)
 ·refine aK 5 11 false ?_
  refine aL 2 (by simp [go_sem] <;> rfl) ?_
  refine aK 5 18 false ?_
  refine aL 2 (by simp [go_sem] <;> rfl) ?_
  refine aK 7 25 false ?_
  refine aL 1 (by simp [go_sem] <;> rfl) ?_
  refine al_nil ?_
  refine awp_cond (b := true) (by simp [go_sem, h0]) (fun h => ?_) (fun h => ?_)
  rotate_left
  ·cases h
  refine awp_seq (aR (by simp [go_sem] <;> rfl) ?_)
  refine awp_ret ?_
  refine then_ret ?_
  refine ends_ret (by simp [go_sem] <;> rfl) (by simp [go_sem]) ?_
  have hs : deq d e = false := by
    cases hq : deq d e with
    | false => rfl
    | true => have := deq_of hq; subst this; simp at h0
  exact ⟨by simp [go_sem, hs], by simp [go_sem]⟩
 ·refine aLG 5 11 false (by simp [go_sem] <;> rfl) ?_
  refine aL 2 (by simp [go_sem] <;> rfl) ?_
  refine al_splitT 18 (by first | rfl | (simp [go_sem] <;> rfl)) (fun h1 => ?_) (fun h1 => ?_)
  ·refine aK 5 18 false ?_
   refine aL 2 (by simp [go_sem] <;> rfl) ?_
   refine aK 7 25 false ?_
   refine aL 1 (by simp [go_sem] <;> rfl) ?_
   refine al_nil ?_
   refine awp_cond (b := true) (by simp [go_sem, h0, h1]) (fun h => ?_) (fun h => ?_)
   rotate_left
   ·cases h
   refine awp_seq (aR (by simp [go_sem] <;> rfl) ?_)
   refine awp_ret ?_
   refine then_ret ?_
   refine ends_ret (by simp [go_sem] <;> rfl) (by simp [go_sem]) ?_
   have hs : deq d e = false := by
     cases hq : deq d e with
     | false => rfl
     | true => have := deq_of hq; subst this; simp at h1
   exact ⟨by simp [go_sem, hs], by simp [go_sem]⟩
  ·refine aLG 5 18 false (by simp [go_sem] <;> rfl) ?_
   refine aL 2 (by simp [go_sem] <;> rfl) ?_
   refine al_splitT 25 (by first | rfl | (simp [go_sem] <;> rfl)) (fun h2 => ?_) (fun h2 => ?_)
   ·refine aK 7 25 false ?_
    refine aL 1 (by simp [go_sem] <;> rfl) ?_
    refine al_nil ?_
    refine awp_cond (b := true) (by simp [go_sem, h0, h1, h2]) (fun h => ?_) (fun h => ?_)
    rotate_left
    ·cases h
    refine awp_seq (aR (by simp [go_sem] <;> rfl) ?_)
    refine awp_ret ?_
    refine then_ret ?_
    refine ends_ret (by simp [go_sem] <;> rfl) (by simp [go_sem]) ?_
    have hs : deq d e = false := by
      cases hq : deq d e with
      | false => rfl
      | true => have := deq_of hq; subst this; simp at h2
    exact ⟨by simp [go_sem, hs], by simp [go_sem]⟩
   ·refine aLG 7 25 false (by simp [go_sem] <;> rfl) ?_
    refine aL 1 (by simp [go_sem] <;> rfl) ?_
    refine al_nil ?_
    refine awp_cond (by first | rfl | (simp [go_sem] <;> rfl)) (fun h3 => ?_) (fun h3 => ?_)
    ·refine awp_seq ?_
     refine aR (by simp [go_sem] <;> rfl) ?_
     refine awp_ret ?_
     refine then_ret ?_
     refine ends_ret (by simp [go_sem] <;> rfl) (by simp [go_sem]) ?_
     have hs : deq d e = false := by
       cases hq : deq d e with
       | false => rfl
       | true => have := deq_of hq; subst this; simp at h3
     exact ⟨by simp [go_sem, hs], by simp [go_sem]⟩
    ·have hlen : d.kids.length = e.kids.length := by have := h3; simp only [bne_eq_false_iff_eq] at this; omega
     have hzl : (d.kids.zip e.kids).length = d.kids.length := by simp; omega
     refine awp_skip ?_
     refine awp_seq (awp_seq (aR (by simp [go_sem] <;> rfl) ?_))
     refine awp_block ?_
     refine awp_loop_headK σ.objs.length σ.toks.length 2 [2, 3, 4] (fun k : Nat => [(5, .pv (.int .i64 ↑k))]) (fun k => σ) (fun k => k ≤ d.kids.length ∧ NotYet (fun x => !deq x.1 x.2) (d.kids.zip e.kids) k) (fun k => d.kids.length - k) 0 (⟨Nat.zero_le _, .zero⟩) ⟨by simp [go_sem], rfl, by simp, by simp, by simp [go_sem], fun ob h => .inl (by simpa [go_sem] using h), by simp [go_sem]⟩ ?_
     rintro k ⟨hk, hn⟩
     refine awp_seq (awp_seq (aR (by simp [go_sem] <;> rfl) ?_))
     refine awp_cond (by first | rfl | (simp [go_sem] <;> rfl)) (fun h4 => ?_) (fun h4 => ?_)
     ·have hlt : k < d.kids.length := by simp at h4; omega
      have hw : IntKind.i64.wrap (↑k + 1) = (k : Int) + 1 := wrap_succ (by omega)
      obtain ⟨x, hx, hxm⟩ := get_lt hlt
      obtain ⟨y, hy, hym⟩ := get_lt (l := e.kids) (k := k) (by omega)
      refine awp_skip ?_
      refine awp_seq (awp_block ?_)
      refine awp_seq (awp_regDP tyOk tySz 10 (by kernel_rfl) (by decide) ?_)
      refine ul_run 10 (by simp [go_sem, hx, hy] <;> rfl) ?_
      refine ul_nil ?_
      refine aF call15 ((ih x hxm (by have := D.size_kid_lt hxm; omega) y) _ (by exact hgl)) (by simp [go_sem, hx, hy] <;> rfl) (by simp [go_sem, hx, hy]) ?_
      refine aL 1 (by simp [go_sem, hx, hy] <;> rfl) ?_
      refine al_nil ?_
      refine awp_cond (by first | rfl | (simp [go_sem, hx, hy] <;> rfl)) (fun h5 => ?_) (fun h5 => ?_)
      ·refine awp_seq ?_
       refine aR (by simp [go_sem, hx, hy] <;> rfl) ?_
       refine awp_ret ?_
       refine inBlock_ret ?_
       refine then_ret ?_
       refine then_ret ?_
       refine inBlock_ret ?_
       refine then_ret ?_
       refine ends_ret (by simp [go_sem] <;> rfl) (by simp [go_sem]) ?_
       have hall : (d.kids.zip e.kids).all (fun x => deq x.1 x.2) = false := by rw [List.all_eq_false]; exact ⟨(x, y), List.mem_of_getElem? (zip_get hx hy), by simpa using h5⟩
       have hs : deq d e = false := by rw [deq_eq]; unfold eqf; rw [hall]; simp
       exact ⟨by simp [go_sem, hs], by simp [go_sem]⟩
      ·refine awp_skip ?_
       refine aR (by simp [go_sem, hx, hy] <;> rfl) ?_
       exact next_intro (k + 1) σ.objs.length σ.toks.length 2 (⟨hlt, hn.succ (zip_get hx hy) (by simpa using h5)⟩) (by omega) ⟨by simp [go_sem, hx, hy, hw], rfl, by simp, by simp, by simp [go_sem, hx, hy, hw], fun ob h => .inl (by simpa [go_sem, hx, hy, hw] using h), by simp [go_sem]⟩
     ·have hke : k = d.kids.length := by simp at h4; omega
      subst hke
      have hall : (d.kids.zip e.kids).all (fun x => deq x.1 x.2) = true := by have := (hzl ▸ hn : NotYet _ (d.kids.zip e.kids) (d.kids.zip e.kids).length).all; rw [List.all_eq_true]; intro z hz; simpa using this z hz
      refine awp_exit ?_
      refine then_exit ?_
      refine then_exit ?_
      refine inBlock_hit ?_
      refine awp_seq (aR (by simp [go_sem] <;> rfl) ?_)
      refine awp_ret ?_
      refine ends_ret (by simp [go_sem] <;> rfl) (by simp [go_sem]) ?_
      have hs : deq d e = true := by
        have e0 : d.kind = e.kind := by simpa using h0
        have e1 : d.num = e.num := by simpa using h1
        have e2 : d.text = e.text := by simpa using h2
        rw [deq_eq]; unfold eqf; rw [hall]; simp [e0, e1, e2, hlen]
      exact ⟨by simp [go_sem, hs], by simp [go_sem]⟩

end Go.Proofs.YtienmmfjjffjaaaGreatDoor

/- The specification: contracts of small functions. -/
namespace Go.Proofs.YtienmmfjjffjaaaGreatDoor
open Go Go.Aw
variable {kr : ResO}
def ren173 : Go.Shelf.Ren := ⟨fun x => match x with | 173 => 84 | 246 => 116 | 283 => 133 | 284 => 134 | 285 => 135 | 286 => 136 | 129 => 144 | 317 => 143 | 318 => 145 | 319 => 146 | 320 => 147 | 337 => 150 | 338 => 151 | n => n, fun x => match x with | 2 => 2 | 3 => 3 | 9 => 9 | 4 => 4 | 171 => 139 | 0 => 0 | 53 => 140 | 37 => 143 | 5 => 5 | 173 => 144 | 212 => 154 | 51 => 155 | 20 => 20 | 213 => 156 | 46 => 158 | 232 => 165 | 233 => 166 | n => n, fun x => match x with | 17 => 2 | 18 => 3 | 19 => 4 | n => n⟩
theorem lays173 : Go.Proofs.LaysM.n173 Tryz.prog ren173 :=
  {
    mixed := by kernel_rfl,
    f129 := Eq.trans Tryz.func144 (congrArg some (by kernel_rfl)),
    f173 := Eq.trans Tryz.func84 (congrArg some (by kernel_rfl)),
    f246 := Eq.trans Tryz.func116 (congrArg some (by kernel_rfl)),
    f283 := Eq.trans Tryz.func133 (congrArg some (by kernel_rfl)),
    f284 := Eq.trans Tryz.func134 (congrArg some (by kernel_rfl)),
    f285 := Eq.trans Tryz.func135 (congrArg some (by kernel_rfl)),
    f286 := Eq.trans Tryz.func136 (congrArg some (by kernel_rfl)),
    f317 := Eq.trans Tryz.func143 (congrArg some (by kernel_rfl)),
    f318 := Eq.trans Tryz.func145 (congrArg some (by kernel_rfl)),
    f319 := Eq.trans Tryz.func146 (congrArg some (by kernel_rfl)),
    f320 := Eq.trans Tryz.func147 (congrArg some (by kernel_rfl)),
    f337 := Eq.trans Tryz.func150 (congrArg some (by kernel_rfl)),
    f338 := Eq.trans Tryz.func151 (congrArg some (by kernel_rfl)),
    t0 := Tryz.underlying0,
    a0 := Tryz.isAgg0,
    z0 := Tryz.sizeOf0,
    v0 := Tryz.zeroValue0,
    t2 := Tryz.underlying2,
    a2 := Tryz.isAgg2,
    z2 := Tryz.sizeOf2,
    v2 := Tryz.zeroValue2,
    t3 := Tryz.underlying3,
    a3 := Tryz.isAgg3,
    z3 := Tryz.sizeOf3,
    v3 := Tryz.zeroValue3,
    t4 := Tryz.underlying4,
    a4 := Tryz.isAgg4,
    z4 := Tryz.sizeOf4,
    v4 := Tryz.zeroValue4,
    t5 := Tryz.underlying5,
    a5 := Tryz.isAgg5,
    z5 := Tryz.sizeOf5,
    v5 := Tryz.zeroValue5,
    t9 := Tryz.underlying9,
    a9 := Tryz.isAgg9,
    z9 := Tryz.sizeOf9,
    v9 := Tryz.zeroValue9,
    t20 := Tryz.underlying20,
    a20 := Tryz.isAgg20,
    z20 := Tryz.sizeOf20,
    v20 := Tryz.zeroValue20,
    t37 := Tryz.underlying143,
    a37 := Tryz.isAgg143,
    z37 := Tryz.sizeOf143,
    v37 := Tryz.zeroValue143,
    t46 := Tryz.underlying158,
    a46 := Tryz.isAgg158,
    z46 := Tryz.sizeOf158,
    v46 := Tryz.zeroValue158,
    t51 := Tryz.underlying155,
    a51 := Tryz.isAgg155,
    z51 := Tryz.sizeOf155,
    v51 := Tryz.zeroValue155,
    t53 := Tryz.underlying140,
    a53 := Tryz.isAgg140,
    z53 := Tryz.sizeOf140,
    v53 := Tryz.zeroValue140,
    t171 := Tryz.underlying139,
    a171 := Tryz.isAgg139,
    z171 := Tryz.sizeOf139,
    v171 := Tryz.zeroValue139,
    t173 := Tryz.underlying144,
    a173 := Tryz.isAgg144,
    z173 := Tryz.sizeOf144,
    v173 := Tryz.zeroValue144,
    t212 := Tryz.underlying154,
    a212 := Tryz.isAgg154,
    z212 := Tryz.sizeOf154,
    v212 := Tryz.zeroValue154,
    t213 := Tryz.underlying156,
    a213 := Tryz.isAgg156,
    z213 := Tryz.sizeOf156,
    t232 := Tryz.underlying165,
    a232 := Tryz.isAgg165,
    z232 := Tryz.sizeOf165,
    v232 := Tryz.zeroValue165,
    t233 := Tryz.underlying166,
    a233 := Tryz.isAgg166,
    z233 := Tryz.sizeOf166,
    v233 := Tryz.zeroValue166,
    g17 := by kernel_rfl,
    g18 := by kernel_rfl,
    g19 := by kernel_rfl,
    i0 := by kernel_rfl,
    i2 := by kernel_rfl,
    i3 := by kernel_rfl,
    i4 := by kernel_rfl,
    i5 := by kernel_rfl,
    i9 := by kernel_rfl,
    i20 := by kernel_rfl,
    i37 := by kernel_rfl,
    i46 := by kernel_rfl,
    i51 := by kernel_rfl,
    i53 := by kernel_rfl,
    i171 := by kernel_rfl,
    i173 := by kernel_rfl,
    i212 := by kernel_rfl,
    i232 := by kernel_rfl,
    i233 := by kernel_rfl,
    m17 := by kernel_rfl,
    m18 := by kernel_rfl,
    m19 := by kernel_rfl }
theorem gPow : Tryz.prog.globalNamed "internal/strconv.uint64pow10" = some 2 := by kernel_rfl
theorem c_FormatInt (n : Int) (h0 : -9223372036854775808 ≤ n) (h1 : n ≤ 9223372036854775807) : Pur Tryz.prog (GL kr) 84 [.pv (.int .i64 n), .pv (.int .i64 10)] (.pv (.str (itoaB n))) :=
  pur_of_callsT (ps := [.int .i64 n, .int .i64 10]) [.int .i64, .int .i64] rfl .str rfl gPow (by simp [GL]) fun w ht => Go.Proofs.Any.strconv_FormatInt_10 lays173 n h0 h1 w ht
set_option maxHeartbeats 1000000 in
theorem c_words  : Pur Tryz.prog (GL kr) 142 [] (.pv (.slice (words7.map .str))) := by
 refine pur_of fun σ hgl => ?_
 refine acalls_of tyOk Tryz.func142 rfl (by simp [Tryz.f142]) ?_
 refine awp_seq (aR (by simp [go_sem] <;> rfl) ?_)
 refine awp_seq (aR (by simp [go_sem] <;> rfl) ?_)
 refine awp_ret ?_
 refine ends_ret (by simp [go_sem] <;> rfl) (by simp [go_sem]) ?_
 exact ⟨by simp [go_sem, words7], by simp [go_sem]⟩

set_option maxHeartbeats 1000000 in
theorem c_Reserved (s : ByteArray) : Pur Tryz.prog (GL kr) 132 [.pv (.str s)] (.pv (.int .i64 (reserved s))) := by
 have h7 : words7.length = 7 := rfl
 refine pur_of fun σ hgl => ?_
 refine acalls_of tyOk Tryz.func132 rfl (by simp [Tryz.f132]) ?_
 refine awp_seq (aR (by simp [go_sem] <;> rfl) ?_)
 refine awp_seq (awp_reg ?_)
 refine aF call142 ((c_words) _ (by exact hgl)) (by simp [go_sem] <;> rfl) (by simp [go_sem]) ?_
 refine aL 1 (by simp [go_sem] <;> rfl) ?_
 refine al_nil ?_
 refine awp_seq (awp_seq (aR (by simp [go_sem] <;> rfl) ?_))
 refine awp_block ?_
 refine awp_loop_headK σ.objs.length σ.toks.length 0 [0, 2, 3] (fun k : Nat => [(4, .pv (.int .i64 ↑k))]) (fun k => σ) (fun k => k ≤ words7.length ∧ NotYet (fun w => decide (w = s)) words7 k) (fun k => words7.length - k) 0 (⟨Nat.zero_le _, .zero⟩) ⟨by simp [go_sem], rfl, by simp, by simp, by simp [go_sem], fun ob h => .inl (by simpa [go_sem] using h), by simp [go_sem]⟩ ?_
 rintro k ⟨hk, hn⟩
 refine awp_seq (awp_seq (aR (by simp [go_sem] <;> rfl) ?_))
 refine awp_cond (by first | rfl | (simp [go_sem] <;> rfl)) (fun h0 => ?_) (fun h0 => ?_)
 ·have hlt : k < words7.length := by simp at h0; omega
  have hw : IntKind.i64.wrap (↑k + 1) = (k : Int) + 1 := wrap_succ (by omega)
  obtain ⟨x, hx, hxm⟩ := get_lt hlt
  have hw3 : IntKind.i64.wrap (3 + (k : Int)) = 3 + k := wrap_id (by omega) (by omega)
  refine awp_skip ?_
  refine awp_seq (awp_block ?_)
  refine awp_seq (aR (by simp [go_sem, hx, hw3] <;> rfl) ?_)
  refine awp_cond (by first | rfl | (simp [go_sem, hx, hw3] <;> rfl)) (fun h1 => ?_) (fun h1 => ?_)
  ·refine awp_seq ?_
   refine aR (by simp [go_sem, hx, hw3] <;> rfl) ?_
   refine awp_ret ?_
   refine inBlock_ret ?_
   refine then_ret ?_
   refine then_ret ?_
   refine inBlock_ret ?_
   refine then_ret ?_
   refine ends_ret (by simp [go_sem] <;> rfl) (by simp [go_sem]) ?_
   have hs : reserved s = 3 + (k : Int) := by have e : resI s = k := idxOf_found hn hx h1; unfold reserved; rw [e, if_neg (by omega)]
   exact ⟨by simp [go_sem, hs], by simp [go_sem]⟩
  ·refine awp_skip ?_
   refine aR (by simp [go_sem, hx, hw3] <;> rfl) ?_
   exact next_intro (k + 1) σ.objs.length σ.toks.length 0 (⟨hlt, hn.succ hx h1⟩) (by omega) ⟨by simp [go_sem, hx, hw3, hw], rfl, by simp, by simp, by simp [go_sem, hx, hw3, hw], fun ob h => .inl (by simpa [go_sem, hx, hw3, hw] using h), by simp [go_sem]⟩
 ·have hke : k = words7.length := by simp at h0; omega
  subst hke
  refine awp_exit ?_
  refine then_exit ?_
  refine then_exit ?_
  refine inBlock_hit ?_
  refine awp_seq (aR (by simp [go_sem] <;> rfl) ?_)
  refine awp_ret ?_
  refine ends_ret (by simp [go_sem] <;> rfl) (by simp [go_sem]) ?_
  have hs : reserved s = 0 := by have e : resI s = -1 := idxOf_none hn; unfold reserved; rw [e]; rfl
  exact ⟨by simp [go_sem, hs], by simp [go_sem]⟩

set_option maxHeartbeats 1000000 in
theorem c_Name04 (s : ByteArray) : Pur Tryz.prog (GL kr) 115 [.pv (.str s)] (.pv (.bool (name04 s))) := by
 refine pur_of fun σ hgl => ?_
 refine acalls_of tyOk Tryz.func115 rfl (by simp [Tryz.f115]) ?_
 refine awp_seq (aR (by simp [go_sem] <;> rfl) ?_)
 refine awp_seq (awp_reg ?_)
 refine aL 1 (by simp [go_sem] <;> rfl) ?_
 refine aF call105 ((c_pagodaref01_Symbol s) _ (by exact hgl)) (by simp [go_sem] <;> rfl) (by simp [go_sem]) ?_
 refine aL 1 (by simp [go_sem] <;> rfl) ?_
 refine al_splitT 5 (by first | rfl | (simp [go_sem] <;> rfl)) (fun h0 => ?_) (fun h0 => ?_)
 ·refine aLG 1 5 true (by simp [go_sem] <;> rfl) ?_
  refine al_fnG 5 true true (by simp [go_sem]) rfl (by simp [go_sem]) rfl rfl (by simp [go_sem] <;> rfl) call132 ((c_Reserved s) _ (by exact hgl)) (by simp [go_sem] <;> rfl) (by simp [go_sem]) rfl rfl ?_
  refine aLG 1 5 true (by simp [go_sem] <;> rfl) ?_
  refine aL 2 (by simp [go_sem] <;> rfl) ?_
  refine al_nil ?_
  refine awp_ret ?_
  refine ends_ret (by simp [go_sem] <;> rfl) (by simp [go_sem]) ?_
  exact ⟨by simp only [name04, h0, bA, bB, bC, bD, bE, bF, bG, bH, bI, bJ, Bool.false_eq_true, if_true, if_false]; simp [go_sem], by simp [go_sem]⟩
 ·refine aK 3 5 true ?_
  refine aL 2 (by simp [go_sem] <;> rfl) ?_
  refine al_nil ?_
  refine awp_ret ?_
  refine ends_ret (by simp [go_sem] <;> rfl) (by simp [go_sem]) ?_
  exact ⟨by simp only [name04, h0, bA, bB, bC, bD, bE, bF, bG, bH, bI, bJ, Bool.false_eq_true, if_true, if_false]; simp [go_sem], by simp [go_sem]⟩

set_option maxHeartbeats 1000000 in
theorem c_Name (s : ByteArray) : Pur Tryz.prog (GL kr) 83 [.pv (.str s)] (.pv (.bool (rname s))) := by
 refine pur_of fun σ hgl => ?_
 refine acalls_of tyOk Tryz.func83 rfl (by simp [Tryz.f83]) ?_
 refine awp_seq (aR (by simp [go_sem] <;> rfl) ?_)
 refine awp_seq (awp_reg ?_)
 refine aL 1 (by simp [go_sem] <;> rfl) ?_
 refine aF call115 ((c_Name04 s) _ (by exact hgl)) (by simp [go_sem] <;> rfl) (by simp [go_sem]) ?_
 refine aL 1 (by simp [go_sem] <;> rfl) ?_
 refine al_splitT 5 (by first | rfl | (simp [go_sem] <;> rfl)) (fun h0 => ?_) (fun h0 => ?_)
 ·refine aLG 2 5 true (by simp [go_sem] <;> rfl) ?_
  refine aL 2 (by simp [go_sem] <;> rfl) ?_
  refine al_nil ?_
  refine awp_ret ?_
  refine ends_ret (by simp [go_sem] <;> rfl) (by simp [go_sem]) ?_
  exact ⟨by simp only [rname, eCall, h0, bA, bB, bC, bD, bE, bF, bG, bH, bI, bJ, Bool.false_eq_true, if_true, if_false]; first | (simp [go_sem]; done) | (simp [go_sem]; rfl), by simp [go_sem]⟩
 ·refine aK 2 5 true ?_
  refine aL 2 (by simp [go_sem] <;> rfl) ?_
  refine al_nil ?_
  refine awp_ret ?_
  refine ends_ret (by simp [go_sem] <;> rfl) (by simp [go_sem]) ?_
  exact ⟨by simp only [rname, eCall, h0, bA, bB, bC, bD, bE, bF, bG, bH, bI, bJ, Bool.false_eq_true, if_true, if_false]; first | (simp [go_sem]; done) | (simp [go_sem]; rfl), by simp [go_sem]⟩

set_option maxHeartbeats 1000000 in
theorem c_Label (d : D) : Pur Tryz.prog (GL kr) 41 [.pv (enc d)] (.pv (.bool (rlabel d))) := by
 refine pur_of fun σ hgl => ?_
 refine acalls_of tyOk Tryz.func41 rfl (by simp [Tryz.f41]) ?_
 refine awp_seq (aR (by simp [go_sem] <;> rfl) ?_)
 refine awp_seq (awp_seq (aR (by simp [go_sem] <;> rfl) ?_))
 refine awp_block ?_
 refine awp_seq (aR (by simp [go_sem] <;> rfl) ?_)
 refine awp_cond (by first | rfl | (simp [go_sem] <;> rfl)) (fun h0 => ?_) (fun h0 => ?_)
 ·refine awp_seq ?_
  refine awp_reg ?_
  refine aL 2 (by simp [go_sem] <;> rfl) ?_
  refine aF call83 ((c_Name d.text) _ (by exact hgl)) (by simp [go_sem] <;> rfl) (by simp [go_sem]) ?_
  refine aL 1 (by simp [go_sem] <;> rfl) ?_
  refine al_nil ?_
  refine awp_ret ?_
  refine inBlock_ret ?_
  refine then_ret ?_
  refine ends_ret (by simp [go_sem] <;> rfl) (by simp [go_sem]) ?_
  exact ⟨by simp only [rlabel, h0, bA, bB, bC, bD, bE, bF, bG, bH, bI, bJ, Bool.false_eq_true, if_true, if_false]; simp [go_sem], by simp [go_sem]⟩
 ·refine awp_seq ?_
  refine aR (by simp [go_sem] <;> rfl) ?_
  refine awp_cond (by first | rfl | (simp [go_sem] <;> rfl)) (fun h1 => ?_) (fun h1 => ?_)
  ·refine awp_seq ?_
   refine awp_reg ?_
   refine aL 4 (by simp [go_sem] <;> rfl) ?_
   refine al_splitT 15 (by first | rfl | (simp [go_sem] <;> rfl)) (fun h2 => ?_) (fun h2 => ?_)
   ·refine aLG 3 15 true (by simp [go_sem] <;> rfl) ?_
    refine aL 2 (by simp [go_sem] <;> rfl) ?_
    refine al_nil ?_
    refine awp_ret ?_
    refine inBlock_ret ?_
    refine then_ret ?_
    refine ends_ret (by simp [go_sem] <;> rfl) (by simp [go_sem]) ?_
    exact ⟨by simp only [rlabel, h0, h1, h2, bA, bB, bC, bD, bE, bF, bG, bH, bI, bJ, Bool.false_eq_true, if_true, if_false]; simp [go_sem], by simp [go_sem]⟩
   ·refine aK 3 15 true ?_
    refine aL 2 (by simp [go_sem] <;> rfl) ?_
    refine al_nil ?_
    refine awp_ret ?_
    refine inBlock_ret ?_
    refine then_ret ?_
    refine ends_ret (by simp [go_sem] <;> rfl) (by simp [go_sem]) ?_
    exact ⟨by simp only [rlabel, h0, h1, h2, bA, bB, bC, bD, bE, bF, bG, bH, bI, bJ, Bool.false_eq_true, if_true, if_false]; simp [go_sem], by simp [go_sem]⟩
  ·refine awp_skip ?_
   refine awp_seq (aR (by simp [go_sem] <;> rfl) ?_)
   refine awp_ret ?_
   refine ends_ret (by simp [go_sem] <;> rfl) (by simp [go_sem]) ?_
   exact ⟨by simp only [rlabel, h0, h1, bA, bB, bC, bD, bE, bF, bG, bH, bI, bJ, Bool.false_eq_true, if_true, if_false]; simp [go_sem], by simp [go_sem]⟩

set_option maxHeartbeats 1000000 in
theorem c_Among (l : List ByteArray) (hl : l.length ≤ 1000000000) (s : ByteArray) : Pur Tryz.prog (GL kr) 85 [.pv (.slice (l.map .str)), .pv (.str s)] (.pv (.bool (l.any fun y => decide (y = s)))) := by
 refine pur_of fun σ hgl => ?_
 refine acalls_of tyOk Tryz.func85 rfl (by simp [Tryz.f85]) ?_
 refine awp_seq (aR (by simp [go_sem] <;> rfl) ?_)
 refine awp_seq (awp_seq (aR (by simp [go_sem] <;> rfl) ?_))
 refine awp_block ?_
 refine awp_loop_headK σ.objs.length σ.toks.length 0 [0, 1, 4] (fun k : Nat => [(5, .pv (.int .i64 ↑k))]) (fun k => σ) (fun k => k ≤ l.length ∧ NotYet (fun y => decide (y = s)) l k) (fun k => l.length - k) 0 (⟨Nat.zero_le _, .zero⟩) ⟨by simp [go_sem], rfl, by simp, by simp, by simp [go_sem], fun ob h => .inl (by simpa [go_sem] using h), by simp [go_sem]⟩ ?_
 rintro k ⟨hk, hn⟩
 refine awp_seq (awp_seq (aR (by simp [go_sem] <;> rfl) ?_))
 refine awp_cond (by first | rfl | (simp [go_sem] <;> rfl)) (fun h0 => ?_) (fun h0 => ?_)
 ·have hlt : k < l.length := by simp at h0; omega
  have hw : IntKind.i64.wrap (↑k + 1) = (k : Int) + 1 := wrap_succ (by omega)
  obtain ⟨x, hx, hxm⟩ := get_lt hlt
  refine awp_skip ?_
  refine awp_seq (awp_block ?_)
  refine awp_seq (aR (by simp [go_sem, hx] <;> rfl) ?_)
  refine awp_cond (by first | rfl | (simp [go_sem, hx] <;> rfl)) (fun h1 => ?_) (fun h1 => ?_)
  ·refine awp_seq ?_
   refine aR (by simp [go_sem, hx] <;> rfl) ?_
   refine awp_ret ?_
   refine inBlock_ret ?_
   refine then_ret ?_
   refine then_ret ?_
   refine inBlock_ret ?_
   refine then_ret ?_
   refine ends_ret (by simp [go_sem] <;> rfl) (by simp [go_sem]) ?_
   have hany : (l.any fun y => decide (y = s)) = true := any_found (p := fun y => decide (y = s)) hx h1
   exact ⟨by simp only [hany]; simp [go_sem], by simp [go_sem]⟩
  ·refine awp_skip ?_
   refine aR (by simp [go_sem, hx] <;> rfl) ?_
   exact next_intro (k + 1) σ.objs.length σ.toks.length 0 (⟨hlt, hn.succ hx h1⟩) (by omega) ⟨by simp [go_sem, hx, hw], rfl, by simp, by simp, by simp [go_sem, hx, hw], fun ob h => .inl (by simpa [go_sem, hx, hw] using h), by simp [go_sem]⟩
 ·have hke : k = l.length := by simp at h0; omega
  subst hke
  have hany := hn.any
  refine awp_exit ?_
  refine then_exit ?_
  refine then_exit ?_
  refine inBlock_hit ?_
  refine awp_seq (aR (by simp [go_sem, hany] <;> rfl) ?_)
  refine awp_ret ?_
  refine ends_ret (by simp [go_sem] <;> rfl) (by simp [go_sem]) ?_
  exact ⟨by simp only [hany]; simp [go_sem], by simp [go_sem]⟩

set_option maxHeartbeats 1000000 in
theorem c_Arity07 (s : ByteArray) : Pur Tryz.prog (GL kr) 87 [.pv (.str s)] (.tuple [.pv (.int .i64 (arity s).1), .pv (.bool (arity s).2)]) := by
 rw [← arityR_eq]
 refine pur_of fun σ hgl => ?_
 refine acalls_of tyOk Tryz.func87 rfl (by simp [Tryz.f87]) ?_
 refine awp_seq (aR (by simp [go_sem] <;> rfl) ?_)
 refine awp_seq (awp_seq (aR (by simp [go_sem] <;> rfl) ?_))
 refine awp_block ?_
 refine awp_seq (awp_seq (aR (by simp [go_sem] <;> rfl) ?_))
 refine awp_cond (by first | rfl | (simp [go_sem] <;> rfl)) (fun h0 => ?_) (fun h0 => ?_)
 ·refine awp_skip ?_
  refine awp_cond (b := true) (by simp [go_sem, h0]) (fun h => ?_) (fun h => ?_)
  rotate_left
  ·cases h
  refine awp_seq (aR (by simp [go_sem] <;> rfl) ?_)
  refine awp_ret ?_
  refine inBlock_ret ?_
  refine then_ret ?_
  refine ends_ret (by simp [go_sem] <;> rfl) (by simp [go_sem]) ?_
  exact ⟨by simp only [arityR, ar2, ar1, List.any_cons, List.any_nil, h0, bA, bB, bC, bD, bE, bF, bG, bH, bI, bJ, Bool.false_eq_true, if_true, if_false]; simp [go_sem], by simp [go_sem]⟩
 ·refine awp_seq ?_
  refine aR (by simp [go_sem] <;> rfl) ?_
  refine awp_cond (by first | rfl | (simp [go_sem] <;> rfl)) (fun h1 => ?_) (fun h1 => ?_)
  ·refine awp_skip ?_
   refine awp_cond (b := true) (by simp [go_sem, h0, h1]) (fun h => ?_) (fun h => ?_)
   rotate_left
   ·cases h
   refine awp_seq (aR (by simp [go_sem] <;> rfl) ?_)
   refine awp_ret ?_
   refine inBlock_ret ?_
   refine then_ret ?_
   refine ends_ret (by simp [go_sem] <;> rfl) (by simp [go_sem]) ?_
   exact ⟨by simp only [arityR, ar2, ar1, List.any_cons, List.any_nil, h0, h1, bA, bB, bC, bD, bE, bF, bG, bH, bI, bJ, Bool.false_eq_true, if_true, if_false]; simp [go_sem], by simp [go_sem]⟩
  ·refine awp_seq ?_
   refine aR (by simp [go_sem] <;> rfl) ?_
   refine awp_cond (by first | rfl | (simp [go_sem] <;> rfl)) (fun h2 => ?_) (fun h2 => ?_)
   ·refine awp_skip ?_
    refine awp_cond (b := true) (by simp [go_sem, h0, h1, h2]) (fun h => ?_) (fun h => ?_)
    rotate_left
    ·cases h
    refine awp_seq (aR (by simp [go_sem] <;> rfl) ?_)
    refine awp_ret ?_
    refine inBlock_ret ?_
    refine then_ret ?_
    refine ends_ret (by simp [go_sem] <;> rfl) (by simp [go_sem]) ?_
    exact ⟨by simp only [arityR, ar2, ar1, List.any_cons, List.any_nil, h0, h1, h2, bA, bB, bC, bD, bE, bF, bG, bH, bI, bJ, Bool.false_eq_true, if_true, if_false]; simp [go_sem], by simp [go_sem]⟩
   ·refine awp_seq ?_
    refine aR (by simp [go_sem] <;> rfl) ?_
    refine awp_cond (by first | rfl | (simp [go_sem] <;> rfl)) (fun h3 => ?_) (fun h3 => ?_)
    ·refine awp_skip ?_
     refine awp_cond (b := true) (by simp [go_sem, h0, h1, h2, h3]) (fun h => ?_) (fun h => ?_)
     rotate_left
     ·cases h
     refine awp_seq (aR (by simp [go_sem] <;> rfl) ?_)
     refine awp_ret ?_
     refine inBlock_ret ?_
     refine then_ret ?_
     refine ends_ret (by simp [go_sem] <;> rfl) (by simp [go_sem]) ?_
     exact ⟨by simp only [arityR, ar2, ar1, List.any_cons, List.any_nil, h0, h1, h2, h3, bA, bB, bC, bD, bE, bF, bG, bH, bI, bJ, Bool.false_eq_true, if_true, if_false]; simp [go_sem], by simp [go_sem]⟩
    ·refine awp_seq ?_
     refine aR (by simp [go_sem] <;> rfl) ?_
     refine awp_cond (by first | rfl | (simp [go_sem] <;> rfl)) (fun h4 => ?_) (fun h4 => ?_)
     ·refine awp_skip ?_
      refine awp_cond (b := true) (by simp [go_sem, h0, h1, h2, h3, h4]) (fun h => ?_) (fun h => ?_)
      rotate_left
      ·cases h
      refine awp_seq (aR (by simp [go_sem] <;> rfl) ?_)
      refine awp_ret ?_
      refine inBlock_ret ?_
      refine then_ret ?_
      refine ends_ret (by simp [go_sem] <;> rfl) (by simp [go_sem]) ?_
      exact ⟨by simp only [arityR, ar2, ar1, List.any_cons, List.any_nil, h0, h1, h2, h3, h4, bA, bB, bC, bD, bE, bF, bG, bH, bI, bJ, Bool.false_eq_true, if_true, if_false]; simp [go_sem], by simp [go_sem]⟩
     ·refine awp_seq ?_
      refine aR (by simp [go_sem] <;> rfl) ?_
      refine awp_cond (by first | rfl | (simp [go_sem] <;> rfl)) (fun h5 => ?_) (fun h5 => ?_)
      ·refine awp_skip ?_
       refine awp_cond (b := true) (by simp [go_sem, h0, h1, h2, h3, h4, h5]) (fun h => ?_) (fun h => ?_)
       rotate_left
       ·cases h
       refine awp_seq (aR (by simp [go_sem] <;> rfl) ?_)
       refine awp_ret ?_
       refine inBlock_ret ?_
       refine then_ret ?_
       refine ends_ret (by simp [go_sem] <;> rfl) (by simp [go_sem]) ?_
       exact ⟨by simp only [arityR, ar2, ar1, List.any_cons, List.any_nil, h0, h1, h2, h3, h4, h5, bA, bB, bC, bD, bE, bF, bG, bH, bI, bJ, Bool.false_eq_true, if_true, if_false]; simp [go_sem], by simp [go_sem]⟩
      ·refine awp_seq ?_
       refine aR (by simp [go_sem] <;> rfl) ?_
       refine awp_cond (by first | rfl | (simp [go_sem] <;> rfl)) (fun h6 => ?_) (fun h6 => ?_)
       ·refine awp_skip ?_
        refine awp_cond (b := true) (by simp [go_sem, h0, h1, h2, h3, h4, h5, h6]) (fun h => ?_) (fun h => ?_)
        rotate_left
        ·cases h
        refine awp_seq (aR (by simp [go_sem] <;> rfl) ?_)
        refine awp_ret ?_
        refine inBlock_ret ?_
        refine then_ret ?_
        refine ends_ret (by simp [go_sem] <;> rfl) (by simp [go_sem]) ?_
        exact ⟨by simp only [arityR, ar2, ar1, List.any_cons, List.any_nil, h0, h1, h2, h3, h4, h5, h6, bA, bB, bC, bD, bE, bF, bG, bH, bI, bJ, Bool.false_eq_true, if_true, if_false]; simp [go_sem], by simp [go_sem]⟩
       ·refine awp_seq ?_
        refine aR (by simp [go_sem] <;> rfl) ?_
        refine awp_cond (by first | rfl | (simp [go_sem] <;> rfl)) (fun h7 => ?_) (fun h7 => ?_)
        ·refine awp_skip ?_
         refine awp_cond (b := true) (by simp [go_sem, h0, h1, h2, h3, h4, h5, h6, h7]) (fun h => ?_) (fun h => ?_)
         rotate_left
         ·cases h
         refine awp_seq (aR (by simp [go_sem] <;> rfl) ?_)
         refine awp_ret ?_
         refine inBlock_ret ?_
         refine then_ret ?_
         refine ends_ret (by simp [go_sem] <;> rfl) (by simp [go_sem]) ?_
         exact ⟨by simp only [arityR, ar2, ar1, List.any_cons, List.any_nil, h0, h1, h2, h3, h4, h5, h6, h7, bA, bB, bC, bD, bE, bF, bG, bH, bI, bJ, Bool.false_eq_true, if_true, if_false]; simp [go_sem], by simp [go_sem]⟩
        ·refine aR (by simp [go_sem] <;> rfl) ?_
         refine awp_cond (by first | rfl | (simp [go_sem] <;> rfl)) (fun h8 => ?_) (fun h8 => ?_)
         ·refine awp_seq ?_
          refine aR (by simp [go_sem] <;> rfl) ?_
          refine awp_ret ?_
          refine inBlock_ret ?_
          refine then_ret ?_
          refine ends_ret (by simp [go_sem] <;> rfl) (by simp [go_sem]) ?_
          exact ⟨by simp only [arityR, ar2, ar1, List.any_cons, List.any_nil, h0, h1, h2, h3, h4, h5, h6, h7, h8, bA, bB, bC, bD, bE, bF, bG, bH, bI, bJ, Bool.false_eq_true, if_true, if_false]; simp [go_sem], by simp [go_sem]⟩
         ·refine awp_seq ?_
          refine awp_seq (aR (by simp [go_sem] <;> rfl) ?_)
          refine awp_cond (by first | rfl | (simp [go_sem] <;> rfl)) (fun h9 => ?_) (fun h9 => ?_)
          ·refine awp_skip ?_
           refine awp_cond (b := true) (by simp [go_sem, h0, h1, h2, h3, h4, h5, h6, h7, h8, h9]) (fun h => ?_) (fun h => ?_)
           rotate_left
           ·cases h
           refine awp_seq (aR (by simp [go_sem] <;> rfl) ?_)
           refine awp_ret ?_
           refine inBlock_ret ?_
           refine then_ret ?_
           refine ends_ret (by simp [go_sem] <;> rfl) (by simp [go_sem]) ?_
           exact ⟨by simp only [arityR, ar2, ar1, List.any_cons, List.any_nil, h0, h1, h2, h3, h4, h5, h6, h7, h8, h9, bA, bB, bC, bD, bE, bF, bG, bH, bI, bJ, Bool.false_eq_true, if_true, if_false]; simp [go_sem], by simp [go_sem]⟩
          ·refine awp_seq ?_
           refine aR (by simp [go_sem] <;> rfl) ?_
           refine awp_cond (by first | rfl | (simp [go_sem] <;> rfl)) (fun h10 => ?_) (fun h10 => ?_)
           ·refine awp_skip ?_
            refine awp_cond (b := true) (by simp [go_sem, h0, h1, h2, h3, h4, h5, h6, h7, h8, h9, h10]) (fun h => ?_) (fun h => ?_)
            rotate_left
            ·cases h
            refine awp_seq (aR (by simp [go_sem] <;> rfl) ?_)
            refine awp_ret ?_
            refine inBlock_ret ?_
            refine then_ret ?_
            refine ends_ret (by simp [go_sem] <;> rfl) (by simp [go_sem]) ?_
            exact ⟨by simp only [arityR, ar2, ar1, List.any_cons, List.any_nil, h0, h1, h2, h3, h4, h5, h6, h7, h8, h9, h10, bA, bB, bC, bD, bE, bF, bG, bH, bI, bJ, Bool.false_eq_true, if_true, if_false]; simp [go_sem], by simp [go_sem]⟩
           ·refine awp_seq ?_
            refine aR (by simp [go_sem] <;> rfl) ?_
            refine awp_cond (by first | rfl | (simp [go_sem] <;> rfl)) (fun h11 => ?_) (fun h11 => ?_)
            ·refine awp_skip ?_
             refine awp_cond (b := true) (by simp [go_sem, h0, h1, h2, h3, h4, h5, h6, h7, h8, h9, h10, h11]) (fun h => ?_) (fun h => ?_)
             rotate_left
             ·cases h
             refine awp_seq (aR (by simp [go_sem] <;> rfl) ?_)
             refine awp_ret ?_
             refine inBlock_ret ?_
             refine then_ret ?_
             refine ends_ret (by simp [go_sem] <;> rfl) (by simp [go_sem]) ?_
             exact ⟨by simp only [arityR, ar2, ar1, List.any_cons, List.any_nil, h0, h1, h2, h3, h4, h5, h6, h7, h8, h9, h10, h11, bA, bB, bC, bD, bE, bF, bG, bH, bI, bJ, Bool.false_eq_true, if_true, if_false]; simp [go_sem], by simp [go_sem]⟩
            ·refine awp_seq ?_
             refine aR (by simp [go_sem] <;> rfl) ?_
             refine awp_cond (by first | rfl | (simp [go_sem] <;> rfl)) (fun h12 => ?_) (fun h12 => ?_)
             ·refine awp_skip ?_
              refine awp_cond (b := true) (by simp [go_sem, h0, h1, h2, h3, h4, h5, h6, h7, h8, h9, h10, h11, h12]) (fun h => ?_) (fun h => ?_)
              rotate_left
              ·cases h
              refine awp_seq (aR (by simp [go_sem] <;> rfl) ?_)
              refine awp_ret ?_
              refine inBlock_ret ?_
              refine then_ret ?_
              refine ends_ret (by simp [go_sem] <;> rfl) (by simp [go_sem]) ?_
              exact ⟨by simp only [arityR, ar2, ar1, List.any_cons, List.any_nil, h0, h1, h2, h3, h4, h5, h6, h7, h8, h9, h10, h11, h12, bA, bB, bC, bD, bE, bF, bG, bH, bI, bJ, Bool.false_eq_true, if_true, if_false]; simp [go_sem], by simp [go_sem]⟩
             ·refine awp_seq ?_
              refine aR (by simp [go_sem] <;> rfl) ?_
              refine awp_cond (by first | rfl | (simp [go_sem] <;> rfl)) (fun h13 => ?_) (fun h13 => ?_)
              ·refine awp_skip ?_
               refine awp_cond (b := true) (by simp [go_sem, h0, h1, h2, h3, h4, h5, h6, h7, h8, h9, h10, h11, h12, h13]) (fun h => ?_) (fun h => ?_)
               rotate_left
               ·cases h
               refine awp_seq (aR (by simp [go_sem] <;> rfl) ?_)
               refine awp_ret ?_
               refine inBlock_ret ?_
               refine then_ret ?_
               refine ends_ret (by simp [go_sem] <;> rfl) (by simp [go_sem]) ?_
               exact ⟨by simp only [arityR, ar2, ar1, List.any_cons, List.any_nil, h0, h1, h2, h3, h4, h5, h6, h7, h8, h9, h10, h11, h12, h13, bA, bB, bC, bD, bE, bF, bG, bH, bI, bJ, Bool.false_eq_true, if_true, if_false]; simp [go_sem], by simp [go_sem]⟩
              ·refine awp_seq ?_
               refine aR (by simp [go_sem] <;> rfl) ?_
               refine awp_cond (by first | rfl | (simp [go_sem] <;> rfl)) (fun h14 => ?_) (fun h14 => ?_)
               ·refine awp_skip ?_
                refine awp_cond (b := true) (by simp [go_sem, h0, h1, h2, h3, h4, h5, h6, h7, h8, h9, h10, h11, h12, h13, h14]) (fun h => ?_) (fun h => ?_)
                rotate_left
                ·cases h
                refine awp_seq (aR (by simp [go_sem] <;> rfl) ?_)
                refine awp_ret ?_
                refine inBlock_ret ?_
                refine then_ret ?_
                refine ends_ret (by simp [go_sem] <;> rfl) (by simp [go_sem]) ?_
                exact ⟨by simp only [arityR, ar2, ar1, List.any_cons, List.any_nil, h0, h1, h2, h3, h4, h5, h6, h7, h8, h9, h10, h11, h12, h13, h14, bA, bB, bC, bD, bE, bF, bG, bH, bI, bJ, Bool.false_eq_true, if_true, if_false]; simp [go_sem], by simp [go_sem]⟩
               ·refine aR (by simp [go_sem] <;> rfl) ?_
                refine awp_cond (by first | rfl | (simp [go_sem] <;> rfl)) (fun h15 => ?_) (fun h15 => ?_)
                ·refine awp_seq ?_
                 refine aR (by simp [go_sem] <;> rfl) ?_
                 refine awp_ret ?_
                 refine inBlock_ret ?_
                 refine then_ret ?_
                 refine ends_ret (by simp [go_sem] <;> rfl) (by simp [go_sem]) ?_
                 exact ⟨by simp only [arityR, ar2, ar1, List.any_cons, List.any_nil, h0, h1, h2, h3, h4, h5, h6, h7, h8, h9, h10, h11, h12, h13, h14, h15, bA, bB, bC, bD, bE, bF, bG, bH, bI, bJ, Bool.false_eq_true, if_true, if_false]; simp [go_sem], by simp [go_sem]⟩
                ·refine awp_skip ?_
                 refine awp_seq (aR (by simp [go_sem] <;> rfl) ?_)
                 refine awp_ret ?_
                 refine ends_ret (by simp [go_sem] <;> rfl) (by simp [go_sem]) ?_
                 exact ⟨by simp only [arityR, ar2, ar1, List.any_cons, List.any_nil, h0, h1, h2, h3, h4, h5, h6, h7, h8, h9, h10, h11, h12, h13, h14, h15, bA, bB, bC, bD, bE, bF, bG, bH, bI, bJ, Bool.false_eq_true, if_true, if_false]; simp [go_sem], by simp [go_sem]⟩

set_option maxHeartbeats 1000000 in
theorem c_Word (d : D) : Pur Tryz.prog (GL kr) 82 [.pv (enc d)] (.pv (.str (word d))) := by
 refine pur_of fun σ hgl => ?_
 refine acalls_of tyOk Tryz.func82 rfl (by simp [Tryz.f82]) ?_
 refine awp_seq (aR (by simp [go_sem] <;> rfl) ?_)
 refine awp_seq (awp_seq (awp_reg ?_))
 refine aL 4 (by simp [go_sem] <;> rfl) ?_
 refine al_splitT 6 (by first | rfl | (simp [go_sem] <;> rfl)) (fun h0 => ?_) (fun h0 => ?_)
 ·refine aK 4 6 false ?_
  refine aL 2 (by simp [go_sem] <;> rfl) ?_
  refine aK 6 12 false ?_
  refine aL 1 (by simp [go_sem] <;> rfl) ?_
  refine al_nil ?_
  refine awp_cond (b := true) (by simp [go_sem, h0]) (fun h => ?_) (fun h => ?_)
  rotate_left
  ·cases h
  refine awp_seq (aR (by simp [go_sem] <;> rfl) ?_)
  refine awp_ret ?_
  refine then_ret ?_
  refine ends_ret (by simp [go_sem] <;> rfl) (by simp [go_sem]) ?_
  exact ⟨by simp only [word, h0, bA, bB, bC, bD, bE, bF, bG, bH, bI, bJ, Bool.false_eq_true, if_true, if_false]; simp [go_sem], by simp [go_sem]⟩
 ·refine aLG 4 6 false (by simp [go_sem] <;> rfl) ?_
  refine aL 2 (by simp [go_sem] <;> rfl) ?_
  refine al_splitT 12 (by first | rfl | (simp [go_sem] <;> rfl)) (fun h1 => ?_) (fun h1 => ?_)
  ·refine aK 6 12 false ?_
   refine aL 1 (by simp [go_sem] <;> rfl) ?_
   refine al_nil ?_
   refine awp_cond (b := true) (by simp [go_sem, h0, h1]) (fun h => ?_) (fun h => ?_)
   rotate_left
   ·cases h
   refine awp_seq (aR (by simp [go_sem] <;> rfl) ?_)
   refine awp_ret ?_
   refine then_ret ?_
   refine ends_ret (by simp [go_sem] <;> rfl) (by simp [go_sem]) ?_
   exact ⟨by simp only [word, h0, h1, bA, bB, bC, bD, bE, bF, bG, bH, bI, bJ, Bool.false_eq_true, if_true, if_false]; simp [go_sem], by simp [go_sem]⟩
  ·have hne : d.kids ≠ [] := by intro e; rw [e] at h1; exact absurd h1 (by decide)
   obtain ⟨x0, r, hx⟩ := kids_cons hne
   have hh : d.head = x0 := head_cons hx
   have hx0 : d.kids[0]? = some x0 := by rw [hx]; rfl
   refine aLG 6 12 false (by simp [go_sem, hx0] <;> rfl) ?_
   refine aL 1 (by simp [go_sem, hx0] <;> rfl) ?_
   refine al_nil ?_
   refine awp_cond (by first | rfl | (simp [go_sem, hx0] <;> rfl)) (fun h2 => ?_) (fun h2 => ?_)
   ·refine awp_seq ?_
    refine aR (by simp [go_sem, hx0] <;> rfl) ?_
    refine awp_ret ?_
    refine then_ret ?_
    refine ends_ret (by simp [go_sem, hx0] <;> rfl) (by simp [go_sem]) ?_
    exact ⟨by simp only [word, hx0, h0, h1, hh, h2, bA, bB, bC, bD, bE, bF, bG, bH, bI, bJ, Bool.false_eq_true, if_true, if_false]; simp [go_sem], by simp [go_sem]⟩
   ·refine awp_skip ?_
    refine awp_seq (aR (by simp [go_sem, hx0] <;> rfl) ?_)
    refine awp_ret ?_
    refine ends_ret (by simp [go_sem, hx0] <;> rfl) (by simp [go_sem]) ?_
    exact ⟨by simp only [word, hx0, h0, h1, hh, h2, bA, bB, bC, bD, bE, bF, bG, bH, bI, bJ, Bool.false_eq_true, if_true, if_false]; simp [go_sem], by simp [go_sem]⟩

set_option maxHeartbeats 1000000 in
theorem c_form (d : D) : Pur Tryz.prog (GL kr) 86 [.pv (enc d)] (.pv (.bool (form d))) := by
 refine pur_of fun σ hgl => ?_
 refine acalls_of tyOk Tryz.func86 rfl (by simp [Tryz.f86]) ?_
 refine awp_seq (aR (by simp [go_sem] <;> rfl) ?_)
 refine awp_seq (awp_seq (aR (by simp [go_sem] <;> rfl) ?_))
 refine awp_block ?_
 refine awp_seq (aR (by simp [go_sem] <;> rfl) ?_)
 refine awp_cond (by first | rfl | (simp [go_sem] <;> rfl)) (fun h0 => ?_) (fun h0 => ?_)
 ·refine awp_seq ?_
  refine aR (by simp [go_sem] <;> rfl) ?_
  refine awp_ret ?_
  refine inBlock_ret ?_
  refine then_ret ?_
  refine ends_ret (by simp [go_sem] <;> rfl) (by simp [go_sem]) ?_
  exact ⟨by simp only [form, eQuote, eIf, eLet, eCall, es, h0, bA, bB, bC, bD, bE, bF, bG, bH, bI, bJ, Bool.false_eq_true, if_true, if_false]; simp [go_sem], by simp [go_sem]⟩
 ·refine awp_seq ?_
  refine aR (by simp [go_sem] <;> rfl) ?_
  refine awp_cond (by first | rfl | (simp [go_sem] <;> rfl)) (fun h1 => ?_) (fun h1 => ?_)
  ·refine awp_seq ?_
   refine awp_reg ?_
   refine aL 2 (by simp [go_sem] <;> rfl) ?_
   refine aF call83 ((c_Name d.text) _ (by exact hgl)) (by simp [go_sem] <;> rfl) (by simp [go_sem]) ?_
   refine aL 1 (by simp [go_sem] <;> rfl) ?_
   refine al_nil ?_
   refine awp_ret ?_
   refine inBlock_ret ?_
   refine then_ret ?_
   refine ends_ret (by simp [go_sem] <;> rfl) (by simp [go_sem]) ?_
   exact ⟨by simp only [form, eQuote, eIf, eLet, eCall, es, h0, h1, bA, bB, bC, bD, bE, bF, bG, bH, bI, bJ, Bool.false_eq_true, if_true, if_false]; simp [go_sem], by simp [go_sem]⟩
  ·refine awp_skip ?_
   refine awp_seq (awp_seq (awp_reg ?_))
   refine aL 1 (by simp [go_sem] <;> rfl) ?_
   refine aF call82 ((c_Word d) _ (by exact hgl)) (by simp [go_sem] <;> rfl) (by simp [go_sem]) ?_
   refine al_nil ?_
   refine awp_block ?_
   refine awp_seq (aR (by simp [go_sem] <;> rfl) ?_)
   refine awp_cond (by first | rfl | (simp [go_sem] <;> rfl)) (fun h2 => ?_) (fun h2 => ?_)
   ·refine awp_seq ?_
    refine aR (by simp [go_sem] <;> rfl) ?_
    refine awp_ret ?_
    refine inBlock_ret ?_
    refine then_ret ?_
    refine ends_ret (by simp [go_sem] <;> rfl) (by simp [go_sem]) ?_
    exact ⟨by simp only [form, eQuote, eIf, eLet, eCall, es, h0, h1, h2, bA, bB, bC, bD, bE, bF, bG, bH, bI, bJ, Bool.false_eq_true, if_true, if_false]; simp [go_sem], by simp [go_sem]⟩
   ·refine awp_seq ?_
    refine aR (by simp [go_sem] <;> rfl) ?_
    refine awp_cond (by first | rfl | (simp [go_sem] <;> rfl)) (fun h3 => ?_) (fun h3 => ?_)
    ·refine awp_seq ?_
     refine aR (by simp [go_sem] <;> rfl) ?_
     refine awp_ret ?_
     refine inBlock_ret ?_
     refine then_ret ?_
     refine ends_ret (by simp [go_sem] <;> rfl) (by simp [go_sem]) ?_
     exact ⟨by simp only [form, eQuote, eIf, eLet, eCall, es, h0, h1, h2, h3, bA, bB, bC, bD, bE, bF, bG, bH, bI, bJ, Bool.false_eq_true, if_true, if_false]; simp [go_sem], by simp [go_sem]⟩
    ·refine awp_seq ?_
     refine aR (by simp [go_sem] <;> rfl) ?_
     refine awp_cond (by first | rfl | (simp [go_sem] <;> rfl)) (fun h4 => ?_) (fun h4 => ?_)
     ·refine awp_seq ?_
      refine aR (by simp [go_sem] <;> rfl) ?_
      refine awp_ret ?_
      refine inBlock_ret ?_
      refine then_ret ?_
      refine ends_ret (by simp [go_sem] <;> rfl) (by simp [go_sem]) ?_
      exact ⟨by simp only [form, eQuote, eIf, eLet, eCall, es, h0, h1, h2, h3, h4, bA, bB, bC, bD, bE, bF, bG, bH, bI, bJ, Bool.false_eq_true, if_true, if_false]; simp [go_sem], by simp [go_sem]⟩
     ·refine awp_seq ?_
      refine aR (by simp [go_sem] <;> rfl) ?_
      refine awp_cond (by first | rfl | (simp [go_sem] <;> rfl)) (fun h5 => ?_) (fun h5 => ?_)
      ·refine awp_seq ?_
       refine awp_reg ?_
       refine aL 5 (by simp [go_sem] <;> rfl) ?_
       refine al_splitT 36 (by first | rfl | (simp [go_sem] <;> rfl)) (fun h6 => ?_) (fun h6 => ?_)
       ·have hlen : d.kids.length = 4 := by have := h6; simp only [beq_iff_eq] at this; omega
        obtain ⟨x1, hx1, hx1m⟩ := get_lt (l := d.kids) (k := 1) (by omega)
        have hd1 : d1 d.kids = x1 := getD_of hx1
        refine aLG 6 36 true (by simp [go_sem, hx1] <;> rfl) ?_
        refine aL 2 (by simp [go_sem, hx1] <;> rfl) ?_
        refine al_splitT 44 (by first | rfl | (simp [go_sem, hx1] <;> rfl)) (fun h7 => ?_) (fun h7 => ?_)
        ·refine aLG 5 44 true (by simp [go_sem, hx1] <;> rfl) ?_
         refine al_fnG 44 true true (by simp [go_sem]) rfl (by simp [go_sem]) rfl rfl (by simp [go_sem, hx1] <;> rfl) call83 ((c_Name x1.text) _ (by exact hgl)) (by simp [go_sem, hx1] <;> rfl) (by simp [go_sem, hx1]) rfl rfl ?_
         refine aL 2 (by simp [go_sem, hx1] <;> rfl) ?_
         refine al_nil ?_
         refine awp_ret ?_
         refine inBlock_ret ?_
         refine then_ret ?_
         refine ends_ret (by simp [go_sem, hx1] <;> rfl) (by simp [go_sem]) ?_
         exact ⟨by simp only [form, eQuote, eIf, eLet, eCall, es, hx1, h0, h1, h2, h3, h4, h5, h6, hd1, h7, bA, bB, bC, bD, bE, bF, bG, bH, bI, bJ, Bool.false_eq_true, if_true, if_false]; simp [go_sem], by simp [go_sem]⟩
        ·refine aK 6 44 true ?_
         refine aL 2 (by simp [go_sem, hx1] <;> rfl) ?_
         refine al_nil ?_
         refine awp_ret ?_
         refine inBlock_ret ?_
         refine then_ret ?_
         refine ends_ret (by simp [go_sem, hx1] <;> rfl) (by simp [go_sem]) ?_
         exact ⟨by simp only [form, eQuote, eIf, eLet, eCall, es, hx1, h0, h1, h2, h3, h4, h5, h6, hd1, h7, bA, bB, bC, bD, bE, bF, bG, bH, bI, bJ, Bool.false_eq_true, if_true, if_false]; simp [go_sem], by simp [go_sem]⟩
       ·refine aK 6 36 true ?_
        refine aL 2 (by simp [go_sem] <;> rfl) ?_
        refine aK 6 44 true ?_
        refine aL 2 (by simp [go_sem] <;> rfl) ?_
        refine al_nil ?_
        refine awp_ret ?_
        refine inBlock_ret ?_
        refine then_ret ?_
        refine ends_ret (by simp [go_sem] <;> rfl) (by simp [go_sem]) ?_
        exact ⟨by simp only [form, eQuote, eIf, eLet, eCall, es, h0, h1, h2, h3, h4, h5, h6, bA, bB, bC, bD, bE, bF, bG, bH, bI, bJ, Bool.false_eq_true, if_true, if_false]; simp [go_sem], by simp [go_sem]⟩
      ·refine awp_seq ?_
       refine aR (by simp [go_sem] <;> rfl) ?_
       refine awp_cond (by first | rfl | (simp [go_sem] <;> rfl)) (fun h8 => ?_) (fun h8 => ?_)
       ·refine awp_seq ?_
        refine awp_reg ?_
        refine aL 5 (by simp [go_sem] <;> rfl) ?_
        refine al_splitT 58 (by first | rfl | (simp [go_sem] <;> rfl)) (fun h9 => ?_) (fun h9 => ?_)
        ·have hlen : (1 : Int) < d.kids.length := by simpa using h9
         obtain ⟨x1, hx1, hx1m⟩ := get_lt (l := d.kids) (k := 1) (by omega)
         have hd1 : d1 d.kids = x1 := getD_of hx1
         refine aLG 4 58 true (by simp [go_sem, hx1] <;> rfl) ?_
         refine al_fnG 58 true true (by simp [go_sem]) rfl (by simp [go_sem]) rfl rfl (by simp [go_sem, hx1] <;> rfl) call41 ((c_Label x1) _ (by exact hgl)) (by simp [go_sem, hx1] <;> rfl) (by simp [go_sem, hx1]) rfl rfl ?_
         refine aL 2 (by simp [go_sem, hx1] <;> rfl) ?_
         refine al_nil ?_
         refine awp_ret ?_
         refine inBlock_ret ?_
         refine then_ret ?_
         refine ends_ret (by simp [go_sem, hx1] <;> rfl) (by simp [go_sem]) ?_
         exact ⟨by simp only [form, eQuote, eIf, eLet, eCall, es, hx1, h0, h1, h2, h3, h4, h5, h8, h9, hd1, bA, bB, bC, bD, bE, bF, bG, bH, bI, bJ, Bool.false_eq_true, if_true, if_false]; simp [go_sem], by simp [go_sem]⟩
        ·refine aK 5 58 true ?_
         refine aL 2 (by simp [go_sem] <;> rfl) ?_
         refine al_nil ?_
         refine awp_ret ?_
         refine inBlock_ret ?_
         refine then_ret ?_
         refine ends_ret (by simp [go_sem] <;> rfl) (by simp [go_sem]) ?_
         exact ⟨by simp only [form, eQuote, eIf, eLet, eCall, es, h0, h1, h2, h3, h4, h5, h8, h9, bA, bB, bC, bD, bE, bF, bG, bH, bI, bJ, Bool.false_eq_true, if_true, if_false]; simp [go_sem], by simp [go_sem]⟩
       ·refine awp_skip ?_
        refine awp_seq (awp_reg ?_)
        refine aL 1 (by simp [go_sem] <;> rfl) ?_
        refine aF call82 ((c_Word d) _ (by exact hgl)) (by simp [go_sem] <;> rfl) (by simp [go_sem]) ?_
        refine aF call87 ((c_Arity07 (word d)) _ (by exact hgl)) (by simp [go_sem] <;> rfl) (by simp [go_sem]) ?_
        refine aL 5 (by simp [go_sem] <;> rfl) ?_
        refine al_nil ?_
        refine awp_seq (aR (by simp [go_sem] <;> rfl) ?_)
        refine awp_ret ?_
        refine ends_ret (by simp [go_sem] <;> rfl) (by simp [go_sem]) ?_
        exact ⟨by simp only [form, eQuote, eIf, eLet, eCall, es, h0, h1, h2, h3, h4, h5, h8, bA, bB, bC, bD, bE, bF, bG, bH, bI, bJ, Bool.false_eq_true, if_true, if_false]; simp [go_sem], by simp [go_sem]⟩

set_option maxHeartbeats 1000000 in
theorem c_Kids (d : D) (hk2 : word d = sLet ∨ word d = sCall → 2 ≤ d.kids.length) : Pur Tryz.prog (GL kr) 88 [.pv (enc d)] (.pv (.slice ((kidsR d).map enc))) := by
 refine pur_of fun σ hgl => ?_
 refine acalls_of tyOk Tryz.func88 rfl (by simp [Tryz.f88]) ?_
 refine awp_seq (aR (by simp [go_sem] <;> rfl) ?_)
 refine awp_seq (awp_seq (awp_reg ?_))
 refine aL 1 (by simp [go_sem] <;> rfl) ?_
 refine aF call82 ((c_Word d) _ (by exact hgl)) (by simp [go_sem] <;> rfl) (by simp [go_sem]) ?_
 refine al_nil ?_
 refine awp_block ?_
 refine awp_seq (awp_seq (aR (by simp [go_sem] <;> rfl) ?_))
 refine awp_cond (by first | rfl | (simp [go_sem] <;> rfl)) (fun h0 => ?_) (fun h0 => ?_)
 ·refine awp_skip ?_
  refine awp_cond (b := true) (by simp [go_sem, h0]) (fun h => ?_) (fun h => ?_)
  rotate_left
  ·cases h
  refine awp_seq (aR (by simp [go_sem] <;> rfl) ?_)
  refine awp_ret ?_
  refine inBlock_ret ?_
  refine then_ret ?_
  refine ends_ret (by simp [go_sem] <;> rfl) (by simp [go_sem]) ?_
  exact ⟨by simp only [kidsR, eQuote, eLet, eCall, es, h0, bA, bB, bC, bD, bE, bF, bG, bH, bI, bJ, Bool.false_eq_true, if_true, if_false, List.map_drop]; simp [go_sem], by simp [go_sem]⟩
 ·refine aR (by simp [go_sem] <;> rfl) ?_
  refine awp_cond (by first | rfl | (simp [go_sem] <;> rfl)) (fun h1 => ?_) (fun h1 => ?_)
  ·refine awp_seq ?_
   refine aR (by simp [go_sem] <;> rfl) ?_
   refine awp_ret ?_
   refine inBlock_ret ?_
   refine then_ret ?_
   refine ends_ret (by simp [go_sem] <;> rfl) (by simp [go_sem]) ?_
   exact ⟨by simp only [kidsR, eQuote, eLet, eCall, es, h0, h1, bA, bB, bC, bD, bE, bF, bG, bH, bI, bJ, Bool.false_eq_true, if_true, if_false, List.map_drop]; simp [go_sem], by simp [go_sem]⟩
  ·refine awp_seq ?_
   refine awp_seq (aR (by simp [go_sem] <;> rfl) ?_)
   refine awp_cond (by first | rfl | (simp [go_sem] <;> rfl)) (fun h2 => ?_) (fun h2 => ?_)
   ·have hl2 : (2 : Int) ≤ d.kids.length := by have := hk2 (.inl (of_decide_eq_true h2)); omega
    refine awp_skip ?_
    refine awp_cond (b := true) (by simp [go_sem, hl2, h0, h1, h2]) (fun h => ?_) (fun h => ?_)
    rotate_left
    ·cases h
    refine awp_seq (aR (by simp [go_sem, hl2] <;> rfl) ?_)
    refine awp_ret ?_
    refine inBlock_ret ?_
    refine then_ret ?_
    refine ends_ret (by simp [go_sem, hl2] <;> rfl) (by simp [go_sem]) ?_
    exact ⟨by simp only [kidsR, eQuote, eLet, eCall, es, hl2, h0, h1, h2, bA, bB, bC, bD, bE, bF, bG, bH, bI, bJ, Bool.false_eq_true, if_true, if_false, List.map_drop]; simp [go_sem], by simp [go_sem]⟩
   ·refine aR (by simp [go_sem] <;> rfl) ?_
    refine awp_cond (by first | rfl | (simp [go_sem] <;> rfl)) (fun h3 => ?_) (fun h3 => ?_)
    ·have hl2 : (2 : Int) ≤ d.kids.length := by have := hk2 (.inr (of_decide_eq_true h3)); omega
     refine awp_seq (aR (by simp [go_sem, hl2] <;> rfl) ?_)
     refine awp_ret ?_
     refine inBlock_ret ?_
     refine then_ret ?_
     refine ends_ret (by simp [go_sem, hl2] <;> rfl) (by simp [go_sem]) ?_
     exact ⟨by simp only [kidsR, eQuote, eLet, eCall, es, hl2, h0, h1, h2, h3, bA, bB, bC, bD, bE, bF, bG, bH, bI, bJ, Bool.false_eq_true, if_true, if_false, List.map_drop]; simp [go_sem], by simp [go_sem]⟩
    ·have hl1 := (word_ne h0).2.2.2.2
     refine awp_skip ?_
     refine awp_seq (aR (by simp [go_sem, hl1] <;> rfl) ?_)
     refine awp_ret ?_
     refine ends_ret (by simp [go_sem, hl1] <;> rfl) (by simp [go_sem]) ?_
     exact ⟨by simp only [kidsR, eQuote, eLet, eCall, es, hl1, h0, h1, h2, h3, bA, bB, bC, bD, bE, bF, bG, bH, bI, bJ, Bool.false_eq_true, if_true, if_false, List.map_drop]; simp [go_sem], by simp [go_sem]⟩

end Go.Proofs.YtienmmfjjffjaaaGreatDoor

/- The specification: data. -/
namespace Go.Proofs.YtienmmfjjffjaaaGreatDoor
open Go Go.Aw
variable {kr : ResO}
set_option maxHeartbeats 1000000 in
theorem c_formed01 (d : D) (hd : d.size ≤ 1000000000) : Pur Tryz.prog (GL kr) 64 [.pv (enc d)] (.pv (.bool (formed d))) := by
 induction d using D.ind with
 | _ kind num text kids ih =>
 generalize hD : D.mk kind num text kids = d at *
 have hk : d.kids = kids := by rw [← hD]; rfl
 clear hD
 subst hk
 have hkl := D.kids_length_lt d
 refine pur_of fun σ hgl => ?_
 refine acalls_of tyOk Tryz.func64 rfl (by simp [Tryz.f64]) ?_
 refine awp_seq (aR (by simp [go_sem] <;> rfl) ?_)
 refine awp_seq (awp_seq (aR (by simp [go_sem] <;> rfl) ?_))
 refine awp_block ?_
 refine awp_seq (aR (by simp [go_sem] <;> rfl) ?_)
 refine awp_cond (by first | rfl | (simp [go_sem] <;> rfl)) (fun h0 => ?_) (fun h0 => ?_)
 ·refine awp_seq ?_
  refine awp_reg ?_
  refine aL 4 (by simp [go_sem] <;> rfl) ?_
  refine al_splitT 11 (by first | rfl | (simp [go_sem] <;> rfl)) (fun h1 => ?_) (fun h1 => ?_)
  ·refine aLG 4 11 true (by simp [go_sem] <;> rfl) ?_
   refine aL 2 (by simp [go_sem] <;> rfl) ?_
   refine al_nil ?_
   refine awp_ret ?_
   refine inBlock_ret ?_
   refine then_ret ?_
   refine ends_ret (by simp [go_sem] <;> rfl) (by simp [go_sem]) ?_
   exact ⟨by rw [formed_eq]; simp only [Bool.not_true, h0, h1, bA, bB, bC, bD, bE, bF, bG, bH, bI, bJ, Bool.false_eq_true, if_true, if_false, Bool.and_comm, Bool.and_left_comm]; first | (simp [go_sem]; done) | (simp [go_sem, Bool.and_comm, Bool.and_left_comm]; done), by simp [go_sem]⟩
  ·refine aK 4 11 true ?_
   refine aL 2 (by simp [go_sem] <;> rfl) ?_
   refine al_nil ?_
   refine awp_ret ?_
   refine inBlock_ret ?_
   refine then_ret ?_
   refine ends_ret (by simp [go_sem] <;> rfl) (by simp [go_sem]) ?_
   exact ⟨by rw [formed_eq]; simp only [Bool.not_true, h0, h1, bA, bB, bC, bD, bE, bF, bG, bH, bI, bJ, Bool.false_eq_true, if_true, if_false, Bool.and_comm, Bool.and_left_comm]; first | (simp [go_sem]; done) | (simp [go_sem, Bool.and_comm, Bool.and_left_comm]; done), by simp [go_sem]⟩
 ·refine awp_seq ?_
  refine aR (by simp [go_sem] <;> rfl) ?_
  refine awp_cond (by first | rfl | (simp [go_sem] <;> rfl)) (fun h2 => ?_) (fun h2 => ?_)
  ·refine awp_seq ?_
   refine awp_reg ?_
   refine aL 4 (by simp [go_sem] <;> rfl) ?_
   refine al_splitT 22 (by first | rfl | (simp [go_sem] <;> rfl)) (fun h3 => ?_) (fun h3 => ?_)
   ·refine aLG 2 22 true (by simp [go_sem] <;> rfl) ?_
    refine al_fnG 22 true true (by simp [go_sem]) rfl (by simp [go_sem]) rfl rfl (by simp [go_sem] <;> rfl) call105 ((c_pagodaref01_Symbol d.text) _ (by exact hgl)) (by simp [go_sem] <;> rfl) (by simp [go_sem]) rfl rfl ?_
    refine aL 2 (by simp [go_sem, isSym_letter] <;> rfl) ?_
    refine al_splitT 27 (by first | rfl | (simp [go_sem, isSym_letter] <;> rfl)) (fun h4 => ?_) (fun h4 => ?_)
    ·refine aLG 4 27 true (by simp [go_sem, isSym_letter] <;> rfl) ?_
     refine aL 2 (by simp [go_sem, isSym_letter] <;> rfl) ?_
     refine al_nil ?_
     refine awp_ret ?_
     refine inBlock_ret ?_
     refine then_ret ?_
     refine ends_ret (by simp [go_sem, isSym_letter] <;> rfl) (by simp [go_sem]) ?_
     exact ⟨by rw [formed_eq]; simp only [Bool.not_true, isSym_letter, h0, h2, h3, h4, bA, bB, bC, bD, bE, bF, bG, bH, bI, bJ, Bool.false_eq_true, if_true, if_false, Bool.and_comm, Bool.and_left_comm]; first | (simp [go_sem]; done) | (simp [go_sem, Bool.and_comm, Bool.and_left_comm]; done), by simp [go_sem]⟩
    ·refine aK 4 27 true ?_
     refine aL 2 (by simp [go_sem, isSym_letter] <;> rfl) ?_
     refine al_nil ?_
     refine awp_ret ?_
     refine inBlock_ret ?_
     refine then_ret ?_
     refine ends_ret (by simp [go_sem, isSym_letter] <;> rfl) (by simp [go_sem]) ?_
     exact ⟨by rw [formed_eq]; simp only [Bool.not_true, isSym_letter, h0, h2, h3, h4, bA, bB, bC, bD, bE, bF, bG, bH, bI, bJ, Bool.false_eq_true, if_true, if_false, Bool.and_comm, Bool.and_left_comm]; first | (simp [go_sem]; done) | (simp [go_sem, Bool.and_comm, Bool.and_left_comm]; done), by simp [go_sem]⟩
   ·refine aK 3 22 true ?_
    refine aL 2 (by simp [go_sem] <;> rfl) ?_
    refine aK 4 27 true ?_
    refine aL 2 (by simp [go_sem] <;> rfl) ?_
    refine al_nil ?_
    refine awp_ret ?_
    refine inBlock_ret ?_
    refine then_ret ?_
    refine ends_ret (by simp [go_sem] <;> rfl) (by simp [go_sem]) ?_
    exact ⟨by rw [formed_eq]; simp only [Bool.not_true, h0, h2, h3, bA, bB, bC, bD, bE, bF, bG, bH, bI, bJ, Bool.false_eq_true, if_true, if_false, Bool.and_comm, Bool.and_left_comm]; first | (simp [go_sem]; done) | (simp [go_sem, Bool.and_comm, Bool.and_left_comm]; done), by simp [go_sem]⟩
  ·refine awp_seq ?_
   refine aR (by simp [go_sem] <;> rfl) ?_
   refine awp_cond (by first | rfl | (simp [go_sem] <;> rfl)) (fun h5 => ?_) (fun h5 => ?_)
   ·refine awp_seq ?_
    refine awp_seq (aR (by simp [go_sem] <;> rfl) ?_)
    refine awp_block ?_
    refine awp_loop_headK σ.objs.length σ.toks.length 1 [1, 2] (fun k : Nat => [(3, .pv (.int .i64 ↑k))]) (fun k => σ) (fun k => k ≤ d.kids.length ∧ NotYet (fun d => !formed d) d.kids k) (fun k => d.kids.length - k) 0 (⟨Nat.zero_le _, .zero⟩) ⟨by simp [go_sem], rfl, by simp, by simp, by simp [go_sem], fun ob h => .inl (by simpa [go_sem] using h), by simp [go_sem]⟩ ?_
    rintro k ⟨hk, hn⟩
    refine awp_seq (awp_seq (aR (by simp [go_sem] <;> rfl) ?_))
    refine awp_cond (by first | rfl | (simp [go_sem] <;> rfl)) (fun h6 => ?_) (fun h6 => ?_)
    ·have hlt : k < d.kids.length := by simp at h6; omega
     have hw : IntKind.i64.wrap (↑k + 1) = (k : Int) + 1 := wrap_succ (by omega)
     obtain ⟨x, hx, hxm⟩ := get_lt hlt
     refine awp_skip ?_
     refine awp_seq (awp_block ?_)
     refine awp_seq (awp_reg ?_)
     refine aL 5 (by simp [go_sem, hx] <;> rfl) ?_
     refine aF call64 ((ih x hxm (by have := D.size_kid_lt hxm; omega)) _ (by exact hgl)) (by simp [go_sem, hx] <;> rfl) (by simp [go_sem, hx]) ?_
     refine aL 1 (by simp [go_sem, hx] <;> rfl) ?_
     refine al_nil ?_
     refine awp_cond (by first | rfl | (simp [go_sem, hx] <;> rfl)) (fun h7 => ?_) (fun h7 => ?_)
     ·have hany : (d.kids.any fun d => !formed d) = true := any_found (p := fun d => !formed d) hx h7
      refine awp_seq (aR (by simp [go_sem, hx] <;> rfl) ?_)
      refine awp_ret ?_
      refine inBlock_ret ?_
      refine then_ret ?_
      refine then_ret ?_
      refine inBlock_ret ?_
      refine then_ret ?_
      refine inBlock_ret ?_
      refine then_ret ?_
      refine ends_ret (by simp [go_sem, hx] <;> rfl) (by simp [go_sem]) ?_
      exact ⟨by rw [formed_eq]; simp only [Bool.not_true, hx, h0, h2, h5, h6, h7, hany, bA, bB, bC, bD, bE, bF, bG, bH, bI, bJ, Bool.false_eq_true, if_true, if_false, Bool.and_comm, Bool.and_left_comm]; first | (simp [go_sem]; done) | (simp [go_sem, Bool.and_comm, Bool.and_left_comm]; done), by simp [go_sem]⟩
     ·refine awp_skip ?_
      refine aR (by simp [go_sem, hx] <;> rfl) ?_
      exact next_intro (k + 1) σ.objs.length σ.toks.length 1 (⟨hlt, hn.succ hx h7⟩) (by omega) ⟨by simp [go_sem, hx, hw], rfl, by simp, by simp, by simp [go_sem, hx, hw], fun ob h => .inl (by simpa [go_sem, hx, hw] using h), by simp [go_sem]⟩
    ·have hke : k = d.kids.length := by simp at h6; omega
     subst hke
     have hany := hn.any
     refine awp_exit ?_
     refine then_exit ?_
     refine then_exit ?_
     refine inBlock_hit ?_
     refine awp_seq (awp_reg ?_)
     refine aL 4 (by simp [go_sem, hany] <;> rfl) ?_
     refine al_splitT 52 (by first | rfl | (simp [go_sem, hany] <;> rfl)) (fun h8 => ?_) (fun h8 => ?_)
     ·refine aLG 3 52 true (by simp [go_sem, hany] <;> rfl) ?_
      refine aL 2 (by simp [go_sem, hany] <;> rfl) ?_
      refine al_nil ?_
      refine awp_ret ?_
      refine inBlock_ret ?_
      refine then_ret ?_
      refine ends_ret (by simp [go_sem, hany] <;> rfl) (by simp [go_sem]) ?_
      exact ⟨by rw [formed_eq]; simp only [Bool.not_true, hany, h0, h2, h5, h8, bA, bB, bC, bD, bE, bF, bG, bH, bI, bJ, Bool.false_eq_true, if_true, if_false, Bool.and_comm, Bool.and_left_comm]; first | (simp [go_sem]; done) | (simp [go_sem, Bool.and_comm, Bool.and_left_comm]; done), by simp [go_sem]⟩
     ·refine aK 3 52 true ?_
      refine aL 2 (by simp [go_sem, hany] <;> rfl) ?_
      refine al_nil ?_
      refine awp_ret ?_
      refine inBlock_ret ?_
      refine then_ret ?_
      refine ends_ret (by simp [go_sem, hany] <;> rfl) (by simp [go_sem]) ?_
      exact ⟨by rw [formed_eq]; simp only [Bool.not_true, hany, h0, h2, h5, h8, bA, bB, bC, bD, bE, bF, bG, bH, bI, bJ, Bool.false_eq_true, if_true, if_false, Bool.and_comm, Bool.and_left_comm]; first | (simp [go_sem]; done) | (simp [go_sem, Bool.and_comm, Bool.and_left_comm]; done), by simp [go_sem]⟩
   ·refine awp_skip ?_
    refine awp_seq (aR (by simp [go_sem] <;> rfl) ?_)
    refine awp_ret ?_
    refine ends_ret (by simp [go_sem] <;> rfl) (by simp [go_sem]) ?_
    exact ⟨by rw [formed_eq]; simp only [Bool.not_true, h0, h2, h5, bA, bB, bC, bD, bE, bF, bG, bH, bI, bJ, Bool.false_eq_true, if_true, if_false, Bool.and_comm, Bool.and_left_comm]; first | (simp [go_sem]; done) | (simp [go_sem, Bool.and_comm, Bool.and_left_comm]; done), by simp [go_sem]⟩

set_option maxHeartbeats 1000000 in
theorem c_Parts01 (d : D) (hd : d.size ≤ 1000000000) : Pur Tryz.prog (GL kr) 65 [.pv (enc d)] (.pv (.int .i64 d.size)) := by
 induction d using D.ind with
 | _ kind num text kids ih =>
 generalize hD : D.mk kind num text kids = d at *
 have hk : d.kids = kids := by rw [← hD]; rfl
 clear hD
 subst hk
 have hkl := D.kids_length_lt d
 have hds := size_sum d
 rw [sumTo_all] at hds
 refine pur_of fun σ hgl => ?_
 refine acalls_of tyOk Tryz.func65 rfl (by simp [Tryz.f65]) ?_
 refine awp_seq (aR (by simp [go_sem] <;> rfl) ?_)
 refine awp_seq (aR (by simp [go_sem] <;> rfl) ?_)
 refine awp_seq (awp_seq (aR (by simp [go_sem] <;> rfl) ?_))
 refine awp_block ?_
 refine awp_loop_headK σ.objs.length σ.toks.length 1 [1, 2] (fun k : Nat => [(3, .pv (.int .i64 (1 + ((sumTo D.size d.kids k : Nat) : Int)))), (4, .pv (.int .i64 ↑k))]) (fun k => σ) (fun k => k ≤ d.kids.length) (fun k => d.kids.length - k) 0 (Nat.zero_le _) ⟨by simp [go_sem, sumTo_zero], rfl, by simp, by simp, by simp [go_sem, sumTo_zero], fun ob h => .inl (by simpa [go_sem, sumTo_zero] using h), by simp [go_sem]⟩ ?_
 intro k hk
 refine awp_seq (awp_seq (aR (by simp [go_sem] <;> rfl) ?_))
 refine awp_cond (by first | rfl | (simp [go_sem] <;> rfl)) (fun h0 => ?_) (fun h0 => ?_)
 ·have hlt : k < d.kids.length := by simp at h0; omega
  have hw : IntKind.i64.wrap (↑k + 1) = (k : Int) + 1 := wrap_succ (by omega)
  obtain ⟨x, hx, hxm⟩ := get_lt hlt
  have hsn := sumTo_next (f := D.size) hx
  have hs2 := sumTo_le (f := D.size) (l := d.kids) (k := k + 1) (fun x _ => Nat.le_refl _)
  have hsk := D.size_kids d
  have hwa : IntKind.i64.wrap (1 + ((sumTo D.size d.kids k : Nat) : Int) + (x.size : Int)) = 1 + ((sumTo D.size d.kids (k + 1) : Nat) : Int) := by rw [wrap_id (by omega) (by omega)]; omega
  refine awp_skip ?_
  refine awp_seq (awp_block ?_)
  refine awp_reg ?_
  refine aL 6 (by simp [go_sem, hx, hwa] <;> rfl) ?_
  refine aF call65 ((ih x hxm (by have := D.size_kid_lt hxm; omega)) _ (by exact hgl)) (by simp [go_sem, hx, hwa] <;> rfl) (by simp [go_sem, hx, hwa]) ?_
  refine aL 2 (by simp [go_sem, hx, hwa] <;> rfl) ?_
  refine al_nil ?_
  refine aR (by simp [go_sem, hx, hwa] <;> rfl) ?_
  exact next_intro (k + 1) σ.objs.length σ.toks.length 1 (hlt) (by omega) ⟨by simp [go_sem, hx, hwa, hw], rfl, by simp, by simp, by simp [go_sem, hx, hwa, hw], fun ob h => .inl (by simpa [go_sem, hx, hwa, hw] using h), by simp [go_sem]⟩
 ·have hke : k = d.kids.length := by simp at h0; omega
  subst hke
  refine awp_exit ?_
  refine then_exit ?_
  refine then_exit ?_
  refine inBlock_hit ?_
  refine awp_seq (aR (by simp [go_sem] <;> rfl) ?_)
  refine awp_ret ?_
  refine ends_ret (by simp [go_sem] <;> rfl) (by simp [go_sem]) ?_
  have hds := size_sum d
  exact ⟨by rw [hds]; simp [go_sem], by simp [go_sem]⟩

set_option maxHeartbeats 1000000 in
theorem c_Deep01 (d : D) (hd : d.size ≤ 1000000000) : Pur Tryz.prog (GL kr) 66 [.pv (enc d)] (.pv (.int .i64 d.deep)) := by
 induction d using D.ind with
 | _ kind num text kids ih =>
 generalize hD : D.mk kind num text kids = d at *
 have hk : d.kids = kids := by rw [← hD]; rfl
 clear hD
 subst hk
 have hkl := D.kids_length_lt d
 have hdd := D.deep_le_size d
 have hdk := deep_kids d
 refine pur_of fun σ hgl => ?_
 refine acalls_of tyOk Tryz.func66 rfl (by simp [Tryz.f66]) ?_
 refine awp_seq (aR (by simp [go_sem] <;> rfl) ?_)
 refine awp_seq (aR (by simp [go_sem] <;> rfl) ?_)
 refine awp_seq (awp_seq (aR (by simp [go_sem] <;> rfl) ?_))
 refine awp_block ?_
 refine awp_loop_headK σ.objs.length σ.toks.length 1 [1, 2] (fun k : Nat => [(3, .pv (.int .i64 ((D.deeps (d.kids.take k) : Nat) : Int))), (4, .pv (.int .i64 ↑k))]) (fun k => σ) (fun k => k ≤ d.kids.length) (fun k => d.kids.length - k) 0 (Nat.zero_le _) ⟨by simp [go_sem, List.take_zero, D.deeps], rfl, by simp, by simp, by simp [go_sem, List.take_zero, D.deeps], fun ob h => .inl (by simpa [go_sem, List.take_zero, D.deeps] using h), by simp [go_sem]⟩ ?_
 intro k hk
 refine awp_seq (awp_seq (aR (by simp [go_sem] <;> rfl) ?_))
 refine awp_cond (by first | rfl | (simp [go_sem] <;> rfl)) (fun h0 => ?_) (fun h0 => ?_)
 ·have hlt : k < d.kids.length := by simp at h0; omega
  have hw : IntKind.i64.wrap (↑k + 1) = (k : Int) + 1 := wrap_succ (by omega)
  obtain ⟨x, hx, hxm⟩ := get_lt hlt
  have hdn := deeps_next hx
  refine awp_skip ?_
  refine awp_seq (awp_block ?_)
  refine awp_reg ?_
  refine aL 6 (by simp [go_sem, hx, hdn] <;> rfl) ?_
  refine aF call66 ((ih x hxm (by have := D.size_kid_lt hxm; omega)) _ (by exact hgl)) (by simp [go_sem, hx, hdn] <;> rfl) (by simp [go_sem, hx, hdn]) ?_
  refine aL 2 (by simp [go_sem, hx, hdn] <;> rfl) ?_
  refine al_nil ?_
  refine aR (by simp [go_sem, hx, hdn] <;> rfl) ?_
  exact next_intro (k + 1) σ.objs.length σ.toks.length 1 (hlt) (by omega) ⟨by simp [go_sem, hx, hdn, hw], rfl, by simp, by simp, by simp [go_sem, hx, hdn, hw], fun ob h => .inl (by simpa [go_sem, hx, hdn, hw] using h), by simp [go_sem]⟩
 ·have hke : k = d.kids.length := by simp at h0; omega
  subst hke
  have hta : d.kids.take d.kids.length = d.kids := List.take_length
  have hwd : IntKind.i64.wrap (((D.deeps d.kids : Nat) : Int) + 1) = ((D.deeps d.kids : Nat) : Int) + 1 := wrap_id (by omega) (by omega)
  refine awp_exit ?_
  refine then_exit ?_
  refine then_exit ?_
  refine inBlock_hit ?_
  refine awp_seq (aR (by simp [go_sem, hta, hwd] <;> rfl) ?_)
  refine awp_ret ?_
  refine ends_ret (by simp [go_sem] <;> rfl) (by simp [go_sem]) ?_
  exact ⟨by rw [hdk]; simp [go_sem, Int.add_comm], by simp [go_sem]⟩

set_option maxHeartbeats 1000000 in
theorem c_Check01 (d : D) (hd : d.size ≤ 1000000000) : Pur Tryz.prog (GL kr) 29 [.pv (enc d)] (.pv (.int .i64 (dcheck d))) := by
 refine pur_of fun σ hgl => ?_
 refine acalls_of tyOk Tryz.func29 rfl (by simp [Tryz.f29]) ?_
 refine awp_seq (aR (by simp [go_sem] <;> rfl) ?_)
 refine awp_seq (awp_seq (awp_reg ?_))
 refine aL 1 (by simp [go_sem] <;> rfl) ?_
 refine aF call64 ((c_formed01 d hd) _ (by exact hgl)) (by simp [go_sem] <;> rfl) (by simp [go_sem]) ?_
 refine aL 1 (by simp [go_sem] <;> rfl) ?_
 refine al_nil ?_
 refine awp_cond (by first | rfl | (simp [go_sem] <;> rfl)) (fun h0 => ?_) (fun h0 => ?_)
 ·refine awp_seq ?_
  refine aR (by simp [go_sem] <;> rfl) ?_
  refine awp_ret ?_
  refine then_ret ?_
  refine ends_ret (by simp [go_sem] <;> rfl) (by simp [go_sem]) ?_
  exact ⟨by simp only [dcheck, h0, bA, bB, bC, bD, bE, bF, bG, bH, bI, bJ, Bool.false_eq_true, if_true, if_false]; simp [go_sem], by simp [go_sem]⟩
 ·refine awp_skip ?_
  refine awp_seq (awp_seq (awp_reg ?_))
  refine aL 1 (by simp [go_sem] <;> rfl) ?_
  refine aF call65 ((c_Parts01 d hd) _ (by exact hgl)) (by simp [go_sem] <;> rfl) (by simp [go_sem]) ?_
  refine aL 2 (by simp [go_sem] <;> rfl) ?_
  refine al_splitT 9 (by first | rfl | (simp [go_sem] <;> rfl)) (fun h1 => ?_) (fun h1 => ?_)
  ·refine aK 3 9 false ?_
   refine aL 1 (by simp [go_sem] <;> rfl) ?_
   refine al_nil ?_
   refine awp_cond (b := true) (by simp [go_sem, h0, h1]) (fun h => ?_) (fun h => ?_)
   rotate_left
   ·cases h
   refine awp_seq (aR (by simp [go_sem] <;> rfl) ?_)
   refine awp_ret ?_
   refine then_ret ?_
   refine ends_ret (by simp [go_sem] <;> rfl) (by simp [go_sem]) ?_
   exact ⟨by simp only [dcheck, h0, h1, bA, bB, bC, bD, bE, bF, bG, bH, bI, bJ, Bool.false_eq_true, if_true, if_false]; simp [go_sem], by simp [go_sem]⟩
  ·refine aLG 1 9 false (by simp [go_sem] <;> rfl) ?_
   refine al_fnG 9 false false (by simp [go_sem]) rfl (by simp [go_sem]) rfl rfl (by simp [go_sem] <;> rfl) call66 ((c_Deep01 d hd) _ (by exact hgl)) (by simp [go_sem] <;> rfl) (by simp [go_sem]) rfl rfl ?_
   refine aLG 1 9 false (by simp [go_sem] <;> rfl) ?_
   refine aL 1 (by simp [go_sem] <;> rfl) ?_
   refine al_nil ?_
   refine awp_cond (by first | rfl | (simp [go_sem] <;> rfl)) (fun h2 => ?_) (fun h2 => ?_)
   ·refine awp_seq ?_
    refine aR (by simp [go_sem] <;> rfl) ?_
    refine awp_ret ?_
    refine then_ret ?_
    refine ends_ret (by simp [go_sem] <;> rfl) (by simp [go_sem]) ?_
    exact ⟨by simp only [dcheck, h0, h1, h2, bA, bB, bC, bD, bE, bF, bG, bH, bI, bJ, Bool.false_eq_true, if_true, if_false]; simp [go_sem], by simp [go_sem]⟩
   ·refine awp_skip ?_
    refine awp_seq (aR (by simp [go_sem] <;> rfl) ?_)
    refine awp_ret ?_
    refine ends_ret (by simp [go_sem] <;> rfl) (by simp [go_sem]) ?_
    exact ⟨by simp only [dcheck, h0, h1, h2, bA, bB, bC, bD, bE, bF, bG, bH, bI, bJ, Bool.false_eq_true, if_true, if_false]; simp [go_sem], by simp [go_sem]⟩

set_option maxHeartbeats 1000000 in
theorem c_List01 (l : List D) (hl : l.length ≤ 1000000000) : Pur Tryz.prog (GL kr) 59 [.pv (.slice (l.map enc))] (.pv (enc (dlist l))) := by
 have h56 : l.length * 56 ≤ 140737488355328 := by omega
 refine pur_of fun σ hgl => ?_
 refine acalls_of tyOk Tryz.func59 rfl (by simp [Tryz.f59]) ?_
 refine awp_seq (aR (by simp [go_sem, h56] <;> rfl) ?_)
 refine awp_seq (aR (by simp [go_sem, h56] <;> rfl) ?_)
 refine awp_ret ?_
 refine ends_ret (by simp [go_sem, h56] <;> rfl) (by simp [go_sem]) ?_
 exact ⟨by simp [go_sem, h56, enc_list], by simp [go_sem]⟩

set_option maxHeartbeats 1000000 in
theorem c_Find (l : List Df) (hl : l.length ≤ 1000000000) (d : D) (hs : ∀ x, x ∈ l → x.lab.size ≤ 1000000000) : Pur Tryz.prog (GL kr) 39 [.pv (.slice (l.map encDf)), .pv (enc d)] (.pv (.int .i64 (findI l d))) := by
 refine pur_of fun σ hgl => ?_
 refine acalls_of tyOk Tryz.func39 rfl (by simp [Tryz.f39]) ?_
 refine awp_seq (aR (by simp [go_sem] <;> rfl) ?_)
 refine awp_seq (awp_seq (aR (by simp [go_sem] <;> rfl) ?_))
 refine awp_block ?_
 refine awp_loop_headK σ.objs.length σ.toks.length 1 [0, 3, 4] (fun k : Nat => [(5, .pv (.int .i64 ↑k))]) (fun k => σ) (fun k => k ≤ l.length ∧ NotYet (fun x => deq x.lab d) l k) (fun k => l.length - k) 0 (⟨Nat.zero_le _, .zero⟩) ⟨by simp [go_sem], rfl, by simp, by simp, by simp [go_sem], fun ob h => .inl (by simpa [go_sem] using h), by simp [go_sem]⟩ ?_
 rintro k ⟨hk, hn⟩
 refine awp_seq (awp_seq (aR (by simp [go_sem] <;> rfl) ?_))
 refine awp_cond (by first | rfl | (simp [go_sem] <;> rfl)) (fun h0 => ?_) (fun h0 => ?_)
 ·have hlt : k < l.length := by simp at h0; omega
  have hw : IntKind.i64.wrap (↑k + 1) = (k : Int) + 1 := wrap_succ (by omega)
  obtain ⟨x, hx, hxm⟩ := get_lt hlt
  refine awp_skip ?_
  refine awp_seq (awp_block ?_)
  refine awp_seq (awp_regDP tyOk tySz 6 (by kernel_rfl) (by decide) ?_)
  refine ul_run 6 (by simp [go_sem, hx] <;> rfl) ?_
  refine ul_nil ?_
  refine aF call15 ((c_Same x.lab (hs x hxm) d) _ (by exact hgl)) (by simp [go_sem, hx] <;> rfl) (by simp [go_sem, hx]) ?_
  refine al_nil ?_
  refine awp_cond (by first | rfl | (simp [go_sem, hx] <;> rfl)) (fun h1 => ?_) (fun h1 => ?_)
  ·refine awp_seq ?_
   refine aR (by simp [go_sem, hx] <;> rfl) ?_
   refine awp_ret ?_
   refine inBlock_ret ?_
   refine then_ret ?_
   refine then_ret ?_
   refine inBlock_ret ?_
   refine then_ret ?_
   refine ends_ret (by simp [go_sem] <;> rfl) (by simp [go_sem]) ?_
   have hfi : findI l d = (k : Int) := idxOf_found hn hx h1
   exact ⟨by simp [go_sem, hfi], by simp [go_sem]⟩
  ·refine awp_skip ?_
   refine aR (by simp [go_sem, hx] <;> rfl) ?_
   exact next_intro (k + 1) σ.objs.length σ.toks.length 1 (⟨hlt, hn.succ hx h1⟩) (by omega) ⟨by simp [go_sem, hx, hw], rfl, by simp, by simp, by simp [go_sem, hx, hw], fun ob h => .inl (by simpa [go_sem, hx, hw] using h), by simp [go_sem]⟩
 ·have hke : k = l.length := by simp at h0; omega
  subst hke
  have hno : findI l d = -1 := idxOf_none hn
  refine awp_exit ?_
  refine then_exit ?_
  refine then_exit ?_
  refine inBlock_hit ?_
  refine awp_seq (aR (by simp [go_sem] <;> rfl) ?_)
  refine awp_ret ?_
  refine ends_ret (by simp [go_sem] <;> rfl) (by simp [go_sem]) ?_
  exact ⟨by simp [go_sem, hno], by simp [go_sem]⟩

set_option maxHeartbeats 1000000 in
theorem c_Lists (a b : List D) (hl : a.length ≤ 1000000000) (hl2 : b.length ≤ 1000000000) (hs : ∀ x, x ∈ a → x.size ≤ 1000000000) : Pur Tryz.prog (GL kr) 18 [.pv (.slice (a.map enc)), .pv (.slice (b.map enc))] (.pv (.bool (deqs a b))) := by
 refine pur_of fun σ hgl => ?_
 refine acalls_of tyOk Tryz.func18 rfl (by simp [Tryz.f18]) ?_
 refine awp_seq (aR (by simp [go_sem] <;> rfl) ?_)
 refine awp_seq (awp_seq (aR (by simp [go_sem] <;> rfl) ?_))
 refine awp_cond (by first | rfl | (simp [go_sem] <;> rfl)) (fun h0 => ?_) (fun h0 => ?_)
 ·refine awp_seq ?_
  refine aR (by simp [go_sem] <;> rfl) ?_
  refine awp_ret ?_
  refine then_ret ?_
  refine ends_ret (by simp [go_sem] <;> rfl) (by simp [go_sem]) ?_
  have hs : deqs a b = false := by rw [deqs_eqf]; unfold eqf; simp only [h0, Bool.not_true, Bool.false_and]
  exact ⟨by simp [go_sem, hs], by simp [go_sem]⟩
 ·have hlen : a.length = b.length := by have := h0; simp only [bne_eq_false_iff_eq] at this; omega
  have hzl : (a.zip b).length = a.length := by simp; omega
  refine awp_skip ?_
  refine awp_seq (awp_seq (aR (by simp [go_sem] <;> rfl) ?_))
  refine awp_block ?_
  refine awp_loop_headK σ.objs.length σ.toks.length 0 [0, 1, 4] (fun k : Nat => [(5, .pv (.int .i64 ↑k))]) (fun k => σ) (fun k => k ≤ a.length ∧ NotYet (fun x => !deq x.1 x.2) (a.zip b) k) (fun k => a.length - k) 0 (⟨Nat.zero_le _, .zero⟩) ⟨by simp [go_sem], rfl, by simp, by simp, by simp [go_sem], fun ob h => .inl (by simpa [go_sem] using h), by simp [go_sem]⟩ ?_
  rintro k ⟨hk, hn⟩
  refine awp_seq (awp_seq (aR (by simp [go_sem] <;> rfl) ?_))
  refine awp_cond (by first | rfl | (simp [go_sem] <;> rfl)) (fun h1 => ?_) (fun h1 => ?_)
  ·have hlt : k < a.length := by simp at h1; omega
   have hw : IntKind.i64.wrap (↑k + 1) = (k : Int) + 1 := wrap_succ (by omega)
   obtain ⟨x, hx, hxm⟩ := get_lt hlt
   obtain ⟨y, hy, hym⟩ := get_lt (l := b) (k := k) (by omega)
   refine awp_skip ?_
   refine awp_seq (awp_block ?_)
   refine awp_seq (awp_regDP tyOk tySz 8 (by kernel_rfl) (by decide) ?_)
   refine ul_run 8 (by simp [go_sem, hx, hy] <;> rfl) ?_
   refine ul_nil ?_
   refine aF call15 ((c_Same x (hs x hxm) y) _ (by exact hgl)) (by simp [go_sem, hx, hy] <;> rfl) (by simp [go_sem, hx, hy]) ?_
   refine aL 1 (by simp [go_sem, hx, hy] <;> rfl) ?_
   refine al_nil ?_
   refine awp_cond (by first | rfl | (simp [go_sem, hx, hy] <;> rfl)) (fun h2 => ?_) (fun h2 => ?_)
   ·refine awp_seq ?_
    refine aR (by simp [go_sem, hx, hy] <;> rfl) ?_
    refine awp_ret ?_
    refine inBlock_ret ?_
    refine then_ret ?_
    refine then_ret ?_
    refine inBlock_ret ?_
    refine then_ret ?_
    refine ends_ret (by simp [go_sem] <;> rfl) (by simp [go_sem]) ?_
    have hall : (a.zip b).all (fun x => deq x.1 x.2) = false := by rw [List.all_eq_false]; exact ⟨(x, y), List.mem_of_getElem? (zip_get hx hy), by simpa using h2⟩
    have hs : deqs a b = false := by rw [deqs_eqf]; unfold eqf; simp only [hall, Bool.and_false]
    exact ⟨by simp [go_sem, hs], by simp [go_sem]⟩
   ·refine awp_skip ?_
    refine aR (by simp [go_sem, hx, hy] <;> rfl) ?_
    exact next_intro (k + 1) σ.objs.length σ.toks.length 0 (⟨hlt, hn.succ (zip_get hx hy) (by simpa using h2)⟩) (by omega) ⟨by simp [go_sem, hx, hy, hw], rfl, by simp, by simp, by simp [go_sem, hx, hy, hw], fun ob h => .inl (by simpa [go_sem, hx, hy, hw] using h), by simp [go_sem]⟩
  ·have hke : k = a.length := by simp at h1; omega
   subst hke
   have hall : (a.zip b).all (fun x => deq x.1 x.2) = true := by have := (hzl ▸ hn : NotYet _ (a.zip b) (a.zip b).length).all; rw [List.all_eq_true]; intro z hz; simpa using this z hz
   refine awp_exit ?_
   refine then_exit ?_
   refine then_exit ?_
   refine inBlock_hit ?_
   refine awp_seq (aR (by simp [go_sem] <;> rfl) ?_)
   refine awp_ret ?_
   refine ends_ret (by simp [go_sem] <;> rfl) (by simp [go_sem]) ?_
   have hs : deqs a b = true := by rw [deqs_eqf]; unfold eqf; rw [hall]; simp [hlen]
   exact ⟨by simp [go_sem, hs], by simp [go_sem]⟩

end Go.Proofs.YtienmmfjjffjaaaGreatDoor

/- The specification: expressions in order, calls. -/
namespace Go.Proofs.YtienmmfjjffjaaaGreatDoor
open Go Go.Aw
variable {kr : ResO}
set_option maxHeartbeats 1000000 in
theorem c_refLabels (l : List Df) (hl : l.length ≤ 1000000000) : Pur Tryz.prog (GL kr) 19 [.pv (.slice (l.map encDf))] (.pv (.slice ((l.map Df.lab).map enc))) := by
 refine pur_of fun σ hgl => ?_
 refine acalls_of tyOk Tryz.func19 rfl (by simp [Tryz.f19]) ?_
 refine awp_seq (aR (by simp [go_sem] <;> rfl) ?_)
 refine awp_seq (aR (by simp [go_sem] <;> rfl) ?_)
 refine awp_seq (awp_seq (aR (by simp [go_sem] <;> rfl) ?_))
 refine awp_adopt' 3 24 4 (by simp [go_sem] <;> rfl) ?_
 refine awp_block ?_
 refine awp_loop_headK σ.objs.length (σ.toks.length + 1) 0 [0, 2] (fun k : Nat => [(3, .acc ((outN l Df.lab k).map enc) σ.toks.length), (4, .pv (.int .i64 ↑k))]) (fun k => { σ with toks := σ.toks ++ [⟨k, 24, 4⟩] }) (fun k => k ≤ l.length) (fun k => l.length - k) 0 (Nat.zero_le _) ⟨by simp [go_sem, outN_zero], rfl, by simp, by simp, by simp [go_sem, outN_zero], fun ob h => .inl (by simpa [go_sem, outN_zero] using h), by simp [go_sem]⟩ ?_
 intro k hk
 refine awp_seq (awp_seq (aR (by simp [go_sem] <;> rfl) ?_))
 refine awp_cond (by first | rfl | (simp [go_sem] <;> rfl)) (fun h0 => ?_) (fun h0 => ?_)
 ·have hlt : k < l.length := by simp at h0; omega
  have hw : IntKind.i64.wrap (↑k + 1) = (k : Int) + 1 := wrap_succ (by omega)
  obtain ⟨x, hx, hxm⟩ := get_lt hlt
  have hon := outN_next (h := Df.lab) hx
  have hol := outN_len (l := l) (h := Df.lab) hk
  have hbb : (k + 1) * 56 ≤ 140737488355328 := by omega
  refine awp_skip ?_
  refine awp_seq (awp_block ?_)
  refine aR (by simp [go_sem, hx, hol, hbb] <;> rfl) ?_
  refine aR (by simp [go_sem, hx, hol, hbb] <;> rfl) ?_
  exact next_intro (k + 1) σ.objs.length (σ.toks.length + 1) 0 (hlt) (by omega) ⟨by simp [go_sem, hx, hol, hbb, hw, hon], rfl, by simp, by simp, by simp [go_sem, hx, hol, hbb, hw, hon], fun ob h => .inl (by simpa [go_sem, hx, hol, hbb, hw, hon] using h), by simp [go_sem]⟩
 ·have hke : k = l.length := by simp at h0; omega
  subst hke
  refine awp_exit ?_
  refine then_exit ?_
  refine then_exit ?_
  refine inBlock_hit ?_
  refine awp_seq (aR (by simp [go_sem, outN_all] <;> rfl) ?_)
  refine awp_ret ?_
  refine ends_ret (by simp [go_sem, outN_all] <;> rfl) (by simp [go_sem]) ?_
  exact ⟨by simp [go_sem, outN_all], by simp [go_sem]⟩

end Go.Proofs.YtienmmfjjffjaaaGreatDoor

/- The specification: names, keys, bodies. -/
namespace Go.Proofs.YtienmmfjjffjaaaGreatDoor
open Go Go.Aw
variable {kr : ResO}
set_option maxHeartbeats 1000000 in
theorem c_key (d : D) (h0 : -9223372036854775808 ≤ d.num) (h1 : d.num ≤ 9223372036854775807) : Pur Tryz.prog (GL kr) 42 [.pv (enc d)] (.pv (.str (keyS d))) := by
 refine pur_of fun σ hgl => ?_
 refine acalls_of tyOk Tryz.func42 rfl (by simp [Tryz.f42]) ?_
 refine awp_seq (aR (by simp [go_sem] <;> rfl) ?_)
 refine awp_seq (awp_seq (aR (by simp [go_sem] <;> rfl) ?_))
 refine awp_cond (by first | rfl | (simp [go_sem] <;> rfl)) (fun h5 => ?_) (fun h5 => ?_)
 ·refine awp_seq ?_
  refine aR (by simp [go_sem] <;> rfl) ?_
  refine awp_ret ?_
  refine then_ret ?_
  refine ends_ret (by simp [go_sem] <;> rfl) (by simp [go_sem]) ?_
  exact ⟨by simp only [keyS, h5, bA, bB, bC, bD, bE, bF, bG, bH, bI, bJ, Bool.false_eq_true, if_true, if_false]; simp [go_sem], by simp [go_sem]⟩
 ·refine awp_skip ?_
  refine awp_seq (awp_reg ?_)
  refine aL 2 (by simp [go_sem] <;> rfl) ?_
  refine aF call84 ((c_FormatInt d.num h0 h1) _ (by exact hgl)) (by simp [go_sem] <;> rfl) (by simp [go_sem]) ?_
  refine aL 1 (by simp [go_sem] <;> rfl) ?_
  refine al_nil ?_
  refine awp_ret ?_
  refine ends_ret (by simp [go_sem] <;> rfl) (by simp [go_sem]) ?_
  exact ⟨by simp only [keyS, h5, bA, bB, bC, bD, bE, bF, bG, bH, bI, bJ, Bool.false_eq_true, if_true, if_false]; simp [go_sem], by simp [go_sem]⟩

set_option maxHeartbeats 1000000 in
theorem c_refNames (d : D) (hd : d.size ≤ 1000000000) (hf : formed d = true) : Pur Tryz.prog (GL kr) 43 [.pv (enc d)] (.tuple [.pv (encN (names d)), .pv (.bool (names d).isSome)]) := by
 have hkl := D.kids_length_lt d
 refine pur_of fun σ hgl => ?_
 refine acalls_of tyOk Tryz.func43 rfl (by simp [Tryz.f43]) ?_
 refine awp_seq (aR (by simp [go_sem] <;> rfl) ?_)
 refine awp_seq (awp_seq (aR (by simp [go_sem] <;> rfl) ?_))
 refine awp_cond (by first | rfl | (simp [go_sem] <;> rfl)) (fun h0 => ?_) (fun h0 => ?_)
 ·refine awp_seq ?_
  refine aR (by simp [go_sem] <;> rfl) ?_
  refine awp_ret ?_
  refine then_ret ?_
  refine ends_ret (by simp [go_sem] <;> rfl) (by simp [go_sem]) ?_
  exact ⟨by simp only [names, encN, h0, bA, bB, bC, bD, bE, bF, bG, bH, bI, bJ, Bool.false_eq_true, if_true, if_false]; simp [go_sem], by simp [go_sem]⟩
 ·refine awp_skip ?_
  refine awp_seq (aR (by simp [go_sem] <;> rfl) ?_)
  refine awp_seq (awp_seq (aR (by simp [go_sem] <;> rfl) ?_))
  refine awp_adopt' 4 9 1 (by simp [go_sem] <;> rfl) ?_
  refine awp_block ?_
  refine awp_loop_headK σ.objs.length (σ.toks.length + 1) 1 [1, 2, 3] (fun k : Nat => [(4, .acc ((textsL (d.kids.take k)).map .str) σ.toks.length), (5, .pv (.int .i64 ↑k))]) (fun k => { σ with toks := σ.toks ++ [⟨k, 9, 1⟩] }) (fun k => k ≤ d.kids.length ∧ names d = namesGo (textsL (d.kids.take k)) (d.kids.drop k)) (fun k => d.kids.length - k) 0 (⟨Nat.zero_le _, by simp only [names, h0, Bool.false_eq_true, if_false]; rfl⟩) ⟨by simp [go_sem, textsL_nil], rfl, by simp, by simp, by simp [go_sem, textsL_nil], fun ob h => .inl (by simpa [go_sem, textsL_nil] using h), by simp [go_sem]⟩ ?_
  rintro k ⟨hk, hn⟩
  refine awp_seq (awp_seq (aR (by simp [go_sem] <;> rfl) ?_))
  refine awp_cond (by first | rfl | (simp [go_sem] <;> rfl)) (fun h1 => ?_) (fun h1 => ?_)
  ·have hlt : k < d.kids.length := by simp at h1; omega
   have hw : IntKind.i64.wrap (↑k + 1) = (k : Int) + 1 := wrap_succ (by omega)
   obtain ⟨x, hx, hxm⟩ := get_lt hlt
   have ht := textsL_next hx
   have htl : (textsL (d.kids.take k)).length = k := by rw [textsL_length, List.length_take]; omega
   have hb : (k + 1) * 16 ≤ 140737488355328 := by omega
   have hst := namesGo_step hx
   have hfx := formed_kids hf hxm
   rw [← any_comm] at hst
   refine awp_skip ?_
   refine awp_seq (awp_block ?_)
   refine awp_seq (aR (by simp [go_sem, hx, htl, hb, allSz_str] <;> rfl) ?_)
   refine awp_seq (awp_seq (awp_reg ?_))
   refine aL 8 (by simp [go_sem, hx, htl, hb, allSz_str] <;> rfl) ?_
   refine al_splitT 30 (by first | rfl | (simp [go_sem, hx, htl, hb, allSz_str] <;> rfl)) (fun h2 => ?_) (fun h2 => ?_)
   ·have hnm : isName x = false := by unfold isName; rw [show (x.kind == 2) = false by simpa using h2]; rfl
    refine aK 3 30 false ?_
    refine aL 2 (by simp [go_sem, hx, htl, hb, allSz_str] <;> rfl) ?_
    refine aK 3 35 false ?_
    refine aL 1 (by simp [go_sem, hx, htl, hb, allSz_str] <;> rfl) ?_
    refine al_nil ?_
    refine awp_cond (b := true) (by simp [go_sem, hx, htl, hb, allSz_str, h0, h1, h2, hnm]) (fun h => ?_) (fun h => ?_)
    rotate_left
    ·cases h
    refine awp_seq (aR (by simp [go_sem, hx, htl, hb, allSz_str] <;> rfl) ?_)
    refine awp_ret ?_
    refine then_ret ?_
    refine inBlock_ret ?_
    refine then_ret ?_
    refine then_ret ?_
    refine inBlock_ret ?_
    refine then_ret ?_
    refine ends_ret (by simp [go_sem] <;> rfl) (by simp [go_sem]) ?_
    have hs : names d = none := by rw [hn, hst]; simp only [Bool.not_true, Bool.not_false, hx, htl, hb, allSz_str, h0, h1, h2, hnm, bA, bB, bC, bD, bE, bF, bG, bH, bI, bJ, Bool.false_eq_true, if_true, if_false]
    exact ⟨by simp [go_sem, hs, encN], by simp [go_sem]⟩
   ·have hnm : rname x.text = isName x := rname_eq hfx (by simpa using h2)
    refine aLG 1 30 false (by simp [go_sem, hx, htl, hb, allSz_str, hnm] <;> rfl) ?_
    refine al_fnG 30 false false (by simp [go_sem]) rfl (by simp [go_sem]) rfl rfl (by simp [go_sem, hx, htl, hb, allSz_str, hnm] <;> rfl) call83 ((c_Name x.text) _ (by exact hgl)) (by simp [go_sem, hx, htl, hb, allSz_str, hnm] <;> rfl) (by simp [go_sem, hx, htl, hb, allSz_str, hnm]) rfl rfl ?_
    refine aLG 1 30 false (by simp [go_sem, hx, htl, hb, allSz_str, hnm] <;> rfl) ?_
    refine aL 2 (by simp [go_sem, hx, htl, hb, allSz_str, hnm] <;> rfl) ?_
    refine al_splitT 35 (by first | rfl | (simp [go_sem, hx, htl, hb, allSz_str, hnm] <;> rfl)) (fun h3 => ?_) (fun h3 => ?_)
    ·refine aK 3 35 false ?_
     refine aL 1 (by simp [go_sem, hx, htl, hb, allSz_str, hnm] <;> rfl) ?_
     refine al_nil ?_
     refine awp_cond (b := true) (by simp [go_sem, hx, htl, hb, allSz_str, hnm, h0, h1, h2, h3]) (fun h => ?_) (fun h => ?_)
     rotate_left
     ·cases h
     refine awp_seq (aR (by simp [go_sem, hx, htl, hb, allSz_str, hnm] <;> rfl) ?_)
     refine awp_ret ?_
     refine then_ret ?_
     refine inBlock_ret ?_
     refine then_ret ?_
     refine then_ret ?_
     refine inBlock_ret ?_
     refine then_ret ?_
     refine ends_ret (by simp [go_sem] <;> rfl) (by simp [go_sem]) ?_
     have hs : names d = none := by rw [hn, hst]; simp only [Bool.not_true, Bool.not_false, hx, htl, hb, allSz_str, hnm, h0, h1, h2, h3, bA, bB, bC, bD, bE, bF, bG, bH, bI, bJ, Bool.false_eq_true, if_true, if_false]
     exact ⟨by simp [go_sem, hs, encN], by simp [go_sem]⟩
    ·refine aLG 2 35 false (by simp [go_sem, hx, htl, hb, allSz_str, hnm] <;> rfl) ?_
     refine al_fnG 35 false false (by simp [go_sem]) rfl (by simp [go_sem]) rfl rfl (by simp [go_sem, hx, htl, hb, allSz_str, hnm] <;> rfl) call85 ((c_Among (textsL (d.kids.take k)) (by omega) x.text) _ (by exact hgl)) (by simp [go_sem, hx, htl, hb, allSz_str, hnm] <;> rfl) (by simp [go_sem, hx, htl, hb, allSz_str, hnm]) rfl rfl ?_
     refine aL 1 (by simp [go_sem, hx, htl, hb, allSz_str, hnm] <;> rfl) ?_
     refine al_nil ?_
     refine awp_cond (by first | rfl | (simp [go_sem, hx, htl, hb, allSz_str, hnm] <;> rfl)) (fun h4 => ?_) (fun h4 => ?_)
     ·refine awp_seq ?_
      refine aR (by simp [go_sem, hx, htl, hb, allSz_str, hnm] <;> rfl) ?_
      refine awp_ret ?_
      refine then_ret ?_
      refine inBlock_ret ?_
      refine then_ret ?_
      refine then_ret ?_
      refine inBlock_ret ?_
      refine then_ret ?_
      refine ends_ret (by simp [go_sem] <;> rfl) (by simp [go_sem]) ?_
      have hs : names d = none := by rw [hn, hst]; simp only [Bool.not_true, Bool.not_false, hx, htl, hb, allSz_str, hnm, h0, h1, h2, h3, h4, bA, bB, bC, bD, bE, bF, bG, bH, bI, bJ, Bool.false_eq_true, if_true, if_false]
      exact ⟨by simp [go_sem, hs, encN], by simp [go_sem]⟩
     ·refine awp_skip ?_
      refine aR (by simp [go_sem, hx, htl, hb, allSz_str, hnm] <;> rfl) ?_
      refine aR (by simp [go_sem, hx, htl, hb, allSz_str, hnm] <;> rfl) ?_
      exact next_intro (k + 1) σ.objs.length (σ.toks.length + 1) 1 (⟨hlt, by rw [hn, hst]; simp only [h0, h1, h2, h3, h4, bA, bB, bC, bD, bE, bF, bG, bH, bI, bJ, Bool.false_eq_true, if_true, if_false]⟩) (by omega) ⟨by simp [go_sem, hx, htl, hb, allSz_str, hnm, hw, ht], rfl, by simp, by simp, by simp [go_sem, hx, htl, hb, allSz_str, hnm, hw, ht], fun ob h => .inl (by simpa [go_sem, hx, htl, hb, allSz_str, hnm, hw, ht] using h), by simp [go_sem]⟩
  ·have hke : k = d.kids.length := by simp at h1; omega
   subst hke
   have htl : (textsL (d.kids.take d.kids.length)) = textsL d.kids := by rw [List.take_length]
   refine awp_exit ?_
   refine then_exit ?_
   refine then_exit ?_
   refine inBlock_hit ?_
   refine awp_seq (aR (by simp [go_sem] <;> rfl) ?_)
   refine awp_ret ?_
   refine ends_ret (by simp [go_sem] <;> rfl) (by simp [go_sem]) ?_
   have hs : names d = some (textsL d.kids) := by rw [hn, namesGo_end, htl]
   exact ⟨by simp [go_sem, hs, encN, htl], by simp [go_sem]⟩

end Go.Proofs.YtienmmfjjffjaaaGreatDoor
