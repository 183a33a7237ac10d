/- Part of the proof that the statement holds for every input that its row lets in: the contracts of the program's functions, printed by a program out of annotations; the statement itself stands at the end of the last part. -/
import Derived.Test.YtienmmfjjffjaaaGreatDoorZS3
import Derived.Test.YtienmmfjjffjaaaGreatDoorZA3
import Derived.Test.YtienmmfjjffjaaaGreatDoorZS2
import Derived.Test.YtienmmfjjffjaaaGreatDoorRows
set_option linter.unusedSimpArgs false
set_option linter.unusedVariables false
/- The specification: bodies. -/
namespace Go.Proofs.YtienmmfjjffjaaaGreatDoor
open Go Go.Aw
variable {kr : ResO}
set_option maxHeartbeats 1000000 in
theorem c_body (l : List Df) (ps : List (D × Int)) (H : LP l ps) (hll : l.length ≤ 1000000000) (hls : ∀ x, x ∈ l → x.lab.size ≤ 1000000000 ∧ x.ps.length ≤ 1000000000) (d : D) : ∀ (b : List ByteArray) (σ : Store) (hgl : σ.gl = (GL kr)) (hf : formed d = true) (hb : b.length + d.size ≤ 1000000000), PurAt Tryz.prog σ 44 [.pv (.slice (l.map encDf)), .pv (enc d), .pv (.slice (b.map .str))] (.pv (.int .i64 (cexpr ps b d))) := by
  induction d using D.ind with
  | _ kind num text kids ih =>
  generalize hD : D.mk kind num text kids = d at *
  have hk : d.kids = kids := by rw [← hD]; rfl
  clear hD
  subst hk
  have hkl := D.kids_length_lt d
  intro b σ hgl hf hb
  rw [cexpr_body hf]
  have hkr := kidsR_len d
  have hwr1 : IntKind.i64.wrap ((d.kids.length : Int) - 1) = (d.kids.length : Int) - 1 := wrap_id (by omega) (by omega)
  refine purAt_of ?_
  refine acalls_of tyOk Tryz.func44 rfl (by simp [Tryz.f44]) ?_
  refine awp_seq ?_
  refine awp_region_run (sh := []) tyOk (by simp [go_sem, hwr1] <;> rfl) ?_
  refine awp_seq ?_
  refine awp_seq ?_
  refine awp_reg ?_
  refine al_run 1 (sh := []) tyOk (by simp [go_sem, hwr1] <;> rfl) ?_
  refine al_fn rfl rfl rfl (by simp [go_sem, hwr1] <;> rfl) call86 ((c_form d) _ (by exact hgl)) (by simp [go_sem, hwr1] <;> rfl) (by simp [go_sem, hwr1]) rfl rfl ?_
  refine al_run 1 (sh := []) tyOk (by simp [go_sem, hwr1] <;> rfl) ?_
  refine al_nil ?_
  refine awp_cond (by first | rfl | (simp [go_sem, hwr1] <;> rfl)) (fun h0 => ?_) (fun h0 => ?_)
  · refine awp_seq ?_
    refine awp_region_run (sh := []) tyOk (by simp [go_sem, hwr1] <;> rfl) ?_
    refine awp_ret ?_
    refine then_ret ?_
    refine ends_ret (by simp [go_sem] <;> rfl) (by simp [go_sem]) ?_
    have hs : body1 ps b d = 4 := by unfold body1; simp only [eCall, hwr1, h0, Bool.true_or, Bool.or_true, Bool.false_or, Bool.or_false, Bool.true_and, Bool.and_true, Bool.false_and, Bool.and_false, Bool.not_true, Bool.not_false, Bool.false_eq_true, if_true, if_false]
    exact ⟨by simp [go_sem, hs], by simp [go_sem]⟩
  · have hfm : form d = true := by simpa using h0
    refine awp_skip ?_
    refine awp_seq ?_
    refine awp_seq ?_
    refine awp_reg ?_
    refine al_run 4 (sh := []) tyOk (by simp [go_sem, hwr1] <;> rfl) ?_
    refine al_splitT 21 (by first | rfl | (simp [go_sem, hwr1] <;> rfl)) (fun h1 => ?_) (fun h1 => ?_)
    · refine al_runG (sh := []) 3 21 true true tyOk (by simp [go_sem]) rfl (by simp [go_sem]) rfl rfl (by simp [go_sem, hwr1] <;> rfl) ?_
      refine al_fnG 21 true true (by simp [go_sem]) rfl (by simp [go_sem]) rfl rfl (by simp [go_sem, hwr1] <;> rfl) call85 ((c_Among b (by omega) d.text) _ (by exact hgl)) (by simp [go_sem, hwr1] <;> rfl) (by simp [go_sem, hwr1]) rfl rfl ?_
      refine al_runG (sh := []) 1 21 true true tyOk (by simp [go_sem]) rfl (by simp [go_sem]) rfl rfl (by simp [go_sem, hwr1] <;> rfl) ?_
      refine al_run 1 (sh := []) tyOk (by simp [go_sem, hwr1] <;> rfl) ?_
      refine al_nil ?_
      refine awp_cond (by first | rfl | (simp [go_sem, hwr1] <;> rfl)) (fun h2 => ?_) (fun h2 => ?_)
      · refine awp_seq ?_
        refine awp_region_run (sh := []) tyOk (by simp [go_sem, hwr1] <;> rfl) ?_
        refine awp_ret ?_
        refine then_ret ?_
        refine ends_ret (by simp [go_sem] <;> rfl) (by simp [go_sem]) ?_
        have hs : body1 ps b d = 12 := by unfold body1; simp only [eCall, hwr1, h0, h1, h2, Bool.true_or, Bool.or_true, Bool.false_or, Bool.or_false, Bool.true_and, Bool.and_true, Bool.false_and, Bool.and_false, Bool.not_true, Bool.not_false, Bool.false_eq_true, if_true, if_false]
        exact ⟨by simp [go_sem, hs], by simp [go_sem]⟩
      · refine awp_skip ?_
        refine awp_seq ?_
        refine awp_reg ?_
        refine al_run 1 (sh := []) tyOk (by simp [go_sem, hwr1] <;> rfl) ?_
        refine al_fn rfl rfl rfl (by simp [go_sem, hwr1] <;> rfl) call82 ((c_Word d) _ (by exact hgl)) (by simp [go_sem, hwr1] <;> rfl) (by simp [go_sem, hwr1]) rfl rfl ?_
        refine al_run 1 (sh := []) tyOk (by simp [go_sem, hwr1] <;> rfl) ?_
        refine al_nil ?_
        refine awp_seq ?_
        refine awp_seq ?_
        refine awp_region_run (sh := []) tyOk (by simp [go_sem, hwr1] <;> rfl) ?_
        refine awp_cond (by first | rfl | (simp [go_sem, hwr1] <;> rfl)) (fun h3 => ?_) (fun h3 => ?_)
        · have hwc : word d = sCall := of_decide_eq_true h3
          have h2l := form_two hfm (.inr hwc)
          obtain ⟨hlb, hlf⟩ := form_call hfm hf hwc
          have hx1 := get_d1 h2l
          refine awp_seq ?_
          refine awp_reg ?_
          refine al_run 5 (sh := []) tyOk (by simp [go_sem, hwr1, hx1] <;> rfl) ?_
          refine al_fn rfl rfl rfl (by simp [go_sem, hwr1, hx1] <;> rfl) call39 ((c_Find l hll (d1 d.kids) (fun x hx => (hls x hx).1)) _ (by exact hgl)) (by simp [go_sem, hwr1, hx1] <;> rfl) (by simp [go_sem, hwr1, hx1]) rfl rfl ?_
          refine al_run 1 (sh := []) tyOk (by simp [go_sem, hwr1, hx1] <;> rfl) ?_
          refine al_nil ?_
          refine awp_seq ?_
          refine awp_seq ?_
          refine awp_region_run (sh := []) tyOk (by simp [go_sem, hwr1, hx1] <;> rfl) ?_
          refine awp_cond (by first | rfl | (simp [go_sem, hwr1, hx1] <;> rfl)) (fun h4 => ?_) (fun h4 => ?_)
          · have hkn := H.neg hlb hlf (by simpa using h4)
            refine awp_seq ?_
            refine awp_region_run (sh := []) tyOk (by simp [go_sem, hwr1, hx1] <;> rfl) ?_
            refine awp_ret ?_
            refine then_ret ?_
            refine then_ret ?_
            refine ends_ret (by simp [go_sem] <;> rfl) (by simp [go_sem]) ?_
            have hs : body1 ps b d = 5 := by unfold body1; simp only [eCall, hwr1, hx1, h0, h1, h2, h3, h4, hkn, Bool.true_or, Bool.or_true, Bool.false_or, Bool.or_false, Bool.true_and, Bool.and_true, Bool.false_and, Bool.and_false, Bool.not_true, Bool.not_false, Bool.false_eq_true, if_true, if_false]
            exact ⟨by simp [go_sem, hs], by simp [go_sem]⟩
          · obtain ⟨hi0, y, hy, hky⟩ := H.pos hlb hlf (by simpa using h4)
            have hwr2 : IntKind.i64.wrap ((d.kids.length : Int) - 2) = (d.kids.length : Int) - 2 := wrap_id (by omega) (by omega)
            refine awp_skip ?_
            refine awp_seq ?_
            refine awp_regDP tyOk tySz 10 (by kernel_rfl) (by decide) ?_
            refine ul_run 10 (by simp [go_sem, hwr1, hx1, hi0, hy, hwr2] <;> rfl) ?_
            refine ul_nil ?_
            refine al_run 1 (sh := []) tyOk (by simp [go_sem, hwr1, hx1, hi0, hy, hwr2] <;> rfl) ?_
            refine al_nil ?_
            refine awp_cond (by first | rfl | (simp [go_sem, hwr1, hx1, hi0, hy, hwr2] <;> rfl)) (fun h5 => ?_) (fun h5 => ?_)
            · refine awp_seq ?_
              refine awp_region_run (sh := []) tyOk (by simp [go_sem, hwr1, hx1, hi0, hy, hwr2] <;> rfl) ?_
              refine awp_ret ?_
              refine then_ret ?_
              refine ends_ret (by simp [go_sem] <;> rfl) (by simp [go_sem]) ?_
              have hs : body1 ps b d = 11 := by unfold body1; simp only [eCall, hwr1, hx1, hi0, hy, hwr2, h0, h1, h2, h3, h4, hky, h5, Bool.true_or, Bool.or_true, Bool.false_or, Bool.or_false, Bool.true_and, Bool.and_true, Bool.false_and, Bool.and_false, Bool.not_true, Bool.not_false, Bool.false_eq_true, if_true, if_false]
              exact ⟨by simp [go_sem, hs], by simp [go_sem]⟩
            · refine awp_skip ?_
              refine awp_seq ?_
              refine awp_seq ?_
              refine awp_reg ?_
              refine al_run 1 (sh := []) tyOk (by simp [go_sem, hwr1, hx1, hi0, hy, hwr2] <;> rfl) ?_
              refine al_fn rfl rfl rfl (by simp [go_sem, hwr1, hx1, hi0, hy, hwr2] <;> rfl) call87 ((c_Arity07 (word d)) _ (by exact hgl)) (by simp [go_sem, hwr1, hx1, hi0, hy, hwr2] <;> rfl) (by simp [go_sem, hwr1, hx1, hi0, hy, hwr2]) rfl rfl ?_
              refine al_run 5 (sh := []) tyOk (by simp [go_sem, hwr1, hx1, hi0, hy, hwr2] <;> rfl) ?_
              refine al_nil ?_
              refine awp_seq ?_
              refine awp_reg ?_
              refine al_run 2 (sh := []) tyOk (by simp [go_sem, hwr1, hx1, hi0, hy, hwr2] <;> rfl) ?_
              refine al_splitT 57 (by first | rfl | (simp [go_sem, hwr1, hx1, hi0, hy, hwr2] <;> rfl)) (fun h6 => ?_) (fun h6 => ?_)
              · refine al_runG (sh := []) 6 57 true true tyOk (by simp [go_sem]) rfl (by simp [go_sem]) rfl rfl (by simp [go_sem, hwr1, hx1, hi0, hy, hwr2] <;> rfl) ?_
                refine al_run 1 (sh := []) tyOk (by simp [go_sem, hwr1, hx1, hi0, hy, hwr2] <;> rfl) ?_
                refine al_nil ?_
                refine awp_cond (by first | rfl | (simp [go_sem, hwr1, hx1, hi0, hy, hwr2] <;> rfl)) (fun h7 => ?_) (fun h7 => ?_)
                · refine awp_seq ?_
                  refine awp_region_run (sh := []) tyOk (by simp [go_sem, hwr1, hx1, hi0, hy, hwr2] <;> rfl) ?_
                  refine awp_ret ?_
                  refine then_ret ?_
                  refine ends_ret (by simp [go_sem] <;> rfl) (by simp [go_sem]) ?_
                  have hs : body1 ps b d = 11 := by unfold body1; simp only [eCall, hwr1, hx1, hi0, hy, hwr2, h0, h1, h2, h3, h4, hky, h5, h6, h7, Bool.true_or, Bool.or_true, Bool.false_or, Bool.or_false, Bool.true_and, Bool.and_true, Bool.false_and, Bool.and_false, Bool.not_true, Bool.not_false, Bool.false_eq_true, if_true, if_false]
                  exact ⟨by simp [go_sem, hs], by simp [go_sem]⟩
                · refine awp_skip ?_
                  refine awp_seq ?_
                  have hgo : body1 ps b d = goB ps b d 0 (kidsR d) := by unfold body1; simp only [eCall, hwr1, hx1, hi0, hy, hwr2, h0, h1, h2, h3, h4, hky, h5, h6, h7, Bool.true_or, Bool.or_true, Bool.false_or, Bool.or_false, Bool.true_and, Bool.and_true, Bool.false_and, Bool.and_false, Bool.not_true, Bool.not_false, Bool.false_eq_true, if_true, if_false]
                  refine awp_reg ?_
                  refine al_run 1 (sh := []) tyOk (by simp [go_sem, hwr1, hx1, hi0, hy, hwr2] <;> rfl) ?_
                  refine al_fn rfl rfl rfl (by simp [go_sem, hwr1, hx1, hi0, hy, hwr2] <;> rfl) call88 ((c_Kids d (form_two hfm)) _ (by exact hgl)) (by simp [go_sem, hwr1, hx1, hi0, hy, hwr2] <;> rfl) (by simp [go_sem, hwr1, hx1, hi0, hy, hwr2]) rfl rfl ?_
                  refine al_run 1 (sh := []) tyOk (by simp [go_sem, hwr1, hx1, hi0, hy, hwr2] <;> rfl) ?_
                  refine al_nil ?_
                  refine awp_seq ?_
                  refine awp_seq ?_
                  refine awp_region_run (sh := []) tyOk (by simp [go_sem, hwr1, hx1, hi0, hy, hwr2] <;> rfl) ?_
                  refine awp_block ?_
                  refine awp_loop_headK σ.objs.length σ.toks.length 1 [0, 2, 4, 6, 7, 11] (fun k : Nat => [(12, .pv (.int .i64 ↑k))]) (fun k => σ) (fun k => k ≤ (kidsR d).length ∧ body1 ps b d = goB ps b d k ((kidsR d).drop k)) (fun k => (kidsR d).length - k) 0 (⟨Nat.zero_le _, by rw [hgo]; rfl⟩) ⟨by simp [go_sem, hwr1, hx1, hi0, hy, hwr2], rfl, by simp, by simp, by simp [go_sem, hwr1, hx1, hi0, hy, hwr2], fun ob h => .inl (by simpa [go_sem, hwr1, hx1, hi0, hy, hwr2] using h), by simp [go_sem]⟩ ?_
                  rintro k ⟨hk, hn⟩
                  refine awp_seq ?_
                  refine awp_seq ?_
                  refine awp_region_run (sh := []) tyOk (by simp [go_sem, hwr1, hx1, hi0, hy, hwr2] <;> rfl) ?_
                  refine awp_cond (by first | rfl | (simp [go_sem, hwr1, hx1, hi0, hy, hwr2] <;> rfl)) (fun h8 => ?_) (fun h8 => ?_)
                  · have hlt : k < (kidsR d).length := by simp at h8; omega
                    have hw : IntKind.i64.wrap (↑k + 1) = (k : Int) + 1 := wrap_succ (by omega)
                    obtain ⟨x, hx, hxm⟩ := get_lt hlt
                    have hst := goB_step (ps := ps) (b := b) hx
                    refine awp_skip ?_
                    refine awp_seq ?_
                    refine awp_block ?_
                    refine awp_seq ?_
                    refine awp_region_run (sh := []) tyOk (by simp [go_sem, hwr1, hx1, hi0, hy, hwr2, hx] <;> rfl) ?_
                    refine awp_seq ?_
                    refine awp_seq ?_
                    refine awp_reg ?_
                    refine al_run 3 (sh := []) tyOk (by simp [go_sem, hwr1, hx1, hi0, hy, hwr2, hx] <;> rfl) ?_
                    refine al_splitT 76 (by first | rfl | (simp [go_sem, hwr1, hx1, hi0, hy, hwr2, hx] <;> rfl)) (fun h9 => ?_) (fun h9 => ?_)
                    · have hA := h9
                      refine al_runG (sh := []) 2 76 true true tyOk (by simp [go_sem]) rfl (by simp [go_sem]) rfl rfl (by simp [go_sem, hwr1, hx1, hi0, hy, hwr2, hx] <;> rfl) ?_
                      refine al_run 1 (sh := []) tyOk (by simp [go_sem, hwr1, hx1, hi0, hy, hwr2, hx] <;> rfl) ?_
                      refine al_nil ?_
                      refine awp_cond (by first | rfl | (simp [go_sem, hwr1, hx1, hi0, hy, hwr2, hx] <;> rfl)) (fun h10 => ?_) (fun h10 => ?_)
                      · have h2m := form_two hfm (.inl (of_decide_eq_true hA))
                        have hy1 := get_d1 h2m
                        have hin : inb b d k = b ++ [(d1 d.kids).text] := inb_yes hA h10
                        have hbb : (b.length + 1) * 16 ≤ 140737488355328 := by omega
                        have hb16 : b.length * 16 ≤ 140737488355328 := by omega
                        refine awp_regDP tyOk tySz 9 (by kernel_rfl) (by decide) ?_
                        refine ul_run 9 (by simp [go_sem, hwr1, hx1, hi0, hy, hwr2, hx, hy1, hin, hbb, hb16, allSz_str] <;> rfl) ?_
                        refine ul_nil ?_
                        refine al_run 2 (sh := []) tyOk (by simp [go_sem, hwr1, hx1, hi0, hy, hwr2, hx, hy1, hin, hbb, hb16, allSz_str] <;> rfl) ?_
                        refine al_nil ?_
                        refine awp_seq ?_
                        refine awp_reg ?_
                        refine al_run 6 (sh := []) tyOk (by simp [go_sem, hwr1, hx1, hi0, hy, hwr2, hx, hy1, hin, hbb, hb16, allSz_str] <;> rfl) ?_
                        refine al_fn rfl rfl rfl (by simp [go_sem, hwr1, hx1, hi0, hy, hwr2, hx, hy1, hin, hbb, hb16, allSz_str] <;> rfl) call44 (ih x (kidsR_mem hxm) (inb b d k) _ (by exact hgl) (formed_kids hf (kidsR_mem hxm)) (by have := D.size_kid_lt (kidsR_mem hxm); have := inb_len b d k; omega)) (by simp [go_sem, hwr1, hx1, hi0, hy, hwr2, hx, hy1, hin, hbb, hb16, allSz_str] <;> rfl) (by simp [go_sem, hwr1, hx1, hi0, hy, hwr2, hx, hy1, hin, hbb, hb16, allSz_str]) rfl rfl ?_
                        refine al_run 1 (sh := []) tyOk (by simp [go_sem, hwr1, hx1, hi0, hy, hwr2, hx, hy1, hin, hbb, hb16, allSz_str] <;> rfl) ?_
                        refine al_nil ?_
                        refine awp_seq ?_
                        refine awp_region_run (sh := []) tyOk (by simp [go_sem, hwr1, hx1, hi0, hy, hwr2, hx, hy1, hin, hbb, hb16, allSz_str] <;> rfl) ?_
                        refine awp_cond (by first | rfl | (simp [go_sem, hwr1, hx1, hi0, hy, hwr2, hx, hy1, hin, hbb, hb16, allSz_str] <;> rfl)) (fun h11 => ?_) (fun h11 => ?_)
                        · refine awp_seq ?_
                          refine awp_region_run (sh := []) tyOk (by simp [go_sem, hwr1, hx1, hi0, hy, hwr2, hx, hy1, hin, hbb, hb16, allSz_str] <;> rfl) ?_
                          refine awp_ret ?_
                          refine inBlock_ret ?_
                          refine then_ret ?_
                          refine then_ret ?_
                          refine inBlock_ret ?_
                          refine then_ret ?_
                          refine ends_ret (by simp [go_sem] <;> rfl) (by simp [go_sem]) ?_
                          have hs : body1 ps b d = cexpr ps (inb b d k) x := by rw [hn, hst]; simp only [Bool.not_true, hwr1, hx1, hi0, hy, hwr2, hx, hy1, hin, hbb, hb16, allSz_str, h0, h1, h2, h3, h4, hky, h5, h6, h7, h8, h9, h10, hin, h11, Bool.true_or, Bool.or_true, Bool.false_or, Bool.or_false, Bool.true_and, Bool.and_true, Bool.false_and, Bool.and_false, Bool.not_true, Bool.not_false, Bool.false_eq_true, if_true, if_false]
                          exact ⟨by simp [go_sem, hs, hwr1, hx1, hi0, hy, hwr2, hx, hy1, hin, hbb, hb16, allSz_str, h0, h1, h2, h3, h4, hky, h5, h6, h7, h8, h9, h10, hin, h11], by simp [go_sem]⟩
                        · refine awp_skip ?_
                          refine awp_region_run (sh := []) tyOk (by simp [go_sem, hwr1, hx1, hi0, hy, hwr2, hx, hy1, hin, hbb, hb16, allSz_str] <;> rfl) ?_
                          exact next_intro (k + 1) σ.objs.length σ.toks.length 1 (⟨hlt, by rw [hn, hst]; simp only [h0, h1, h2, h3, h4, hky, h5, h6, h7, h8, h9, h10, hin, h11, Bool.true_or, Bool.or_true, Bool.false_or, Bool.or_false, Bool.true_and, Bool.and_true, Bool.false_and, Bool.and_false, Bool.not_true, Bool.not_false, Bool.false_eq_true, if_true, if_false]⟩) (by omega) ⟨by simp [go_sem, hwr1, hx1, hi0, hy, hwr2, hx, hy1, hin, hbb, hb16, allSz_str, hw], rfl, by simp, by simp, by simp [go_sem, hwr1, hx1, hi0, hy, hwr2, hx, hy1, hin, hbb, hb16, allSz_str, hw], fun ob h => .inl (by simpa [go_sem, hwr1, hx1, hi0, hy, hwr2, hx, hy1, hin, hbb, hb16, allSz_str, hw] using h), by simp [go_sem]⟩
                      · have hin : inb b d k = b := inb_other h10
                        refine awp_skip ?_
                        refine awp_seq ?_
                        refine awp_reg ?_
                        refine al_run 6 (sh := []) tyOk (by simp [go_sem, hwr1, hx1, hi0, hy, hwr2, hx, hin] <;> rfl) ?_
                        refine al_fn rfl rfl rfl (by simp [go_sem, hwr1, hx1, hi0, hy, hwr2, hx, hin] <;> rfl) call44 (ih x (kidsR_mem hxm) (inb b d k) _ (by exact hgl) (formed_kids hf (kidsR_mem hxm)) (by have := D.size_kid_lt (kidsR_mem hxm); have := inb_len b d k; omega)) (by simp [go_sem, hwr1, hx1, hi0, hy, hwr2, hx, hin] <;> rfl) (by simp [go_sem, hwr1, hx1, hi0, hy, hwr2, hx, hin]) rfl rfl ?_
                        refine al_run 1 (sh := []) tyOk (by simp [go_sem, hwr1, hx1, hi0, hy, hwr2, hx, hin] <;> rfl) ?_
                        refine al_nil ?_
                        refine awp_seq ?_
                        refine awp_region_run (sh := []) tyOk (by simp [go_sem, hwr1, hx1, hi0, hy, hwr2, hx, hin] <;> rfl) ?_
                        refine awp_cond (by first | rfl | (simp [go_sem, hwr1, hx1, hi0, hy, hwr2, hx, hin] <;> rfl)) (fun h12 => ?_) (fun h12 => ?_)
                        · refine awp_seq ?_
                          refine awp_region_run (sh := []) tyOk (by simp [go_sem, hwr1, hx1, hi0, hy, hwr2, hx, hin] <;> rfl) ?_
                          refine awp_ret ?_
                          refine inBlock_ret ?_
                          refine then_ret ?_
                          refine then_ret ?_
                          refine inBlock_ret ?_
                          refine then_ret ?_
                          refine ends_ret (by simp [go_sem] <;> rfl) (by simp [go_sem]) ?_
                          have hs : body1 ps b d = cexpr ps (inb b d k) x := by rw [hn, hst]; simp only [Bool.not_true, hwr1, hx1, hi0, hy, hwr2, hx, hin, h0, h1, h2, h3, h4, hky, h5, h6, h7, h8, h9, h10, hin, h12, Bool.true_or, Bool.or_true, Bool.false_or, Bool.or_false, Bool.true_and, Bool.and_true, Bool.false_and, Bool.and_false, Bool.not_true, Bool.not_false, Bool.false_eq_true, if_true, if_false]
                          exact ⟨by simp [go_sem, hs, hwr1, hx1, hi0, hy, hwr2, hx, hin, h0, h1, h2, h3, h4, hky, h5, h6, h7, h8, h9, h10, hin, h12], by simp [go_sem]⟩
                        · refine awp_skip ?_
                          refine awp_region_run (sh := []) tyOk (by simp [go_sem, hwr1, hx1, hi0, hy, hwr2, hx, hin] <;> rfl) ?_
                          exact next_intro (k + 1) σ.objs.length σ.toks.length 1 (⟨hlt, by rw [hn, hst]; simp only [h0, h1, h2, h3, h4, hky, h5, h6, h7, h8, h9, h10, hin, h12, Bool.true_or, Bool.or_true, Bool.false_or, Bool.or_false, Bool.true_and, Bool.and_true, Bool.false_and, Bool.and_false, Bool.not_true, Bool.not_false, Bool.false_eq_true, if_true, if_false]⟩) (by omega) ⟨by simp [go_sem, hwr1, hx1, hi0, hy, hwr2, hx, hin, hw], rfl, by simp, by simp, by simp [go_sem, hwr1, hx1, hi0, hy, hwr2, hx, hin, hw], fun ob h => .inl (by simpa [go_sem, hwr1, hx1, hi0, hy, hwr2, hx, hin, hw] using h), by simp [go_sem]⟩
                    · have hin : inb b d k = b := inb_no h9
                      refine al_skip 2 76 true (by simp [go_sem]) (by simp [go_sem]) rfl rfl ?_
                      refine al_run 1 (sh := []) tyOk (by simp [go_sem, hwr1, hx1, hi0, hy, hwr2, hx, hin] <;> rfl) ?_
                      refine al_nil ?_
                      refine awp_cond (b := false) (by simp [go_sem, hwr1, hx1, hi0, hy, hwr2, hx, hin, h0, h1, h2, h3, h4, hky, h5, h6, h7, h8, h9, hin]) (fun h => ?_) (fun h => ?_)
                      · cases h
                      refine awp_skip ?_
                      refine awp_seq ?_
                      refine awp_reg ?_
                      refine al_run 6 (sh := []) tyOk (by simp [go_sem, hwr1, hx1, hi0, hy, hwr2, hx, hin] <;> rfl) ?_
                      refine al_fn rfl rfl rfl (by simp [go_sem, hwr1, hx1, hi0, hy, hwr2, hx, hin] <;> rfl) call44 (ih x (kidsR_mem hxm) (inb b d k) _ (by exact hgl) (formed_kids hf (kidsR_mem hxm)) (by have := D.size_kid_lt (kidsR_mem hxm); have := inb_len b d k; omega)) (by simp [go_sem, hwr1, hx1, hi0, hy, hwr2, hx, hin] <;> rfl) (by simp [go_sem, hwr1, hx1, hi0, hy, hwr2, hx, hin]) rfl rfl ?_
                      refine al_run 1 (sh := []) tyOk (by simp [go_sem, hwr1, hx1, hi0, hy, hwr2, hx, hin] <;> rfl) ?_
                      refine al_nil ?_
                      refine awp_seq ?_
                      refine awp_region_run (sh := []) tyOk (by simp [go_sem, hwr1, hx1, hi0, hy, hwr2, hx, hin] <;> rfl) ?_
                      refine awp_cond (by first | rfl | (simp [go_sem, hwr1, hx1, hi0, hy, hwr2, hx, hin] <;> rfl)) (fun h13 => ?_) (fun h13 => ?_)
                      · refine awp_seq ?_
                        refine awp_region_run (sh := []) tyOk (by simp [go_sem, hwr1, hx1, hi0, hy, hwr2, hx, hin] <;> rfl) ?_
                        refine awp_ret ?_
                        refine inBlock_ret ?_
                        refine then_ret ?_
                        refine then_ret ?_
                        refine inBlock_ret ?_
                        refine then_ret ?_
                        refine ends_ret (by simp [go_sem] <;> rfl) (by simp [go_sem]) ?_
                        have hs : body1 ps b d = cexpr ps (inb b d k) x := by rw [hn, hst]; simp only [Bool.not_true, hwr1, hx1, hi0, hy, hwr2, hx, hin, h0, h1, h2, h3, h4, hky, h5, h6, h7, h8, h9, hin, h13, Bool.true_or, Bool.or_true, Bool.false_or, Bool.or_false, Bool.true_and, Bool.and_true, Bool.false_and, Bool.and_false, Bool.not_true, Bool.not_false, Bool.false_eq_true, if_true, if_false]
                        exact ⟨by simp [go_sem, hs, hwr1, hx1, hi0, hy, hwr2, hx, hin, h0, h1, h2, h3, h4, hky, h5, h6, h7, h8, h9, hin, h13], by simp [go_sem]⟩
                      · refine awp_skip ?_
                        refine awp_region_run (sh := []) tyOk (by simp [go_sem, hwr1, hx1, hi0, hy, hwr2, hx, hin] <;> rfl) ?_
                        exact next_intro (k + 1) σ.objs.length σ.toks.length 1 (⟨hlt, by rw [hn, hst]; simp only [h0, h1, h2, h3, h4, hky, h5, h6, h7, h8, h9, hin, h13, Bool.true_or, Bool.or_true, Bool.false_or, Bool.or_false, Bool.true_and, Bool.and_true, Bool.false_and, Bool.and_false, Bool.not_true, Bool.not_false, Bool.false_eq_true, if_true, if_false]⟩) (by omega) ⟨by simp [go_sem, hwr1, hx1, hi0, hy, hwr2, hx, hin, hw], rfl, by simp, by simp, by simp [go_sem, hwr1, hx1, hi0, hy, hwr2, hx, hin, hw], fun ob h => .inl (by simpa [go_sem, hwr1, hx1, hi0, hy, hwr2, hx, hin, hw] using h), by simp [go_sem]⟩
                  · have hke : k = (kidsR d).length := by simp at h8; omega
                    subst hke
                    refine awp_exit ?_
                    refine then_exit ?_
                    refine then_exit ?_
                    refine inBlock_hit ?_
                    refine awp_seq ?_
                    refine awp_region_run (sh := []) tyOk (by simp [go_sem, hwr1, hx1, hi0, hy, hwr2] <;> rfl) ?_
                    refine awp_ret ?_
                    refine ends_ret (by simp [go_sem] <;> rfl) (by simp [go_sem]) ?_
                    have hs : body1 ps b d = 0 := by rw [hn, List.drop_length]; rfl
                    exact ⟨by simp [go_sem, hs], by simp [go_sem]⟩
              · refine al_skip 6 57 true (by simp [go_sem]) (by simp [go_sem]) rfl rfl ?_
                refine al_run 1 (sh := []) tyOk (by simp [go_sem, hwr1, hx1, hi0, hy, hwr2] <;> rfl) ?_
                refine al_nil ?_
                refine awp_cond (b := false) (by simp [go_sem, hwr1, hx1, hi0, hy, hwr2, h0, h1, h2, h3, h4, hky, h5, h6]) (fun h => ?_) (fun h => ?_)
                · cases h
                refine awp_skip ?_
                refine awp_seq ?_
                have hgo : body1 ps b d = goB ps b d 0 (kidsR d) := by unfold body1; simp only [eCall, hwr1, hx1, hi0, hy, hwr2, h0, h1, h2, h3, h4, hky, h5, h6, Bool.true_or, Bool.or_true, Bool.false_or, Bool.or_false, Bool.true_and, Bool.and_true, Bool.false_and, Bool.and_false, Bool.not_true, Bool.not_false, Bool.false_eq_true, if_true, if_false]
                refine awp_reg ?_
                refine al_run 1 (sh := []) tyOk (by simp [go_sem, hwr1, hx1, hi0, hy, hwr2] <;> rfl) ?_
                refine al_fn rfl rfl rfl (by simp [go_sem, hwr1, hx1, hi0, hy, hwr2] <;> rfl) call88 ((c_Kids d (form_two hfm)) _ (by exact hgl)) (by simp [go_sem, hwr1, hx1, hi0, hy, hwr2] <;> rfl) (by simp [go_sem, hwr1, hx1, hi0, hy, hwr2]) rfl rfl ?_
                refine al_run 1 (sh := []) tyOk (by simp [go_sem, hwr1, hx1, hi0, hy, hwr2] <;> rfl) ?_
                refine al_nil ?_
                refine awp_seq ?_
                refine awp_seq ?_
                refine awp_region_run (sh := []) tyOk (by simp [go_sem, hwr1, hx1, hi0, hy, hwr2] <;> rfl) ?_
                refine awp_block ?_
                refine awp_loop_headK σ.objs.length σ.toks.length 1 [0, 2, 4, 6, 7, 11] (fun k : Nat => [(12, .pv (.int .i64 ↑k))]) (fun k => σ) (fun k => k ≤ (kidsR d).length ∧ body1 ps b d = goB ps b d k ((kidsR d).drop k)) (fun k => (kidsR d).length - k) 0 (⟨Nat.zero_le _, by rw [hgo]; rfl⟩) ⟨by simp [go_sem, hwr1, hx1, hi0, hy, hwr2], rfl, by simp, by simp, by simp [go_sem, hwr1, hx1, hi0, hy, hwr2], fun ob h => .inl (by simpa [go_sem, hwr1, hx1, hi0, hy, hwr2] using h), by simp [go_sem]⟩ ?_
                rintro k ⟨hk, hn⟩
                refine awp_seq ?_
                refine awp_seq ?_
                refine awp_region_run (sh := []) tyOk (by simp [go_sem, hwr1, hx1, hi0, hy, hwr2] <;> rfl) ?_
                refine awp_cond (by first | rfl | (simp [go_sem, hwr1, hx1, hi0, hy, hwr2] <;> rfl)) (fun h14 => ?_) (fun h14 => ?_)
                · have hlt : k < (kidsR d).length := by simp at h14; omega
                  have hw : IntKind.i64.wrap (↑k + 1) = (k : Int) + 1 := wrap_succ (by omega)
                  obtain ⟨x, hx, hxm⟩ := get_lt hlt
                  have hst := goB_step (ps := ps) (b := b) hx
                  refine awp_skip ?_
                  refine awp_seq ?_
                  refine awp_block ?_
                  refine awp_seq ?_
                  refine awp_region_run (sh := []) tyOk (by simp [go_sem, hwr1, hx1, hi0, hy, hwr2, hx] <;> rfl) ?_
                  refine awp_seq ?_
                  refine awp_seq ?_
                  refine awp_reg ?_
                  refine al_run 3 (sh := []) tyOk (by simp [go_sem, hwr1, hx1, hi0, hy, hwr2, hx] <;> rfl) ?_
                  refine al_splitT 76 (by first | rfl | (simp [go_sem, hwr1, hx1, hi0, hy, hwr2, hx] <;> rfl)) (fun h15 => ?_) (fun h15 => ?_)
                  · have hA := h15
                    refine al_runG (sh := []) 2 76 true true tyOk (by simp [go_sem]) rfl (by simp [go_sem]) rfl rfl (by simp [go_sem, hwr1, hx1, hi0, hy, hwr2, hx] <;> rfl) ?_
                    refine al_run 1 (sh := []) tyOk (by simp [go_sem, hwr1, hx1, hi0, hy, hwr2, hx] <;> rfl) ?_
                    refine al_nil ?_
                    refine awp_cond (by first | rfl | (simp [go_sem, hwr1, hx1, hi0, hy, hwr2, hx] <;> rfl)) (fun h16 => ?_) (fun h16 => ?_)
                    · have h2m := form_two hfm (.inl (of_decide_eq_true hA))
                      have hy1 := get_d1 h2m
                      have hin : inb b d k = b ++ [(d1 d.kids).text] := inb_yes hA h16
                      have hbb : (b.length + 1) * 16 ≤ 140737488355328 := by omega
                      have hb16 : b.length * 16 ≤ 140737488355328 := by omega
                      refine awp_regDP tyOk tySz 9 (by kernel_rfl) (by decide) ?_
                      refine ul_run 9 (by simp [go_sem, hwr1, hx1, hi0, hy, hwr2, hx, hy1, hin, hbb, hb16, allSz_str] <;> rfl) ?_
                      refine ul_nil ?_
                      refine al_run 2 (sh := []) tyOk (by simp [go_sem, hwr1, hx1, hi0, hy, hwr2, hx, hy1, hin, hbb, hb16, allSz_str] <;> rfl) ?_
                      refine al_nil ?_
                      refine awp_seq ?_
                      refine awp_reg ?_
                      refine al_run 6 (sh := []) tyOk (by simp [go_sem, hwr1, hx1, hi0, hy, hwr2, hx, hy1, hin, hbb, hb16, allSz_str] <;> rfl) ?_
                      refine al_fn rfl rfl rfl (by simp [go_sem, hwr1, hx1, hi0, hy, hwr2, hx, hy1, hin, hbb, hb16, allSz_str] <;> rfl) call44 (ih x (kidsR_mem hxm) (inb b d k) _ (by exact hgl) (formed_kids hf (kidsR_mem hxm)) (by have := D.size_kid_lt (kidsR_mem hxm); have := inb_len b d k; omega)) (by simp [go_sem, hwr1, hx1, hi0, hy, hwr2, hx, hy1, hin, hbb, hb16, allSz_str] <;> rfl) (by simp [go_sem, hwr1, hx1, hi0, hy, hwr2, hx, hy1, hin, hbb, hb16, allSz_str]) rfl rfl ?_
                      refine al_run 1 (sh := []) tyOk (by simp [go_sem, hwr1, hx1, hi0, hy, hwr2, hx, hy1, hin, hbb, hb16, allSz_str] <;> rfl) ?_
                      refine al_nil ?_
                      refine awp_seq ?_
                      refine awp_region_run (sh := []) tyOk (by simp [go_sem, hwr1, hx1, hi0, hy, hwr2, hx, hy1, hin, hbb, hb16, allSz_str] <;> rfl) ?_
                      refine awp_cond (by first | rfl | (simp [go_sem, hwr1, hx1, hi0, hy, hwr2, hx, hy1, hin, hbb, hb16, allSz_str] <;> rfl)) (fun h17 => ?_) (fun h17 => ?_)
                      · refine awp_seq ?_
                        refine awp_region_run (sh := []) tyOk (by simp [go_sem, hwr1, hx1, hi0, hy, hwr2, hx, hy1, hin, hbb, hb16, allSz_str] <;> rfl) ?_
                        refine awp_ret ?_
                        refine inBlock_ret ?_
                        refine then_ret ?_
                        refine then_ret ?_
                        refine inBlock_ret ?_
                        refine then_ret ?_
                        refine ends_ret (by simp [go_sem] <;> rfl) (by simp [go_sem]) ?_
                        have hs : body1 ps b d = cexpr ps (inb b d k) x := by rw [hn, hst]; simp only [Bool.not_true, hwr1, hx1, hi0, hy, hwr2, hx, hy1, hin, hbb, hb16, allSz_str, h0, h1, h2, h3, h4, hky, h5, h6, h14, h15, h16, hin, h17, Bool.true_or, Bool.or_true, Bool.false_or, Bool.or_false, Bool.true_and, Bool.and_true, Bool.false_and, Bool.and_false, Bool.not_true, Bool.not_false, Bool.false_eq_true, if_true, if_false]
                        exact ⟨by simp [go_sem, hs, hwr1, hx1, hi0, hy, hwr2, hx, hy1, hin, hbb, hb16, allSz_str, h0, h1, h2, h3, h4, hky, h5, h6, h14, h15, h16, hin, h17], by simp [go_sem]⟩
                      · refine awp_skip ?_
                        refine awp_region_run (sh := []) tyOk (by simp [go_sem, hwr1, hx1, hi0, hy, hwr2, hx, hy1, hin, hbb, hb16, allSz_str] <;> rfl) ?_
                        exact next_intro (k + 1) σ.objs.length σ.toks.length 1 (⟨hlt, by rw [hn, hst]; simp only [h0, h1, h2, h3, h4, hky, h5, h6, h14, h15, h16, hin, h17, Bool.true_or, Bool.or_true, Bool.false_or, Bool.or_false, Bool.true_and, Bool.and_true, Bool.false_and, Bool.and_false, Bool.not_true, Bool.not_false, Bool.false_eq_true, if_true, if_false]⟩) (by omega) ⟨by simp [go_sem, hwr1, hx1, hi0, hy, hwr2, hx, hy1, hin, hbb, hb16, allSz_str, hw], rfl, by simp, by simp, by simp [go_sem, hwr1, hx1, hi0, hy, hwr2, hx, hy1, hin, hbb, hb16, allSz_str, hw], fun ob h => .inl (by simpa [go_sem, hwr1, hx1, hi0, hy, hwr2, hx, hy1, hin, hbb, hb16, allSz_str, hw] using h), by simp [go_sem]⟩
                    · have hin : inb b d k = b := inb_other h16
                      refine awp_skip ?_
                      refine awp_seq ?_
                      refine awp_reg ?_
                      refine al_run 6 (sh := []) tyOk (by simp [go_sem, hwr1, hx1, hi0, hy, hwr2, hx, hin] <;> rfl) ?_
                      refine al_fn rfl rfl rfl (by simp [go_sem, hwr1, hx1, hi0, hy, hwr2, hx, hin] <;> rfl) call44 (ih x (kidsR_mem hxm) (inb b d k) _ (by exact hgl) (formed_kids hf (kidsR_mem hxm)) (by have := D.size_kid_lt (kidsR_mem hxm); have := inb_len b d k; omega)) (by simp [go_sem, hwr1, hx1, hi0, hy, hwr2, hx, hin] <;> rfl) (by simp [go_sem, hwr1, hx1, hi0, hy, hwr2, hx, hin]) rfl rfl ?_
                      refine al_run 1 (sh := []) tyOk (by simp [go_sem, hwr1, hx1, hi0, hy, hwr2, hx, hin] <;> rfl) ?_
                      refine al_nil ?_
                      refine awp_seq ?_
                      refine awp_region_run (sh := []) tyOk (by simp [go_sem, hwr1, hx1, hi0, hy, hwr2, hx, hin] <;> rfl) ?_
                      refine awp_cond (by first | rfl | (simp [go_sem, hwr1, hx1, hi0, hy, hwr2, hx, hin] <;> rfl)) (fun h18 => ?_) (fun h18 => ?_)
                      · refine awp_seq ?_
                        refine awp_region_run (sh := []) tyOk (by simp [go_sem, hwr1, hx1, hi0, hy, hwr2, hx, hin] <;> rfl) ?_
                        refine awp_ret ?_
                        refine inBlock_ret ?_
                        refine then_ret ?_
                        refine then_ret ?_
                        refine inBlock_ret ?_
                        refine then_ret ?_
                        refine ends_ret (by simp [go_sem] <;> rfl) (by simp [go_sem]) ?_
                        have hs : body1 ps b d = cexpr ps (inb b d k) x := by rw [hn, hst]; simp only [Bool.not_true, hwr1, hx1, hi0, hy, hwr2, hx, hin, h0, h1, h2, h3, h4, hky, h5, h6, h14, h15, h16, hin, h18, Bool.true_or, Bool.or_true, Bool.false_or, Bool.or_false, Bool.true_and, Bool.and_true, Bool.false_and, Bool.and_false, Bool.not_true, Bool.not_false, Bool.false_eq_true, if_true, if_false]
                        exact ⟨by simp [go_sem, hs, hwr1, hx1, hi0, hy, hwr2, hx, hin, h0, h1, h2, h3, h4, hky, h5, h6, h14, h15, h16, hin, h18], by simp [go_sem]⟩
                      · refine awp_skip ?_
                        refine awp_region_run (sh := []) tyOk (by simp [go_sem, hwr1, hx1, hi0, hy, hwr2, hx, hin] <;> rfl) ?_
                        exact next_intro (k + 1) σ.objs.length σ.toks.length 1 (⟨hlt, by rw [hn, hst]; simp only [h0, h1, h2, h3, h4, hky, h5, h6, h14, h15, h16, hin, h18, Bool.true_or, Bool.or_true, Bool.false_or, Bool.or_false, Bool.true_and, Bool.and_true, Bool.false_and, Bool.and_false, Bool.not_true, Bool.not_false, Bool.false_eq_true, if_true, if_false]⟩) (by omega) ⟨by simp [go_sem, hwr1, hx1, hi0, hy, hwr2, hx, hin, hw], rfl, by simp, by simp, by simp [go_sem, hwr1, hx1, hi0, hy, hwr2, hx, hin, hw], fun ob h => .inl (by simpa [go_sem, hwr1, hx1, hi0, hy, hwr2, hx, hin, hw] using h), by simp [go_sem]⟩
                  · have hin : inb b d k = b := inb_no h15
                    refine al_skip 2 76 true (by simp [go_sem]) (by simp [go_sem]) rfl rfl ?_
                    refine al_run 1 (sh := []) tyOk (by simp [go_sem, hwr1, hx1, hi0, hy, hwr2, hx, hin] <;> rfl) ?_
                    refine al_nil ?_
                    refine awp_cond (b := false) (by simp [go_sem, hwr1, hx1, hi0, hy, hwr2, hx, hin, h0, h1, h2, h3, h4, hky, h5, h6, h14, h15, hin]) (fun h => ?_) (fun h => ?_)
                    · cases h
                    refine awp_skip ?_
                    refine awp_seq ?_
                    refine awp_reg ?_
                    refine al_run 6 (sh := []) tyOk (by simp [go_sem, hwr1, hx1, hi0, hy, hwr2, hx, hin] <;> rfl) ?_
                    refine al_fn rfl rfl rfl (by simp [go_sem, hwr1, hx1, hi0, hy, hwr2, hx, hin] <;> rfl) call44 (ih x (kidsR_mem hxm) (inb b d k) _ (by exact hgl) (formed_kids hf (kidsR_mem hxm)) (by have := D.size_kid_lt (kidsR_mem hxm); have := inb_len b d k; omega)) (by simp [go_sem, hwr1, hx1, hi0, hy, hwr2, hx, hin] <;> rfl) (by simp [go_sem, hwr1, hx1, hi0, hy, hwr2, hx, hin]) rfl rfl ?_
                    refine al_run 1 (sh := []) tyOk (by simp [go_sem, hwr1, hx1, hi0, hy, hwr2, hx, hin] <;> rfl) ?_
                    refine al_nil ?_
                    refine awp_seq ?_
                    refine awp_region_run (sh := []) tyOk (by simp [go_sem, hwr1, hx1, hi0, hy, hwr2, hx, hin] <;> rfl) ?_
                    refine awp_cond (by first | rfl | (simp [go_sem, hwr1, hx1, hi0, hy, hwr2, hx, hin] <;> rfl)) (fun h19 => ?_) (fun h19 => ?_)
                    · refine awp_seq ?_
                      refine awp_region_run (sh := []) tyOk (by simp [go_sem, hwr1, hx1, hi0, hy, hwr2, hx, hin] <;> rfl) ?_
                      refine awp_ret ?_
                      refine inBlock_ret ?_
                      refine then_ret ?_
                      refine then_ret ?_
                      refine inBlock_ret ?_
                      refine then_ret ?_
                      refine ends_ret (by simp [go_sem] <;> rfl) (by simp [go_sem]) ?_
                      have hs : body1 ps b d = cexpr ps (inb b d k) x := by rw [hn, hst]; simp only [Bool.not_true, hwr1, hx1, hi0, hy, hwr2, hx, hin, h0, h1, h2, h3, h4, hky, h5, h6, h14, h15, hin, h19, Bool.true_or, Bool.or_true, Bool.false_or, Bool.or_false, Bool.true_and, Bool.and_true, Bool.false_and, Bool.and_false, Bool.not_true, Bool.not_false, Bool.false_eq_true, if_true, if_false]
                      exact ⟨by simp [go_sem, hs, hwr1, hx1, hi0, hy, hwr2, hx, hin, h0, h1, h2, h3, h4, hky, h5, h6, h14, h15, hin, h19], by simp [go_sem]⟩
                    · refine awp_skip ?_
                      refine awp_region_run (sh := []) tyOk (by simp [go_sem, hwr1, hx1, hi0, hy, hwr2, hx, hin] <;> rfl) ?_
                      exact next_intro (k + 1) σ.objs.length σ.toks.length 1 (⟨hlt, by rw [hn, hst]; simp only [h0, h1, h2, h3, h4, hky, h5, h6, h14, h15, hin, h19, Bool.true_or, Bool.or_true, Bool.false_or, Bool.or_false, Bool.true_and, Bool.and_true, Bool.false_and, Bool.and_false, Bool.not_true, Bool.not_false, Bool.false_eq_true, if_true, if_false]⟩) (by omega) ⟨by simp [go_sem, hwr1, hx1, hi0, hy, hwr2, hx, hin, hw], rfl, by simp, by simp, by simp [go_sem, hwr1, hx1, hi0, hy, hwr2, hx, hin, hw], fun ob h => .inl (by simpa [go_sem, hwr1, hx1, hi0, hy, hwr2, hx, hin, hw] using h), by simp [go_sem]⟩
                · have hke : k = (kidsR d).length := by simp at h14; omega
                  subst hke
                  refine awp_exit ?_
                  refine then_exit ?_
                  refine then_exit ?_
                  refine inBlock_hit ?_
                  refine awp_seq ?_
                  refine awp_region_run (sh := []) tyOk (by simp [go_sem, hwr1, hx1, hi0, hy, hwr2] <;> rfl) ?_
                  refine awp_ret ?_
                  refine ends_ret (by simp [go_sem] <;> rfl) (by simp [go_sem]) ?_
                  have hs : body1 ps b d = 0 := by rw [hn, List.drop_length]; rfl
                  exact ⟨by simp [go_sem, hs], by simp [go_sem]⟩
        · refine awp_skip ?_
          refine awp_seq ?_
          refine awp_seq ?_
          refine awp_reg ?_
          refine al_run 1 (sh := []) tyOk (by simp [go_sem, hwr1] <;> rfl) ?_
          refine al_fn rfl rfl rfl (by simp [go_sem, hwr1] <;> rfl) call87 ((c_Arity07 (word d)) _ (by exact hgl)) (by simp [go_sem, hwr1] <;> rfl) (by simp [go_sem, hwr1]) rfl rfl ?_
          refine al_run 5 (sh := []) tyOk (by simp [go_sem, hwr1] <;> rfl) ?_
          refine al_nil ?_
          refine awp_seq ?_
          refine awp_reg ?_
          refine al_run 2 (sh := []) tyOk (by simp [go_sem, hwr1] <;> rfl) ?_
          refine al_splitT 57 (by first | rfl | (simp [go_sem, hwr1] <;> rfl)) (fun h20 => ?_) (fun h20 => ?_)
          · refine al_runG (sh := []) 6 57 true true tyOk (by simp [go_sem]) rfl (by simp [go_sem]) rfl rfl (by simp [go_sem, hwr1] <;> rfl) ?_
            refine al_run 1 (sh := []) tyOk (by simp [go_sem, hwr1] <;> rfl) ?_
            refine al_nil ?_
            refine awp_cond (by first | rfl | (simp [go_sem, hwr1] <;> rfl)) (fun h21 => ?_) (fun h21 => ?_)
            · refine awp_seq ?_
              refine awp_region_run (sh := []) tyOk (by simp [go_sem, hwr1] <;> rfl) ?_
              refine awp_ret ?_
              refine then_ret ?_
              refine ends_ret (by simp [go_sem] <;> rfl) (by simp [go_sem]) ?_
              have hs : body1 ps b d = 11 := by unfold body1; simp only [eCall, hwr1, h0, h1, h2, h3, h20, h21, Bool.true_or, Bool.or_true, Bool.false_or, Bool.or_false, Bool.true_and, Bool.and_true, Bool.false_and, Bool.and_false, Bool.not_true, Bool.not_false, Bool.false_eq_true, if_true, if_false]
              exact ⟨by simp [go_sem, hs], by simp [go_sem]⟩
            · refine awp_skip ?_
              refine awp_seq ?_
              have hgo : body1 ps b d = goB ps b d 0 (kidsR d) := by unfold body1; simp only [eCall, hwr1, h0, h1, h2, h3, h20, h21, Bool.true_or, Bool.or_true, Bool.false_or, Bool.or_false, Bool.true_and, Bool.and_true, Bool.false_and, Bool.and_false, Bool.not_true, Bool.not_false, Bool.false_eq_true, if_true, if_false]
              refine awp_reg ?_
              refine al_run 1 (sh := []) tyOk (by simp [go_sem, hwr1] <;> rfl) ?_
              refine al_fn rfl rfl rfl (by simp [go_sem, hwr1] <;> rfl) call88 ((c_Kids d (form_two hfm)) _ (by exact hgl)) (by simp [go_sem, hwr1] <;> rfl) (by simp [go_sem, hwr1]) rfl rfl ?_
              refine al_run 1 (sh := []) tyOk (by simp [go_sem, hwr1] <;> rfl) ?_
              refine al_nil ?_
              refine awp_seq ?_
              refine awp_seq ?_
              refine awp_region_run (sh := []) tyOk (by simp [go_sem, hwr1] <;> rfl) ?_
              refine awp_block ?_
              refine awp_loop_headK σ.objs.length σ.toks.length 1 [0, 2, 4, 6, 7, 11] (fun k : Nat => [(12, .pv (.int .i64 ↑k))]) (fun k => σ) (fun k => k ≤ (kidsR d).length ∧ body1 ps b d = goB ps b d k ((kidsR d).drop k)) (fun k => (kidsR d).length - k) 0 (⟨Nat.zero_le _, by rw [hgo]; rfl⟩) ⟨by simp [go_sem, hwr1], rfl, by simp, by simp, by simp [go_sem, hwr1], fun ob h => .inl (by simpa [go_sem, hwr1] using h), by simp [go_sem]⟩ ?_
              rintro k ⟨hk, hn⟩
              refine awp_seq ?_
              refine awp_seq ?_
              refine awp_region_run (sh := []) tyOk (by simp [go_sem, hwr1] <;> rfl) ?_
              refine awp_cond (by first | rfl | (simp [go_sem, hwr1] <;> rfl)) (fun h22 => ?_) (fun h22 => ?_)
              · have hlt : k < (kidsR d).length := by simp at h22; omega
                have hw : IntKind.i64.wrap (↑k + 1) = (k : Int) + 1 := wrap_succ (by omega)
                obtain ⟨x, hx, hxm⟩ := get_lt hlt
                have hst := goB_step (ps := ps) (b := b) hx
                refine awp_skip ?_
                refine awp_seq ?_
                refine awp_block ?_
                refine awp_seq ?_
                refine awp_region_run (sh := []) tyOk (by simp [go_sem, hwr1, hx] <;> rfl) ?_
                refine awp_seq ?_
                refine awp_seq ?_
                refine awp_reg ?_
                refine al_run 3 (sh := []) tyOk (by simp [go_sem, hwr1, hx] <;> rfl) ?_
                refine al_splitT 76 (by first | rfl | (simp [go_sem, hwr1, hx] <;> rfl)) (fun h23 => ?_) (fun h23 => ?_)
                · have hA := h23
                  refine al_runG (sh := []) 2 76 true true tyOk (by simp [go_sem]) rfl (by simp [go_sem]) rfl rfl (by simp [go_sem, hwr1, hx] <;> rfl) ?_
                  refine al_run 1 (sh := []) tyOk (by simp [go_sem, hwr1, hx] <;> rfl) ?_
                  refine al_nil ?_
                  refine awp_cond (by first | rfl | (simp [go_sem, hwr1, hx] <;> rfl)) (fun h24 => ?_) (fun h24 => ?_)
                  · have h2m := form_two hfm (.inl (of_decide_eq_true hA))
                    have hy1 := get_d1 h2m
                    have hin : inb b d k = b ++ [(d1 d.kids).text] := inb_yes hA h24
                    have hbb : (b.length + 1) * 16 ≤ 140737488355328 := by omega
                    have hb16 : b.length * 16 ≤ 140737488355328 := by omega
                    refine awp_regDP tyOk tySz 9 (by kernel_rfl) (by decide) ?_
                    refine ul_run 9 (by simp [go_sem, hwr1, hx, hy1, hin, hbb, hb16, allSz_str] <;> rfl) ?_
                    refine ul_nil ?_
                    refine al_run 2 (sh := []) tyOk (by simp [go_sem, hwr1, hx, hy1, hin, hbb, hb16, allSz_str] <;> rfl) ?_
                    refine al_nil ?_
                    refine awp_seq ?_
                    refine awp_reg ?_
                    refine al_run 6 (sh := []) tyOk (by simp [go_sem, hwr1, hx, hy1, hin, hbb, hb16, allSz_str] <;> rfl) ?_
                    refine al_fn rfl rfl rfl (by simp [go_sem, hwr1, hx, hy1, hin, hbb, hb16, allSz_str] <;> rfl) call44 (ih x (kidsR_mem hxm) (inb b d k) _ (by exact hgl) (formed_kids hf (kidsR_mem hxm)) (by have := D.size_kid_lt (kidsR_mem hxm); have := inb_len b d k; omega)) (by simp [go_sem, hwr1, hx, hy1, hin, hbb, hb16, allSz_str] <;> rfl) (by simp [go_sem, hwr1, hx, hy1, hin, hbb, hb16, allSz_str]) rfl rfl ?_
                    refine al_run 1 (sh := []) tyOk (by simp [go_sem, hwr1, hx, hy1, hin, hbb, hb16, allSz_str] <;> rfl) ?_
                    refine al_nil ?_
                    refine awp_seq ?_
                    refine awp_region_run (sh := []) tyOk (by simp [go_sem, hwr1, hx, hy1, hin, hbb, hb16, allSz_str] <;> rfl) ?_
                    refine awp_cond (by first | rfl | (simp [go_sem, hwr1, hx, hy1, hin, hbb, hb16, allSz_str] <;> rfl)) (fun h25 => ?_) (fun h25 => ?_)
                    · refine awp_seq ?_
                      refine awp_region_run (sh := []) tyOk (by simp [go_sem, hwr1, hx, hy1, hin, hbb, hb16, allSz_str] <;> rfl) ?_
                      refine awp_ret ?_
                      refine inBlock_ret ?_
                      refine then_ret ?_
                      refine then_ret ?_
                      refine inBlock_ret ?_
                      refine then_ret ?_
                      refine ends_ret (by simp [go_sem] <;> rfl) (by simp [go_sem]) ?_
                      have hs : body1 ps b d = cexpr ps (inb b d k) x := by rw [hn, hst]; simp only [Bool.not_true, hwr1, hx, hy1, hin, hbb, hb16, allSz_str, h0, h1, h2, h3, h20, h21, h22, h23, h24, hin, h25, Bool.true_or, Bool.or_true, Bool.false_or, Bool.or_false, Bool.true_and, Bool.and_true, Bool.false_and, Bool.and_false, Bool.not_true, Bool.not_false, Bool.false_eq_true, if_true, if_false]
                      exact ⟨by simp [go_sem, hs, hwr1, hx, hy1, hin, hbb, hb16, allSz_str, h0, h1, h2, h3, h20, h21, h22, h23, h24, hin, h25], by simp [go_sem]⟩
                    · refine awp_skip ?_
                      refine awp_region_run (sh := []) tyOk (by simp [go_sem, hwr1, hx, hy1, hin, hbb, hb16, allSz_str] <;> rfl) ?_
                      exact next_intro (k + 1) σ.objs.length σ.toks.length 1 (⟨hlt, by rw [hn, hst]; simp only [h0, h1, h2, h3, h20, h21, h22, h23, h24, hin, h25, Bool.true_or, Bool.or_true, Bool.false_or, Bool.or_false, Bool.true_and, Bool.and_true, Bool.false_and, Bool.and_false, Bool.not_true, Bool.not_false, Bool.false_eq_true, if_true, if_false]⟩) (by omega) ⟨by simp [go_sem, hwr1, hx, hy1, hin, hbb, hb16, allSz_str, hw], rfl, by simp, by simp, by simp [go_sem, hwr1, hx, hy1, hin, hbb, hb16, allSz_str, hw], fun ob h => .inl (by simpa [go_sem, hwr1, hx, hy1, hin, hbb, hb16, allSz_str, hw] using h), by simp [go_sem]⟩
                  · have hin : inb b d k = b := inb_other h24
                    refine awp_skip ?_
                    refine awp_seq ?_
                    refine awp_reg ?_
                    refine al_run 6 (sh := []) tyOk (by simp [go_sem, hwr1, hx, hin] <;> rfl) ?_
                    refine al_fn rfl rfl rfl (by simp [go_sem, hwr1, hx, hin] <;> rfl) call44 (ih x (kidsR_mem hxm) (inb b d k) _ (by exact hgl) (formed_kids hf (kidsR_mem hxm)) (by have := D.size_kid_lt (kidsR_mem hxm); have := inb_len b d k; omega)) (by simp [go_sem, hwr1, hx, hin] <;> rfl) (by simp [go_sem, hwr1, hx, hin]) rfl rfl ?_
                    refine al_run 1 (sh := []) tyOk (by simp [go_sem, hwr1, hx, hin] <;> rfl) ?_
                    refine al_nil ?_
                    refine awp_seq ?_
                    refine awp_region_run (sh := []) tyOk (by simp [go_sem, hwr1, hx, hin] <;> rfl) ?_
                    refine awp_cond (by first | rfl | (simp [go_sem, hwr1, hx, hin] <;> rfl)) (fun h26 => ?_) (fun h26 => ?_)
                    · refine awp_seq ?_
                      refine awp_region_run (sh := []) tyOk (by simp [go_sem, hwr1, hx, hin] <;> rfl) ?_
                      refine awp_ret ?_
                      refine inBlock_ret ?_
                      refine then_ret ?_
                      refine then_ret ?_
                      refine inBlock_ret ?_
                      refine then_ret ?_
                      refine ends_ret (by simp [go_sem] <;> rfl) (by simp [go_sem]) ?_
                      have hs : body1 ps b d = cexpr ps (inb b d k) x := by rw [hn, hst]; simp only [Bool.not_true, hwr1, hx, hin, h0, h1, h2, h3, h20, h21, h22, h23, h24, hin, h26, Bool.true_or, Bool.or_true, Bool.false_or, Bool.or_false, Bool.true_and, Bool.and_true, Bool.false_and, Bool.and_false, Bool.not_true, Bool.not_false, Bool.false_eq_true, if_true, if_false]
                      exact ⟨by simp [go_sem, hs, hwr1, hx, hin, h0, h1, h2, h3, h20, h21, h22, h23, h24, hin, h26], by simp [go_sem]⟩
                    · refine awp_skip ?_
                      refine awp_region_run (sh := []) tyOk (by simp [go_sem, hwr1, hx, hin] <;> rfl) ?_
                      exact next_intro (k + 1) σ.objs.length σ.toks.length 1 (⟨hlt, by rw [hn, hst]; simp only [h0, h1, h2, h3, h20, h21, h22, h23, h24, hin, h26, Bool.true_or, Bool.or_true, Bool.false_or, Bool.or_false, Bool.true_and, Bool.and_true, Bool.false_and, Bool.and_false, Bool.not_true, Bool.not_false, Bool.false_eq_true, if_true, if_false]⟩) (by omega) ⟨by simp [go_sem, hwr1, hx, hin, hw], rfl, by simp, by simp, by simp [go_sem, hwr1, hx, hin, hw], fun ob h => .inl (by simpa [go_sem, hwr1, hx, hin, hw] using h), by simp [go_sem]⟩
                · have hin : inb b d k = b := inb_no h23
                  refine al_skip 2 76 true (by simp [go_sem]) (by simp [go_sem]) rfl rfl ?_
                  refine al_run 1 (sh := []) tyOk (by simp [go_sem, hwr1, hx, hin] <;> rfl) ?_
                  refine al_nil ?_
                  refine awp_cond (b := false) (by simp [go_sem, hwr1, hx, hin, h0, h1, h2, h3, h20, h21, h22, h23, hin]) (fun h => ?_) (fun h => ?_)
                  · cases h
                  refine awp_skip ?_
                  refine awp_seq ?_
                  refine awp_reg ?_
                  refine al_run 6 (sh := []) tyOk (by simp [go_sem, hwr1, hx, hin] <;> rfl) ?_
                  refine al_fn rfl rfl rfl (by simp [go_sem, hwr1, hx, hin] <;> rfl) call44 (ih x (kidsR_mem hxm) (inb b d k) _ (by exact hgl) (formed_kids hf (kidsR_mem hxm)) (by have := D.size_kid_lt (kidsR_mem hxm); have := inb_len b d k; omega)) (by simp [go_sem, hwr1, hx, hin] <;> rfl) (by simp [go_sem, hwr1, hx, hin]) rfl rfl ?_
                  refine al_run 1 (sh := []) tyOk (by simp [go_sem, hwr1, hx, hin] <;> rfl) ?_
                  refine al_nil ?_
                  refine awp_seq ?_
                  refine awp_region_run (sh := []) tyOk (by simp [go_sem, hwr1, hx, hin] <;> rfl) ?_
                  refine awp_cond (by first | rfl | (simp [go_sem, hwr1, hx, hin] <;> rfl)) (fun h27 => ?_) (fun h27 => ?_)
                  · refine awp_seq ?_
                    refine awp_region_run (sh := []) tyOk (by simp [go_sem, hwr1, hx, hin] <;> rfl) ?_
                    refine awp_ret ?_
                    refine inBlock_ret ?_
                    refine then_ret ?_
                    refine then_ret ?_
                    refine inBlock_ret ?_
                    refine then_ret ?_
                    refine ends_ret (by simp [go_sem] <;> rfl) (by simp [go_sem]) ?_
                    have hs : body1 ps b d = cexpr ps (inb b d k) x := by rw [hn, hst]; simp only [Bool.not_true, hwr1, hx, hin, h0, h1, h2, h3, h20, h21, h22, h23, hin, h27, Bool.true_or, Bool.or_true, Bool.false_or, Bool.or_false, Bool.true_and, Bool.and_true, Bool.false_and, Bool.and_false, Bool.not_true, Bool.not_false, Bool.false_eq_true, if_true, if_false]
                    exact ⟨by simp [go_sem, hs, hwr1, hx, hin, h0, h1, h2, h3, h20, h21, h22, h23, hin, h27], by simp [go_sem]⟩
                  · refine awp_skip ?_
                    refine awp_region_run (sh := []) tyOk (by simp [go_sem, hwr1, hx, hin] <;> rfl) ?_
                    exact next_intro (k + 1) σ.objs.length σ.toks.length 1 (⟨hlt, by rw [hn, hst]; simp only [h0, h1, h2, h3, h20, h21, h22, h23, hin, h27, Bool.true_or, Bool.or_true, Bool.false_or, Bool.or_false, Bool.true_and, Bool.and_true, Bool.false_and, Bool.and_false, Bool.not_true, Bool.not_false, Bool.false_eq_true, if_true, if_false]⟩) (by omega) ⟨by simp [go_sem, hwr1, hx, hin, hw], rfl, by simp, by simp, by simp [go_sem, hwr1, hx, hin, hw], fun ob h => .inl (by simpa [go_sem, hwr1, hx, hin, hw] using h), by simp [go_sem]⟩
              · have hke : k = (kidsR d).length := by simp at h22; omega
                subst hke
                refine awp_exit ?_
                refine then_exit ?_
                refine then_exit ?_
                refine inBlock_hit ?_
                refine awp_seq ?_
                refine awp_region_run (sh := []) tyOk (by simp [go_sem, hwr1] <;> rfl) ?_
                refine awp_ret ?_
                refine ends_ret (by simp [go_sem] <;> rfl) (by simp [go_sem]) ?_
                have hs : body1 ps b d = 0 := by rw [hn, List.drop_length]; rfl
                exact ⟨by simp [go_sem, hs], by simp [go_sem]⟩
          · refine al_skip 6 57 true (by simp [go_sem]) (by simp [go_sem]) rfl rfl ?_
            refine al_run 1 (sh := []) tyOk (by simp [go_sem, hwr1] <;> rfl) ?_
            refine al_nil ?_
            refine awp_cond (b := false) (by simp [go_sem, hwr1, h0, h1, h2, h3, h20]) (fun h => ?_) (fun h => ?_)
            · cases h
            refine awp_skip ?_
            refine awp_seq ?_
            have hgo : body1 ps b d = goB ps b d 0 (kidsR d) := by unfold body1; simp only [eCall, hwr1, h0, h1, h2, h3, h20, Bool.true_or, Bool.or_true, Bool.false_or, Bool.or_false, Bool.true_and, Bool.and_true, Bool.false_and, Bool.and_false, Bool.not_true, Bool.not_false, Bool.false_eq_true, if_true, if_false]
            refine awp_reg ?_
            refine al_run 1 (sh := []) tyOk (by simp [go_sem, hwr1] <;> rfl) ?_
            refine al_fn rfl rfl rfl (by simp [go_sem, hwr1] <;> rfl) call88 ((c_Kids d (form_two hfm)) _ (by exact hgl)) (by simp [go_sem, hwr1] <;> rfl) (by simp [go_sem, hwr1]) rfl rfl ?_
            refine al_run 1 (sh := []) tyOk (by simp [go_sem, hwr1] <;> rfl) ?_
            refine al_nil ?_
            refine awp_seq ?_
            refine awp_seq ?_
            refine awp_region_run (sh := []) tyOk (by simp [go_sem, hwr1] <;> rfl) ?_
            refine awp_block ?_
            refine awp_loop_headK σ.objs.length σ.toks.length 1 [0, 2, 4, 6, 7, 11] (fun k : Nat => [(12, .pv (.int .i64 ↑k))]) (fun k => σ) (fun k => k ≤ (kidsR d).length ∧ body1 ps b d = goB ps b d k ((kidsR d).drop k)) (fun k => (kidsR d).length - k) 0 (⟨Nat.zero_le _, by rw [hgo]; rfl⟩) ⟨by simp [go_sem, hwr1], rfl, by simp, by simp, by simp [go_sem, hwr1], fun ob h => .inl (by simpa [go_sem, hwr1] using h), by simp [go_sem]⟩ ?_
            rintro k ⟨hk, hn⟩
            refine awp_seq ?_
            refine awp_seq ?_
            refine awp_region_run (sh := []) tyOk (by simp [go_sem, hwr1] <;> rfl) ?_
            refine awp_cond (by first | rfl | (simp [go_sem, hwr1] <;> rfl)) (fun h28 => ?_) (fun h28 => ?_)
            · have hlt : k < (kidsR d).length := by simp at h28; omega
              have hw : IntKind.i64.wrap (↑k + 1) = (k : Int) + 1 := wrap_succ (by omega)
              obtain ⟨x, hx, hxm⟩ := get_lt hlt
              have hst := goB_step (ps := ps) (b := b) hx
              refine awp_skip ?_
              refine awp_seq ?_
              refine awp_block ?_
              refine awp_seq ?_
              refine awp_region_run (sh := []) tyOk (by simp [go_sem, hwr1, hx] <;> rfl) ?_
              refine awp_seq ?_
              refine awp_seq ?_
              refine awp_reg ?_
              refine al_run 3 (sh := []) tyOk (by simp [go_sem, hwr1, hx] <;> rfl) ?_
              refine al_splitT 76 (by first | rfl | (simp [go_sem, hwr1, hx] <;> rfl)) (fun h29 => ?_) (fun h29 => ?_)
              · have hA := h29
                refine al_runG (sh := []) 2 76 true true tyOk (by simp [go_sem]) rfl (by simp [go_sem]) rfl rfl (by simp [go_sem, hwr1, hx] <;> rfl) ?_
                refine al_run 1 (sh := []) tyOk (by simp [go_sem, hwr1, hx] <;> rfl) ?_
                refine al_nil ?_
                refine awp_cond (by first | rfl | (simp [go_sem, hwr1, hx] <;> rfl)) (fun h30 => ?_) (fun h30 => ?_)
                · have h2m := form_two hfm (.inl (of_decide_eq_true hA))
                  have hy1 := get_d1 h2m
                  have hin : inb b d k = b ++ [(d1 d.kids).text] := inb_yes hA h30
                  have hbb : (b.length + 1) * 16 ≤ 140737488355328 := by omega
                  have hb16 : b.length * 16 ≤ 140737488355328 := by omega
                  refine awp_regDP tyOk tySz 9 (by kernel_rfl) (by decide) ?_
                  refine ul_run 9 (by simp [go_sem, hwr1, hx, hy1, hin, hbb, hb16, allSz_str] <;> rfl) ?_
                  refine ul_nil ?_
                  refine al_run 2 (sh := []) tyOk (by simp [go_sem, hwr1, hx, hy1, hin, hbb, hb16, allSz_str] <;> rfl) ?_
                  refine al_nil ?_
                  refine awp_seq ?_
                  refine awp_reg ?_
                  refine al_run 6 (sh := []) tyOk (by simp [go_sem, hwr1, hx, hy1, hin, hbb, hb16, allSz_str] <;> rfl) ?_
                  refine al_fn rfl rfl rfl (by simp [go_sem, hwr1, hx, hy1, hin, hbb, hb16, allSz_str] <;> rfl) call44 (ih x (kidsR_mem hxm) (inb b d k) _ (by exact hgl) (formed_kids hf (kidsR_mem hxm)) (by have := D.size_kid_lt (kidsR_mem hxm); have := inb_len b d k; omega)) (by simp [go_sem, hwr1, hx, hy1, hin, hbb, hb16, allSz_str] <;> rfl) (by simp [go_sem, hwr1, hx, hy1, hin, hbb, hb16, allSz_str]) rfl rfl ?_
                  refine al_run 1 (sh := []) tyOk (by simp [go_sem, hwr1, hx, hy1, hin, hbb, hb16, allSz_str] <;> rfl) ?_
                  refine al_nil ?_
                  refine awp_seq ?_
                  refine awp_region_run (sh := []) tyOk (by simp [go_sem, hwr1, hx, hy1, hin, hbb, hb16, allSz_str] <;> rfl) ?_
                  refine awp_cond (by first | rfl | (simp [go_sem, hwr1, hx, hy1, hin, hbb, hb16, allSz_str] <;> rfl)) (fun h31 => ?_) (fun h31 => ?_)
                  · refine awp_seq ?_
                    refine awp_region_run (sh := []) tyOk (by simp [go_sem, hwr1, hx, hy1, hin, hbb, hb16, allSz_str] <;> rfl) ?_
                    refine awp_ret ?_
                    refine inBlock_ret ?_
                    refine then_ret ?_
                    refine then_ret ?_
                    refine inBlock_ret ?_
                    refine then_ret ?_
                    refine ends_ret (by simp [go_sem] <;> rfl) (by simp [go_sem]) ?_
                    have hs : body1 ps b d = cexpr ps (inb b d k) x := by rw [hn, hst]; simp only [Bool.not_true, hwr1, hx, hy1, hin, hbb, hb16, allSz_str, h0, h1, h2, h3, h20, h28, h29, h30, hin, h31, Bool.true_or, Bool.or_true, Bool.false_or, Bool.or_false, Bool.true_and, Bool.and_true, Bool.false_and, Bool.and_false, Bool.not_true, Bool.not_false, Bool.false_eq_true, if_true, if_false]
                    exact ⟨by simp [go_sem, hs, hwr1, hx, hy1, hin, hbb, hb16, allSz_str, h0, h1, h2, h3, h20, h28, h29, h30, hin, h31], by simp [go_sem]⟩
                  · refine awp_skip ?_
                    refine awp_region_run (sh := []) tyOk (by simp [go_sem, hwr1, hx, hy1, hin, hbb, hb16, allSz_str] <;> rfl) ?_
                    exact next_intro (k + 1) σ.objs.length σ.toks.length 1 (⟨hlt, by rw [hn, hst]; simp only [h0, h1, h2, h3, h20, h28, h29, h30, hin, h31, Bool.true_or, Bool.or_true, Bool.false_or, Bool.or_false, Bool.true_and, Bool.and_true, Bool.false_and, Bool.and_false, Bool.not_true, Bool.not_false, Bool.false_eq_true, if_true, if_false]⟩) (by omega) ⟨by simp [go_sem, hwr1, hx, hy1, hin, hbb, hb16, allSz_str, hw], rfl, by simp, by simp, by simp [go_sem, hwr1, hx, hy1, hin, hbb, hb16, allSz_str, hw], fun ob h => .inl (by simpa [go_sem, hwr1, hx, hy1, hin, hbb, hb16, allSz_str, hw] using h), by simp [go_sem]⟩
                · have hin : inb b d k = b := inb_other h30
                  refine awp_skip ?_
                  refine awp_seq ?_
                  refine awp_reg ?_
                  refine al_run 6 (sh := []) tyOk (by simp [go_sem, hwr1, hx, hin] <;> rfl) ?_
                  refine al_fn rfl rfl rfl (by simp [go_sem, hwr1, hx, hin] <;> rfl) call44 (ih x (kidsR_mem hxm) (inb b d k) _ (by exact hgl) (formed_kids hf (kidsR_mem hxm)) (by have := D.size_kid_lt (kidsR_mem hxm); have := inb_len b d k; omega)) (by simp [go_sem, hwr1, hx, hin] <;> rfl) (by simp [go_sem, hwr1, hx, hin]) rfl rfl ?_
                  refine al_run 1 (sh := []) tyOk (by simp [go_sem, hwr1, hx, hin] <;> rfl) ?_
                  refine al_nil ?_
                  refine awp_seq ?_
                  refine awp_region_run (sh := []) tyOk (by simp [go_sem, hwr1, hx, hin] <;> rfl) ?_
                  refine awp_cond (by first | rfl | (simp [go_sem, hwr1, hx, hin] <;> rfl)) (fun h32 => ?_) (fun h32 => ?_)
                  · refine awp_seq ?_
                    refine awp_region_run (sh := []) tyOk (by simp [go_sem, hwr1, hx, hin] <;> rfl) ?_
                    refine awp_ret ?_
                    refine inBlock_ret ?_
                    refine then_ret ?_
                    refine then_ret ?_
                    refine inBlock_ret ?_
                    refine then_ret ?_
                    refine ends_ret (by simp [go_sem] <;> rfl) (by simp [go_sem]) ?_
                    have hs : body1 ps b d = cexpr ps (inb b d k) x := by rw [hn, hst]; simp only [Bool.not_true, hwr1, hx, hin, h0, h1, h2, h3, h20, h28, h29, h30, hin, h32, Bool.true_or, Bool.or_true, Bool.false_or, Bool.or_false, Bool.true_and, Bool.and_true, Bool.false_and, Bool.and_false, Bool.not_true, Bool.not_false, Bool.false_eq_true, if_true, if_false]
                    exact ⟨by simp [go_sem, hs, hwr1, hx, hin, h0, h1, h2, h3, h20, h28, h29, h30, hin, h32], by simp [go_sem]⟩
                  · refine awp_skip ?_
                    refine awp_region_run (sh := []) tyOk (by simp [go_sem, hwr1, hx, hin] <;> rfl) ?_
                    exact next_intro (k + 1) σ.objs.length σ.toks.length 1 (⟨hlt, by rw [hn, hst]; simp only [h0, h1, h2, h3, h20, h28, h29, h30, hin, h32, Bool.true_or, Bool.or_true, Bool.false_or, Bool.or_false, Bool.true_and, Bool.and_true, Bool.false_and, Bool.and_false, Bool.not_true, Bool.not_false, Bool.false_eq_true, if_true, if_false]⟩) (by omega) ⟨by simp [go_sem, hwr1, hx, hin, hw], rfl, by simp, by simp, by simp [go_sem, hwr1, hx, hin, hw], fun ob h => .inl (by simpa [go_sem, hwr1, hx, hin, hw] using h), by simp [go_sem]⟩
              · have hin : inb b d k = b := inb_no h29
                refine al_skip 2 76 true (by simp [go_sem]) (by simp [go_sem]) rfl rfl ?_
                refine al_run 1 (sh := []) tyOk (by simp [go_sem, hwr1, hx, hin] <;> rfl) ?_
                refine al_nil ?_
                refine awp_cond (b := false) (by simp [go_sem, hwr1, hx, hin, h0, h1, h2, h3, h20, h28, h29, hin]) (fun h => ?_) (fun h => ?_)
                · cases h
                refine awp_skip ?_
                refine awp_seq ?_
                refine awp_reg ?_
                refine al_run 6 (sh := []) tyOk (by simp [go_sem, hwr1, hx, hin] <;> rfl) ?_
                refine al_fn rfl rfl rfl (by simp [go_sem, hwr1, hx, hin] <;> rfl) call44 (ih x (kidsR_mem hxm) (inb b d k) _ (by exact hgl) (formed_kids hf (kidsR_mem hxm)) (by have := D.size_kid_lt (kidsR_mem hxm); have := inb_len b d k; omega)) (by simp [go_sem, hwr1, hx, hin] <;> rfl) (by simp [go_sem, hwr1, hx, hin]) rfl rfl ?_
                refine al_run 1 (sh := []) tyOk (by simp [go_sem, hwr1, hx, hin] <;> rfl) ?_
                refine al_nil ?_
                refine awp_seq ?_
                refine awp_region_run (sh := []) tyOk (by simp [go_sem, hwr1, hx, hin] <;> rfl) ?_
                refine awp_cond (by first | rfl | (simp [go_sem, hwr1, hx, hin] <;> rfl)) (fun h33 => ?_) (fun h33 => ?_)
                · refine awp_seq ?_
                  refine awp_region_run (sh := []) tyOk (by simp [go_sem, hwr1, hx, hin] <;> rfl) ?_
                  refine awp_ret ?_
                  refine inBlock_ret ?_
                  refine then_ret ?_
                  refine then_ret ?_
                  refine inBlock_ret ?_
                  refine then_ret ?_
                  refine ends_ret (by simp [go_sem] <;> rfl) (by simp [go_sem]) ?_
                  have hs : body1 ps b d = cexpr ps (inb b d k) x := by rw [hn, hst]; simp only [Bool.not_true, hwr1, hx, hin, h0, h1, h2, h3, h20, h28, h29, hin, h33, Bool.true_or, Bool.or_true, Bool.false_or, Bool.or_false, Bool.true_and, Bool.and_true, Bool.false_and, Bool.and_false, Bool.not_true, Bool.not_false, Bool.false_eq_true, if_true, if_false]
                  exact ⟨by simp [go_sem, hs, hwr1, hx, hin, h0, h1, h2, h3, h20, h28, h29, hin, h33], by simp [go_sem]⟩
                · refine awp_skip ?_
                  refine awp_region_run (sh := []) tyOk (by simp [go_sem, hwr1, hx, hin] <;> rfl) ?_
                  exact next_intro (k + 1) σ.objs.length σ.toks.length 1 (⟨hlt, by rw [hn, hst]; simp only [h0, h1, h2, h3, h20, h28, h29, hin, h33, Bool.true_or, Bool.or_true, Bool.false_or, Bool.or_false, Bool.true_and, Bool.and_true, Bool.false_and, Bool.and_false, Bool.not_true, Bool.not_false, Bool.false_eq_true, if_true, if_false]⟩) (by omega) ⟨by simp [go_sem, hwr1, hx, hin, hw], rfl, by simp, by simp, by simp [go_sem, hwr1, hx, hin, hw], fun ob h => .inl (by simpa [go_sem, hwr1, hx, hin, hw] using h), by simp [go_sem]⟩
            · have hke : k = (kidsR d).length := by simp at h28; omega
              subst hke
              refine awp_exit ?_
              refine then_exit ?_
              refine then_exit ?_
              refine inBlock_hit ?_
              refine awp_seq ?_
              refine awp_region_run (sh := []) tyOk (by simp [go_sem, hwr1] <;> rfl) ?_
              refine awp_ret ?_
              refine ends_ret (by simp [go_sem] <;> rfl) (by simp [go_sem]) ?_
              have hs : body1 ps b d = 0 := by rw [hn, List.drop_length]; rfl
              exact ⟨by simp [go_sem, hs], by simp [go_sem]⟩
    · refine al_skip 5 21 true (by simp [go_sem]) (by simp [go_sem]) rfl rfl ?_
      refine al_run 1 (sh := []) tyOk (by simp [go_sem, hwr1] <;> rfl) ?_
      refine al_nil ?_
      refine awp_cond (b := false) (by simp [go_sem, hwr1, h0, h1]) (fun h => ?_) (fun h => ?_)
      · cases h
      refine awp_skip ?_
      refine awp_seq ?_
      refine awp_reg ?_
      refine al_run 1 (sh := []) tyOk (by simp [go_sem, hwr1] <;> rfl) ?_
      refine al_fn rfl rfl rfl (by simp [go_sem, hwr1] <;> rfl) call82 ((c_Word d) _ (by exact hgl)) (by simp [go_sem, hwr1] <;> rfl) (by simp [go_sem, hwr1]) rfl rfl ?_
      refine al_run 1 (sh := []) tyOk (by simp [go_sem, hwr1] <;> rfl) ?_
      refine al_nil ?_
      refine awp_seq ?_
      refine awp_seq ?_
      refine awp_region_run (sh := []) tyOk (by simp [go_sem, hwr1] <;> rfl) ?_
      refine awp_cond (by first | rfl | (simp [go_sem, hwr1] <;> rfl)) (fun h34 => ?_) (fun h34 => ?_)
      · have hwc : word d = sCall := of_decide_eq_true h34
        have h2l := form_two hfm (.inr hwc)
        obtain ⟨hlb, hlf⟩ := form_call hfm hf hwc
        have hx1 := get_d1 h2l
        refine awp_seq ?_
        refine awp_reg ?_
        refine al_run 5 (sh := []) tyOk (by simp [go_sem, hwr1, hx1] <;> rfl) ?_
        refine al_fn rfl rfl rfl (by simp [go_sem, hwr1, hx1] <;> rfl) call39 ((c_Find l hll (d1 d.kids) (fun x hx => (hls x hx).1)) _ (by exact hgl)) (by simp [go_sem, hwr1, hx1] <;> rfl) (by simp [go_sem, hwr1, hx1]) rfl rfl ?_
        refine al_run 1 (sh := []) tyOk (by simp [go_sem, hwr1, hx1] <;> rfl) ?_
        refine al_nil ?_
        refine awp_seq ?_
        refine awp_seq ?_
        refine awp_region_run (sh := []) tyOk (by simp [go_sem, hwr1, hx1] <;> rfl) ?_
        refine awp_cond (by first | rfl | (simp [go_sem, hwr1, hx1] <;> rfl)) (fun h35 => ?_) (fun h35 => ?_)
        · have hkn := H.neg hlb hlf (by simpa using h35)
          refine awp_seq ?_
          refine awp_region_run (sh := []) tyOk (by simp [go_sem, hwr1, hx1] <;> rfl) ?_
          refine awp_ret ?_
          refine then_ret ?_
          refine then_ret ?_
          refine ends_ret (by simp [go_sem] <;> rfl) (by simp [go_sem]) ?_
          have hs : body1 ps b d = 5 := by unfold body1; simp only [eCall, hwr1, hx1, h0, h1, h34, h35, hkn, Bool.true_or, Bool.or_true, Bool.false_or, Bool.or_false, Bool.true_and, Bool.and_true, Bool.false_and, Bool.and_false, Bool.not_true, Bool.not_false, Bool.false_eq_true, if_true, if_false]
          exact ⟨by simp [go_sem, hs], by simp [go_sem]⟩
        · obtain ⟨hi0, y, hy, hky⟩ := H.pos hlb hlf (by simpa using h35)
          have hwr2 : IntKind.i64.wrap ((d.kids.length : Int) - 2) = (d.kids.length : Int) - 2 := wrap_id (by omega) (by omega)
          refine awp_skip ?_
          refine awp_seq ?_
          refine awp_regDP tyOk tySz 10 (by kernel_rfl) (by decide) ?_
          refine ul_run 10 (by simp [go_sem, hwr1, hx1, hi0, hy, hwr2] <;> rfl) ?_
          refine ul_nil ?_
          refine al_run 1 (sh := []) tyOk (by simp [go_sem, hwr1, hx1, hi0, hy, hwr2] <;> rfl) ?_
          refine al_nil ?_
          refine awp_cond (by first | rfl | (simp [go_sem, hwr1, hx1, hi0, hy, hwr2] <;> rfl)) (fun h36 => ?_) (fun h36 => ?_)
          · refine awp_seq ?_
            refine awp_region_run (sh := []) tyOk (by simp [go_sem, hwr1, hx1, hi0, hy, hwr2] <;> rfl) ?_
            refine awp_ret ?_
            refine then_ret ?_
            refine ends_ret (by simp [go_sem] <;> rfl) (by simp [go_sem]) ?_
            have hs : body1 ps b d = 11 := by unfold body1; simp only [eCall, hwr1, hx1, hi0, hy, hwr2, h0, h1, h34, h35, hky, h36, Bool.true_or, Bool.or_true, Bool.false_or, Bool.or_false, Bool.true_and, Bool.and_true, Bool.false_and, Bool.and_false, Bool.not_true, Bool.not_false, Bool.false_eq_true, if_true, if_false]
            exact ⟨by simp [go_sem, hs], by simp [go_sem]⟩
          · refine awp_skip ?_
            refine awp_seq ?_
            refine awp_seq ?_
            refine awp_reg ?_
            refine al_run 1 (sh := []) tyOk (by simp [go_sem, hwr1, hx1, hi0, hy, hwr2] <;> rfl) ?_
            refine al_fn rfl rfl rfl (by simp [go_sem, hwr1, hx1, hi0, hy, hwr2] <;> rfl) call87 ((c_Arity07 (word d)) _ (by exact hgl)) (by simp [go_sem, hwr1, hx1, hi0, hy, hwr2] <;> rfl) (by simp [go_sem, hwr1, hx1, hi0, hy, hwr2]) rfl rfl ?_
            refine al_run 5 (sh := []) tyOk (by simp [go_sem, hwr1, hx1, hi0, hy, hwr2] <;> rfl) ?_
            refine al_nil ?_
            refine awp_seq ?_
            refine awp_reg ?_
            refine al_run 2 (sh := []) tyOk (by simp [go_sem, hwr1, hx1, hi0, hy, hwr2] <;> rfl) ?_
            refine al_splitT 57 (by first | rfl | (simp [go_sem, hwr1, hx1, hi0, hy, hwr2] <;> rfl)) (fun h37 => ?_) (fun h37 => ?_)
            · refine al_runG (sh := []) 6 57 true true tyOk (by simp [go_sem]) rfl (by simp [go_sem]) rfl rfl (by simp [go_sem, hwr1, hx1, hi0, hy, hwr2] <;> rfl) ?_
              refine al_run 1 (sh := []) tyOk (by simp [go_sem, hwr1, hx1, hi0, hy, hwr2] <;> rfl) ?_
              refine al_nil ?_
              refine awp_cond (by first | rfl | (simp [go_sem, hwr1, hx1, hi0, hy, hwr2] <;> rfl)) (fun h38 => ?_) (fun h38 => ?_)
              · refine awp_seq ?_
                refine awp_region_run (sh := []) tyOk (by simp [go_sem, hwr1, hx1, hi0, hy, hwr2] <;> rfl) ?_
                refine awp_ret ?_
                refine then_ret ?_
                refine ends_ret (by simp [go_sem] <;> rfl) (by simp [go_sem]) ?_
                have hs : body1 ps b d = 11 := by unfold body1; simp only [eCall, hwr1, hx1, hi0, hy, hwr2, h0, h1, h34, h35, hky, h36, h37, h38, Bool.true_or, Bool.or_true, Bool.false_or, Bool.or_false, Bool.true_and, Bool.and_true, Bool.false_and, Bool.and_false, Bool.not_true, Bool.not_false, Bool.false_eq_true, if_true, if_false]
                exact ⟨by simp [go_sem, hs], by simp [go_sem]⟩
              · refine awp_skip ?_
                refine awp_seq ?_
                have hgo : body1 ps b d = goB ps b d 0 (kidsR d) := by unfold body1; simp only [eCall, hwr1, hx1, hi0, hy, hwr2, h0, h1, h34, h35, hky, h36, h37, h38, Bool.true_or, Bool.or_true, Bool.false_or, Bool.or_false, Bool.true_and, Bool.and_true, Bool.false_and, Bool.and_false, Bool.not_true, Bool.not_false, Bool.false_eq_true, if_true, if_false]
                refine awp_reg ?_
                refine al_run 1 (sh := []) tyOk (by simp [go_sem, hwr1, hx1, hi0, hy, hwr2] <;> rfl) ?_
                refine al_fn rfl rfl rfl (by simp [go_sem, hwr1, hx1, hi0, hy, hwr2] <;> rfl) call88 ((c_Kids d (form_two hfm)) _ (by exact hgl)) (by simp [go_sem, hwr1, hx1, hi0, hy, hwr2] <;> rfl) (by simp [go_sem, hwr1, hx1, hi0, hy, hwr2]) rfl rfl ?_
                refine al_run 1 (sh := []) tyOk (by simp [go_sem, hwr1, hx1, hi0, hy, hwr2] <;> rfl) ?_
                refine al_nil ?_
                refine awp_seq ?_
                refine awp_seq ?_
                refine awp_region_run (sh := []) tyOk (by simp [go_sem, hwr1, hx1, hi0, hy, hwr2] <;> rfl) ?_
                refine awp_block ?_
                refine awp_loop_headK σ.objs.length σ.toks.length 1 [0, 2, 4, 6, 7, 11] (fun k : Nat => [(12, .pv (.int .i64 ↑k))]) (fun k => σ) (fun k => k ≤ (kidsR d).length ∧ body1 ps b d = goB ps b d k ((kidsR d).drop k)) (fun k => (kidsR d).length - k) 0 (⟨Nat.zero_le _, by rw [hgo]; rfl⟩) ⟨by simp [go_sem, hwr1, hx1, hi0, hy, hwr2], rfl, by simp, by simp, by simp [go_sem, hwr1, hx1, hi0, hy, hwr2], fun ob h => .inl (by simpa [go_sem, hwr1, hx1, hi0, hy, hwr2] using h), by simp [go_sem]⟩ ?_
                rintro k ⟨hk, hn⟩
                refine awp_seq ?_
                refine awp_seq ?_
                refine awp_region_run (sh := []) tyOk (by simp [go_sem, hwr1, hx1, hi0, hy, hwr2] <;> rfl) ?_
                refine awp_cond (by first | rfl | (simp [go_sem, hwr1, hx1, hi0, hy, hwr2] <;> rfl)) (fun h39 => ?_) (fun h39 => ?_)
                · have hlt : k < (kidsR d).length := by simp at h39; omega
                  have hw : IntKind.i64.wrap (↑k + 1) = (k : Int) + 1 := wrap_succ (by omega)
                  obtain ⟨x, hx, hxm⟩ := get_lt hlt
                  have hst := goB_step (ps := ps) (b := b) hx
                  refine awp_skip ?_
                  refine awp_seq ?_
                  refine awp_block ?_
                  refine awp_seq ?_
                  refine awp_region_run (sh := []) tyOk (by simp [go_sem, hwr1, hx1, hi0, hy, hwr2, hx] <;> rfl) ?_
                  refine awp_seq ?_
                  refine awp_seq ?_
                  refine awp_reg ?_
                  refine al_run 3 (sh := []) tyOk (by simp [go_sem, hwr1, hx1, hi0, hy, hwr2, hx] <;> rfl) ?_
                  refine al_splitT 76 (by first | rfl | (simp [go_sem, hwr1, hx1, hi0, hy, hwr2, hx] <;> rfl)) (fun h40 => ?_) (fun h40 => ?_)
                  · have hA := h40
                    refine al_runG (sh := []) 2 76 true true tyOk (by simp [go_sem]) rfl (by simp [go_sem]) rfl rfl (by simp [go_sem, hwr1, hx1, hi0, hy, hwr2, hx] <;> rfl) ?_
                    refine al_run 1 (sh := []) tyOk (by simp [go_sem, hwr1, hx1, hi0, hy, hwr2, hx] <;> rfl) ?_
                    refine al_nil ?_
                    refine awp_cond (by first | rfl | (simp [go_sem, hwr1, hx1, hi0, hy, hwr2, hx] <;> rfl)) (fun h41 => ?_) (fun h41 => ?_)
                    · have h2m := form_two hfm (.inl (of_decide_eq_true hA))
                      have hy1 := get_d1 h2m
                      have hin : inb b d k = b ++ [(d1 d.kids).text] := inb_yes hA h41
                      have hbb : (b.length + 1) * 16 ≤ 140737488355328 := by omega
                      have hb16 : b.length * 16 ≤ 140737488355328 := by omega
                      refine awp_regDP tyOk tySz 9 (by kernel_rfl) (by decide) ?_
                      refine ul_run 9 (by simp [go_sem, hwr1, hx1, hi0, hy, hwr2, hx, hy1, hin, hbb, hb16, allSz_str] <;> rfl) ?_
                      refine ul_nil ?_
                      refine al_run 2 (sh := []) tyOk (by simp [go_sem, hwr1, hx1, hi0, hy, hwr2, hx, hy1, hin, hbb, hb16, allSz_str] <;> rfl) ?_
                      refine al_nil ?_
                      refine awp_seq ?_
                      refine awp_reg ?_
                      refine al_run 6 (sh := []) tyOk (by simp [go_sem, hwr1, hx1, hi0, hy, hwr2, hx, hy1, hin, hbb, hb16, allSz_str] <;> rfl) ?_
                      refine al_fn rfl rfl rfl (by simp [go_sem, hwr1, hx1, hi0, hy, hwr2, hx, hy1, hin, hbb, hb16, allSz_str] <;> rfl) call44 (ih x (kidsR_mem hxm) (inb b d k) _ (by exact hgl) (formed_kids hf (kidsR_mem hxm)) (by have := D.size_kid_lt (kidsR_mem hxm); have := inb_len b d k; omega)) (by simp [go_sem, hwr1, hx1, hi0, hy, hwr2, hx, hy1, hin, hbb, hb16, allSz_str] <;> rfl) (by simp [go_sem, hwr1, hx1, hi0, hy, hwr2, hx, hy1, hin, hbb, hb16, allSz_str]) rfl rfl ?_
                      refine al_run 1 (sh := []) tyOk (by simp [go_sem, hwr1, hx1, hi0, hy, hwr2, hx, hy1, hin, hbb, hb16, allSz_str] <;> rfl) ?_
                      refine al_nil ?_
                      refine awp_seq ?_
                      refine awp_region_run (sh := []) tyOk (by simp [go_sem, hwr1, hx1, hi0, hy, hwr2, hx, hy1, hin, hbb, hb16, allSz_str] <;> rfl) ?_
                      refine awp_cond (by first | rfl | (simp [go_sem, hwr1, hx1, hi0, hy, hwr2, hx, hy1, hin, hbb, hb16, allSz_str] <;> rfl)) (fun h42 => ?_) (fun h42 => ?_)
                      · refine awp_seq ?_
                        refine awp_region_run (sh := []) tyOk (by simp [go_sem, hwr1, hx1, hi0, hy, hwr2, hx, hy1, hin, hbb, hb16, allSz_str] <;> rfl) ?_
                        refine awp_ret ?_
                        refine inBlock_ret ?_
                        refine then_ret ?_
                        refine then_ret ?_
                        refine inBlock_ret ?_
                        refine then_ret ?_
                        refine ends_ret (by simp [go_sem] <;> rfl) (by simp [go_sem]) ?_
                        have hs : body1 ps b d = cexpr ps (inb b d k) x := by rw [hn, hst]; simp only [Bool.not_true, hwr1, hx1, hi0, hy, hwr2, hx, hy1, hin, hbb, hb16, allSz_str, h0, h1, h34, h35, hky, h36, h37, h38, h39, h40, h41, hin, h42, Bool.true_or, Bool.or_true, Bool.false_or, Bool.or_false, Bool.true_and, Bool.and_true, Bool.false_and, Bool.and_false, Bool.not_true, Bool.not_false, Bool.false_eq_true, if_true, if_false]
                        exact ⟨by simp [go_sem, hs, hwr1, hx1, hi0, hy, hwr2, hx, hy1, hin, hbb, hb16, allSz_str, h0, h1, h34, h35, hky, h36, h37, h38, h39, h40, h41, hin, h42], by simp [go_sem]⟩
                      · refine awp_skip ?_
                        refine awp_region_run (sh := []) tyOk (by simp [go_sem, hwr1, hx1, hi0, hy, hwr2, hx, hy1, hin, hbb, hb16, allSz_str] <;> rfl) ?_
                        exact next_intro (k + 1) σ.objs.length σ.toks.length 1 (⟨hlt, by rw [hn, hst]; simp only [h0, h1, h34, h35, hky, h36, h37, h38, h39, h40, h41, hin, h42, Bool.true_or, Bool.or_true, Bool.false_or, Bool.or_false, Bool.true_and, Bool.and_true, Bool.false_and, Bool.and_false, Bool.not_true, Bool.not_false, Bool.false_eq_true, if_true, if_false]⟩) (by omega) ⟨by simp [go_sem, hwr1, hx1, hi0, hy, hwr2, hx, hy1, hin, hbb, hb16, allSz_str, hw], rfl, by simp, by simp, by simp [go_sem, hwr1, hx1, hi0, hy, hwr2, hx, hy1, hin, hbb, hb16, allSz_str, hw], fun ob h => .inl (by simpa [go_sem, hwr1, hx1, hi0, hy, hwr2, hx, hy1, hin, hbb, hb16, allSz_str, hw] using h), by simp [go_sem]⟩
                    · have hin : inb b d k = b := inb_other h41
                      refine awp_skip ?_
                      refine awp_seq ?_
                      refine awp_reg ?_
                      refine al_run 6 (sh := []) tyOk (by simp [go_sem, hwr1, hx1, hi0, hy, hwr2, hx, hin] <;> rfl) ?_
                      refine al_fn rfl rfl rfl (by simp [go_sem, hwr1, hx1, hi0, hy, hwr2, hx, hin] <;> rfl) call44 (ih x (kidsR_mem hxm) (inb b d k) _ (by exact hgl) (formed_kids hf (kidsR_mem hxm)) (by have := D.size_kid_lt (kidsR_mem hxm); have := inb_len b d k; omega)) (by simp [go_sem, hwr1, hx1, hi0, hy, hwr2, hx, hin] <;> rfl) (by simp [go_sem, hwr1, hx1, hi0, hy, hwr2, hx, hin]) rfl rfl ?_
                      refine al_run 1 (sh := []) tyOk (by simp [go_sem, hwr1, hx1, hi0, hy, hwr2, hx, hin] <;> rfl) ?_
                      refine al_nil ?_
                      refine awp_seq ?_
                      refine awp_region_run (sh := []) tyOk (by simp [go_sem, hwr1, hx1, hi0, hy, hwr2, hx, hin] <;> rfl) ?_
                      refine awp_cond (by first | rfl | (simp [go_sem, hwr1, hx1, hi0, hy, hwr2, hx, hin] <;> rfl)) (fun h43 => ?_) (fun h43 => ?_)
                      · refine awp_seq ?_
                        refine awp_region_run (sh := []) tyOk (by simp [go_sem, hwr1, hx1, hi0, hy, hwr2, hx, hin] <;> rfl) ?_
                        refine awp_ret ?_
                        refine inBlock_ret ?_
                        refine then_ret ?_
                        refine then_ret ?_
                        refine inBlock_ret ?_
                        refine then_ret ?_
                        refine ends_ret (by simp [go_sem] <;> rfl) (by simp [go_sem]) ?_
                        have hs : body1 ps b d = cexpr ps (inb b d k) x := by rw [hn, hst]; simp only [Bool.not_true, hwr1, hx1, hi0, hy, hwr2, hx, hin, h0, h1, h34, h35, hky, h36, h37, h38, h39, h40, h41, hin, h43, Bool.true_or, Bool.or_true, Bool.false_or, Bool.or_false, Bool.true_and, Bool.and_true, Bool.false_and, Bool.and_false, Bool.not_true, Bool.not_false, Bool.false_eq_true, if_true, if_false]
                        exact ⟨by simp [go_sem, hs, hwr1, hx1, hi0, hy, hwr2, hx, hin, h0, h1, h34, h35, hky, h36, h37, h38, h39, h40, h41, hin, h43], by simp [go_sem]⟩
                      · refine awp_skip ?_
                        refine awp_region_run (sh := []) tyOk (by simp [go_sem, hwr1, hx1, hi0, hy, hwr2, hx, hin] <;> rfl) ?_
                        exact next_intro (k + 1) σ.objs.length σ.toks.length 1 (⟨hlt, by rw [hn, hst]; simp only [h0, h1, h34, h35, hky, h36, h37, h38, h39, h40, h41, hin, h43, Bool.true_or, Bool.or_true, Bool.false_or, Bool.or_false, Bool.true_and, Bool.and_true, Bool.false_and, Bool.and_false, Bool.not_true, Bool.not_false, Bool.false_eq_true, if_true, if_false]⟩) (by omega) ⟨by simp [go_sem, hwr1, hx1, hi0, hy, hwr2, hx, hin, hw], rfl, by simp, by simp, by simp [go_sem, hwr1, hx1, hi0, hy, hwr2, hx, hin, hw], fun ob h => .inl (by simpa [go_sem, hwr1, hx1, hi0, hy, hwr2, hx, hin, hw] using h), by simp [go_sem]⟩
                  · have hin : inb b d k = b := inb_no h40
                    refine al_skip 2 76 true (by simp [go_sem]) (by simp [go_sem]) rfl rfl ?_
                    refine al_run 1 (sh := []) tyOk (by simp [go_sem, hwr1, hx1, hi0, hy, hwr2, hx, hin] <;> rfl) ?_
                    refine al_nil ?_
                    refine awp_cond (b := false) (by simp [go_sem, hwr1, hx1, hi0, hy, hwr2, hx, hin, h0, h1, h34, h35, hky, h36, h37, h38, h39, h40, hin]) (fun h => ?_) (fun h => ?_)
                    · cases h
                    refine awp_skip ?_
                    refine awp_seq ?_
                    refine awp_reg ?_
                    refine al_run 6 (sh := []) tyOk (by simp [go_sem, hwr1, hx1, hi0, hy, hwr2, hx, hin] <;> rfl) ?_
                    refine al_fn rfl rfl rfl (by simp [go_sem, hwr1, hx1, hi0, hy, hwr2, hx, hin] <;> rfl) call44 (ih x (kidsR_mem hxm) (inb b d k) _ (by exact hgl) (formed_kids hf (kidsR_mem hxm)) (by have := D.size_kid_lt (kidsR_mem hxm); have := inb_len b d k; omega)) (by simp [go_sem, hwr1, hx1, hi0, hy, hwr2, hx, hin] <;> rfl) (by simp [go_sem, hwr1, hx1, hi0, hy, hwr2, hx, hin]) rfl rfl ?_
                    refine al_run 1 (sh := []) tyOk (by simp [go_sem, hwr1, hx1, hi0, hy, hwr2, hx, hin] <;> rfl) ?_
                    refine al_nil ?_
                    refine awp_seq ?_
                    refine awp_region_run (sh := []) tyOk (by simp [go_sem, hwr1, hx1, hi0, hy, hwr2, hx, hin] <;> rfl) ?_
                    refine awp_cond (by first | rfl | (simp [go_sem, hwr1, hx1, hi0, hy, hwr2, hx, hin] <;> rfl)) (fun h44 => ?_) (fun h44 => ?_)
                    · refine awp_seq ?_
                      refine awp_region_run (sh := []) tyOk (by simp [go_sem, hwr1, hx1, hi0, hy, hwr2, hx, hin] <;> rfl) ?_
                      refine awp_ret ?_
                      refine inBlock_ret ?_
                      refine then_ret ?_
                      refine then_ret ?_
                      refine inBlock_ret ?_
                      refine then_ret ?_
                      refine ends_ret (by simp [go_sem] <;> rfl) (by simp [go_sem]) ?_
                      have hs : body1 ps b d = cexpr ps (inb b d k) x := by rw [hn, hst]; simp only [Bool.not_true, hwr1, hx1, hi0, hy, hwr2, hx, hin, h0, h1, h34, h35, hky, h36, h37, h38, h39, h40, hin, h44, Bool.true_or, Bool.or_true, Bool.false_or, Bool.or_false, Bool.true_and, Bool.and_true, Bool.false_and, Bool.and_false, Bool.not_true, Bool.not_false, Bool.false_eq_true, if_true, if_false]
                      exact ⟨by simp [go_sem, hs, hwr1, hx1, hi0, hy, hwr2, hx, hin, h0, h1, h34, h35, hky, h36, h37, h38, h39, h40, hin, h44], by simp [go_sem]⟩
                    · refine awp_skip ?_
                      refine awp_region_run (sh := []) tyOk (by simp [go_sem, hwr1, hx1, hi0, hy, hwr2, hx, hin] <;> rfl) ?_
                      exact next_intro (k + 1) σ.objs.length σ.toks.length 1 (⟨hlt, by rw [hn, hst]; simp only [h0, h1, h34, h35, hky, h36, h37, h38, h39, h40, hin, h44, Bool.true_or, Bool.or_true, Bool.false_or, Bool.or_false, Bool.true_and, Bool.and_true, Bool.false_and, Bool.and_false, Bool.not_true, Bool.not_false, Bool.false_eq_true, if_true, if_false]⟩) (by omega) ⟨by simp [go_sem, hwr1, hx1, hi0, hy, hwr2, hx, hin, hw], rfl, by simp, by simp, by simp [go_sem, hwr1, hx1, hi0, hy, hwr2, hx, hin, hw], fun ob h => .inl (by simpa [go_sem, hwr1, hx1, hi0, hy, hwr2, hx, hin, hw] using h), by simp [go_sem]⟩
                · have hke : k = (kidsR d).length := by simp at h39; omega
                  subst hke
                  refine awp_exit ?_
                  refine then_exit ?_
                  refine then_exit ?_
                  refine inBlock_hit ?_
                  refine awp_seq ?_
                  refine awp_region_run (sh := []) tyOk (by simp [go_sem, hwr1, hx1, hi0, hy, hwr2] <;> rfl) ?_
                  refine awp_ret ?_
                  refine ends_ret (by simp [go_sem] <;> rfl) (by simp [go_sem]) ?_
                  have hs : body1 ps b d = 0 := by rw [hn, List.drop_length]; rfl
                  exact ⟨by simp [go_sem, hs], by simp [go_sem]⟩
            · refine al_skip 6 57 true (by simp [go_sem]) (by simp [go_sem]) rfl rfl ?_
              refine al_run 1 (sh := []) tyOk (by simp [go_sem, hwr1, hx1, hi0, hy, hwr2] <;> rfl) ?_
              refine al_nil ?_
              refine awp_cond (b := false) (by simp [go_sem, hwr1, hx1, hi0, hy, hwr2, h0, h1, h34, h35, hky, h36, h37]) (fun h => ?_) (fun h => ?_)
              · cases h
              refine awp_skip ?_
              refine awp_seq ?_
              have hgo : body1 ps b d = goB ps b d 0 (kidsR d) := by unfold body1; simp only [eCall, hwr1, hx1, hi0, hy, hwr2, h0, h1, h34, h35, hky, h36, h37, Bool.true_or, Bool.or_true, Bool.false_or, Bool.or_false, Bool.true_and, Bool.and_true, Bool.false_and, Bool.and_false, Bool.not_true, Bool.not_false, Bool.false_eq_true, if_true, if_false]
              refine awp_reg ?_
              refine al_run 1 (sh := []) tyOk (by simp [go_sem, hwr1, hx1, hi0, hy, hwr2] <;> rfl) ?_
              refine al_fn rfl rfl rfl (by simp [go_sem, hwr1, hx1, hi0, hy, hwr2] <;> rfl) call88 ((c_Kids d (form_two hfm)) _ (by exact hgl)) (by simp [go_sem, hwr1, hx1, hi0, hy, hwr2] <;> rfl) (by simp [go_sem, hwr1, hx1, hi0, hy, hwr2]) rfl rfl ?_
              refine al_run 1 (sh := []) tyOk (by simp [go_sem, hwr1, hx1, hi0, hy, hwr2] <;> rfl) ?_
              refine al_nil ?_
              refine awp_seq ?_
              refine awp_seq ?_
              refine awp_region_run (sh := []) tyOk (by simp [go_sem, hwr1, hx1, hi0, hy, hwr2] <;> rfl) ?_
              refine awp_block ?_
              refine awp_loop_headK σ.objs.length σ.toks.length 1 [0, 2, 4, 6, 7, 11] (fun k : Nat => [(12, .pv (.int .i64 ↑k))]) (fun k => σ) (fun k => k ≤ (kidsR d).length ∧ body1 ps b d = goB ps b d k ((kidsR d).drop k)) (fun k => (kidsR d).length - k) 0 (⟨Nat.zero_le _, by rw [hgo]; rfl⟩) ⟨by simp [go_sem, hwr1, hx1, hi0, hy, hwr2], rfl, by simp, by simp, by simp [go_sem, hwr1, hx1, hi0, hy, hwr2], fun ob h => .inl (by simpa [go_sem, hwr1, hx1, hi0, hy, hwr2] using h), by simp [go_sem]⟩ ?_
              rintro k ⟨hk, hn⟩
              refine awp_seq ?_
              refine awp_seq ?_
              refine awp_region_run (sh := []) tyOk (by simp [go_sem, hwr1, hx1, hi0, hy, hwr2] <;> rfl) ?_
              refine awp_cond (by first | rfl | (simp [go_sem, hwr1, hx1, hi0, hy, hwr2] <;> rfl)) (fun h45 => ?_) (fun h45 => ?_)
              · have hlt : k < (kidsR d).length := by simp at h45; omega
                have hw : IntKind.i64.wrap (↑k + 1) = (k : Int) + 1 := wrap_succ (by omega)
                obtain ⟨x, hx, hxm⟩ := get_lt hlt
                have hst := goB_step (ps := ps) (b := b) hx
                refine awp_skip ?_
                refine awp_seq ?_
                refine awp_block ?_
                refine awp_seq ?_
                refine awp_region_run (sh := []) tyOk (by simp [go_sem, hwr1, hx1, hi0, hy, hwr2, hx] <;> rfl) ?_
                refine awp_seq ?_
                refine awp_seq ?_
                refine awp_reg ?_
                refine al_run 3 (sh := []) tyOk (by simp [go_sem, hwr1, hx1, hi0, hy, hwr2, hx] <;> rfl) ?_
                refine al_splitT 76 (by first | rfl | (simp [go_sem, hwr1, hx1, hi0, hy, hwr2, hx] <;> rfl)) (fun h46 => ?_) (fun h46 => ?_)
                · have hA := h46
                  refine al_runG (sh := []) 2 76 true true tyOk (by simp [go_sem]) rfl (by simp [go_sem]) rfl rfl (by simp [go_sem, hwr1, hx1, hi0, hy, hwr2, hx] <;> rfl) ?_
                  refine al_run 1 (sh := []) tyOk (by simp [go_sem, hwr1, hx1, hi0, hy, hwr2, hx] <;> rfl) ?_
                  refine al_nil ?_
                  refine awp_cond (by first | rfl | (simp [go_sem, hwr1, hx1, hi0, hy, hwr2, hx] <;> rfl)) (fun h47 => ?_) (fun h47 => ?_)
                  · have h2m := form_two hfm (.inl (of_decide_eq_true hA))
                    have hy1 := get_d1 h2m
                    have hin : inb b d k = b ++ [(d1 d.kids).text] := inb_yes hA h47
                    have hbb : (b.length + 1) * 16 ≤ 140737488355328 := by omega
                    have hb16 : b.length * 16 ≤ 140737488355328 := by omega
                    refine awp_regDP tyOk tySz 9 (by kernel_rfl) (by decide) ?_
                    refine ul_run 9 (by simp [go_sem, hwr1, hx1, hi0, hy, hwr2, hx, hy1, hin, hbb, hb16, allSz_str] <;> rfl) ?_
                    refine ul_nil ?_
                    refine al_run 2 (sh := []) tyOk (by simp [go_sem, hwr1, hx1, hi0, hy, hwr2, hx, hy1, hin, hbb, hb16, allSz_str] <;> rfl) ?_
                    refine al_nil ?_
                    refine awp_seq ?_
                    refine awp_reg ?_
                    refine al_run 6 (sh := []) tyOk (by simp [go_sem, hwr1, hx1, hi0, hy, hwr2, hx, hy1, hin, hbb, hb16, allSz_str] <;> rfl) ?_
                    refine al_fn rfl rfl rfl (by simp [go_sem, hwr1, hx1, hi0, hy, hwr2, hx, hy1, hin, hbb, hb16, allSz_str] <;> rfl) call44 (ih x (kidsR_mem hxm) (inb b d k) _ (by exact hgl) (formed_kids hf (kidsR_mem hxm)) (by have := D.size_kid_lt (kidsR_mem hxm); have := inb_len b d k; omega)) (by simp [go_sem, hwr1, hx1, hi0, hy, hwr2, hx, hy1, hin, hbb, hb16, allSz_str] <;> rfl) (by simp [go_sem, hwr1, hx1, hi0, hy, hwr2, hx, hy1, hin, hbb, hb16, allSz_str]) rfl rfl ?_
                    refine al_run 1 (sh := []) tyOk (by simp [go_sem, hwr1, hx1, hi0, hy, hwr2, hx, hy1, hin, hbb, hb16, allSz_str] <;> rfl) ?_
                    refine al_nil ?_
                    refine awp_seq ?_
                    refine awp_region_run (sh := []) tyOk (by simp [go_sem, hwr1, hx1, hi0, hy, hwr2, hx, hy1, hin, hbb, hb16, allSz_str] <;> rfl) ?_
                    refine awp_cond (by first | rfl | (simp [go_sem, hwr1, hx1, hi0, hy, hwr2, hx, hy1, hin, hbb, hb16, allSz_str] <;> rfl)) (fun h48 => ?_) (fun h48 => ?_)
                    · refine awp_seq ?_
                      refine awp_region_run (sh := []) tyOk (by simp [go_sem, hwr1, hx1, hi0, hy, hwr2, hx, hy1, hin, hbb, hb16, allSz_str] <;> rfl) ?_
                      refine awp_ret ?_
                      refine inBlock_ret ?_
                      refine then_ret ?_
                      refine then_ret ?_
                      refine inBlock_ret ?_
                      refine then_ret ?_
                      refine ends_ret (by simp [go_sem] <;> rfl) (by simp [go_sem]) ?_
                      have hs : body1 ps b d = cexpr ps (inb b d k) x := by rw [hn, hst]; simp only [Bool.not_true, hwr1, hx1, hi0, hy, hwr2, hx, hy1, hin, hbb, hb16, allSz_str, h0, h1, h34, h35, hky, h36, h37, h45, h46, h47, hin, h48, Bool.true_or, Bool.or_true, Bool.false_or, Bool.or_false, Bool.true_and, Bool.and_true, Bool.false_and, Bool.and_false, Bool.not_true, Bool.not_false, Bool.false_eq_true, if_true, if_false]
                      exact ⟨by simp [go_sem, hs, hwr1, hx1, hi0, hy, hwr2, hx, hy1, hin, hbb, hb16, allSz_str, h0, h1, h34, h35, hky, h36, h37, h45, h46, h47, hin, h48], by simp [go_sem]⟩
                    · refine awp_skip ?_
                      refine awp_region_run (sh := []) tyOk (by simp [go_sem, hwr1, hx1, hi0, hy, hwr2, hx, hy1, hin, hbb, hb16, allSz_str] <;> rfl) ?_
                      exact next_intro (k + 1) σ.objs.length σ.toks.length 1 (⟨hlt, by rw [hn, hst]; simp only [h0, h1, h34, h35, hky, h36, h37, h45, h46, h47, hin, h48, Bool.true_or, Bool.or_true, Bool.false_or, Bool.or_false, Bool.true_and, Bool.and_true, Bool.false_and, Bool.and_false, Bool.not_true, Bool.not_false, Bool.false_eq_true, if_true, if_false]⟩) (by omega) ⟨by simp [go_sem, hwr1, hx1, hi0, hy, hwr2, hx, hy1, hin, hbb, hb16, allSz_str, hw], rfl, by simp, by simp, by simp [go_sem, hwr1, hx1, hi0, hy, hwr2, hx, hy1, hin, hbb, hb16, allSz_str, hw], fun ob h => .inl (by simpa [go_sem, hwr1, hx1, hi0, hy, hwr2, hx, hy1, hin, hbb, hb16, allSz_str, hw] using h), by simp [go_sem]⟩
                  · have hin : inb b d k = b := inb_other h47
                    refine awp_skip ?_
                    refine awp_seq ?_
                    refine awp_reg ?_
                    refine al_run 6 (sh := []) tyOk (by simp [go_sem, hwr1, hx1, hi0, hy, hwr2, hx, hin] <;> rfl) ?_
                    refine al_fn rfl rfl rfl (by simp [go_sem, hwr1, hx1, hi0, hy, hwr2, hx, hin] <;> rfl) call44 (ih x (kidsR_mem hxm) (inb b d k) _ (by exact hgl) (formed_kids hf (kidsR_mem hxm)) (by have := D.size_kid_lt (kidsR_mem hxm); have := inb_len b d k; omega)) (by simp [go_sem, hwr1, hx1, hi0, hy, hwr2, hx, hin] <;> rfl) (by simp [go_sem, hwr1, hx1, hi0, hy, hwr2, hx, hin]) rfl rfl ?_
                    refine al_run 1 (sh := []) tyOk (by simp [go_sem, hwr1, hx1, hi0, hy, hwr2, hx, hin] <;> rfl) ?_
                    refine al_nil ?_
                    refine awp_seq ?_
                    refine awp_region_run (sh := []) tyOk (by simp [go_sem, hwr1, hx1, hi0, hy, hwr2, hx, hin] <;> rfl) ?_
                    refine awp_cond (by first | rfl | (simp [go_sem, hwr1, hx1, hi0, hy, hwr2, hx, hin] <;> rfl)) (fun h49 => ?_) (fun h49 => ?_)
                    · refine awp_seq ?_
                      refine awp_region_run (sh := []) tyOk (by simp [go_sem, hwr1, hx1, hi0, hy, hwr2, hx, hin] <;> rfl) ?_
                      refine awp_ret ?_
                      refine inBlock_ret ?_
                      refine then_ret ?_
                      refine then_ret ?_
                      refine inBlock_ret ?_
                      refine then_ret ?_
                      refine ends_ret (by simp [go_sem] <;> rfl) (by simp [go_sem]) ?_
                      have hs : body1 ps b d = cexpr ps (inb b d k) x := by rw [hn, hst]; simp only [Bool.not_true, hwr1, hx1, hi0, hy, hwr2, hx, hin, h0, h1, h34, h35, hky, h36, h37, h45, h46, h47, hin, h49, Bool.true_or, Bool.or_true, Bool.false_or, Bool.or_false, Bool.true_and, Bool.and_true, Bool.false_and, Bool.and_false, Bool.not_true, Bool.not_false, Bool.false_eq_true, if_true, if_false]
                      exact ⟨by simp [go_sem, hs, hwr1, hx1, hi0, hy, hwr2, hx, hin, h0, h1, h34, h35, hky, h36, h37, h45, h46, h47, hin, h49], by simp [go_sem]⟩
                    · refine awp_skip ?_
                      refine awp_region_run (sh := []) tyOk (by simp [go_sem, hwr1, hx1, hi0, hy, hwr2, hx, hin] <;> rfl) ?_
                      exact next_intro (k + 1) σ.objs.length σ.toks.length 1 (⟨hlt, by rw [hn, hst]; simp only [h0, h1, h34, h35, hky, h36, h37, h45, h46, h47, hin, h49, Bool.true_or, Bool.or_true, Bool.false_or, Bool.or_false, Bool.true_and, Bool.and_true, Bool.false_and, Bool.and_false, Bool.not_true, Bool.not_false, Bool.false_eq_true, if_true, if_false]⟩) (by omega) ⟨by simp [go_sem, hwr1, hx1, hi0, hy, hwr2, hx, hin, hw], rfl, by simp, by simp, by simp [go_sem, hwr1, hx1, hi0, hy, hwr2, hx, hin, hw], fun ob h => .inl (by simpa [go_sem, hwr1, hx1, hi0, hy, hwr2, hx, hin, hw] using h), by simp [go_sem]⟩
                · have hin : inb b d k = b := inb_no h46
                  refine al_skip 2 76 true (by simp [go_sem]) (by simp [go_sem]) rfl rfl ?_
                  refine al_run 1 (sh := []) tyOk (by simp [go_sem, hwr1, hx1, hi0, hy, hwr2, hx, hin] <;> rfl) ?_
                  refine al_nil ?_
                  refine awp_cond (b := false) (by simp [go_sem, hwr1, hx1, hi0, hy, hwr2, hx, hin, h0, h1, h34, h35, hky, h36, h37, h45, h46, hin]) (fun h => ?_) (fun h => ?_)
                  · cases h
                  refine awp_skip ?_
                  refine awp_seq ?_
                  refine awp_reg ?_
                  refine al_run 6 (sh := []) tyOk (by simp [go_sem, hwr1, hx1, hi0, hy, hwr2, hx, hin] <;> rfl) ?_
                  refine al_fn rfl rfl rfl (by simp [go_sem, hwr1, hx1, hi0, hy, hwr2, hx, hin] <;> rfl) call44 (ih x (kidsR_mem hxm) (inb b d k) _ (by exact hgl) (formed_kids hf (kidsR_mem hxm)) (by have := D.size_kid_lt (kidsR_mem hxm); have := inb_len b d k; omega)) (by simp [go_sem, hwr1, hx1, hi0, hy, hwr2, hx, hin] <;> rfl) (by simp [go_sem, hwr1, hx1, hi0, hy, hwr2, hx, hin]) rfl rfl ?_
                  refine al_run 1 (sh := []) tyOk (by simp [go_sem, hwr1, hx1, hi0, hy, hwr2, hx, hin] <;> rfl) ?_
                  refine al_nil ?_
                  refine awp_seq ?_
                  refine awp_region_run (sh := []) tyOk (by simp [go_sem, hwr1, hx1, hi0, hy, hwr2, hx, hin] <;> rfl) ?_
                  refine awp_cond (by first | rfl | (simp [go_sem, hwr1, hx1, hi0, hy, hwr2, hx, hin] <;> rfl)) (fun h50 => ?_) (fun h50 => ?_)
                  · refine awp_seq ?_
                    refine awp_region_run (sh := []) tyOk (by simp [go_sem, hwr1, hx1, hi0, hy, hwr2, hx, hin] <;> rfl) ?_
                    refine awp_ret ?_
                    refine inBlock_ret ?_
                    refine then_ret ?_
                    refine then_ret ?_
                    refine inBlock_ret ?_
                    refine then_ret ?_
                    refine ends_ret (by simp [go_sem] <;> rfl) (by simp [go_sem]) ?_
                    have hs : body1 ps b d = cexpr ps (inb b d k) x := by rw [hn, hst]; simp only [Bool.not_true, hwr1, hx1, hi0, hy, hwr2, hx, hin, h0, h1, h34, h35, hky, h36, h37, h45, h46, hin, h50, Bool.true_or, Bool.or_true, Bool.false_or, Bool.or_false, Bool.true_and, Bool.and_true, Bool.false_and, Bool.and_false, Bool.not_true, Bool.not_false, Bool.false_eq_true, if_true, if_false]
                    exact ⟨by simp [go_sem, hs, hwr1, hx1, hi0, hy, hwr2, hx, hin, h0, h1, h34, h35, hky, h36, h37, h45, h46, hin, h50], by simp [go_sem]⟩
                  · refine awp_skip ?_
                    refine awp_region_run (sh := []) tyOk (by simp [go_sem, hwr1, hx1, hi0, hy, hwr2, hx, hin] <;> rfl) ?_
                    exact next_intro (k + 1) σ.objs.length σ.toks.length 1 (⟨hlt, by rw [hn, hst]; simp only [h0, h1, h34, h35, hky, h36, h37, h45, h46, hin, h50, Bool.true_or, Bool.or_true, Bool.false_or, Bool.or_false, Bool.true_and, Bool.and_true, Bool.false_and, Bool.and_false, Bool.not_true, Bool.not_false, Bool.false_eq_true, if_true, if_false]⟩) (by omega) ⟨by simp [go_sem, hwr1, hx1, hi0, hy, hwr2, hx, hin, hw], rfl, by simp, by simp, by simp [go_sem, hwr1, hx1, hi0, hy, hwr2, hx, hin, hw], fun ob h => .inl (by simpa [go_sem, hwr1, hx1, hi0, hy, hwr2, hx, hin, hw] using h), by simp [go_sem]⟩
              · have hke : k = (kidsR d).length := by simp at h45; omega
                subst hke
                refine awp_exit ?_
                refine then_exit ?_
                refine then_exit ?_
                refine inBlock_hit ?_
                refine awp_seq ?_
                refine awp_region_run (sh := []) tyOk (by simp [go_sem, hwr1, hx1, hi0, hy, hwr2] <;> rfl) ?_
                refine awp_ret ?_
                refine ends_ret (by simp [go_sem] <;> rfl) (by simp [go_sem]) ?_
                have hs : body1 ps b d = 0 := by rw [hn, List.drop_length]; rfl
                exact ⟨by simp [go_sem, hs], by simp [go_sem]⟩
      · refine awp_skip ?_
        refine awp_seq ?_
        refine awp_seq ?_
        refine awp_reg ?_
        refine al_run 1 (sh := []) tyOk (by simp [go_sem, hwr1] <;> rfl) ?_
        refine al_fn rfl rfl rfl (by simp [go_sem, hwr1] <;> rfl) call87 ((c_Arity07 (word d)) _ (by exact hgl)) (by simp [go_sem, hwr1] <;> rfl) (by simp [go_sem, hwr1]) rfl rfl ?_
        refine al_run 5 (sh := []) tyOk (by simp [go_sem, hwr1] <;> rfl) ?_
        refine al_nil ?_
        refine awp_seq ?_
        refine awp_reg ?_
        refine al_run 2 (sh := []) tyOk (by simp [go_sem, hwr1] <;> rfl) ?_
        refine al_splitT 57 (by first | rfl | (simp [go_sem, hwr1] <;> rfl)) (fun h51 => ?_) (fun h51 => ?_)
        · refine al_runG (sh := []) 6 57 true true tyOk (by simp [go_sem]) rfl (by simp [go_sem]) rfl rfl (by simp [go_sem, hwr1] <;> rfl) ?_
          refine al_run 1 (sh := []) tyOk (by simp [go_sem, hwr1] <;> rfl) ?_
          refine al_nil ?_
          refine awp_cond (by first | rfl | (simp [go_sem, hwr1] <;> rfl)) (fun h52 => ?_) (fun h52 => ?_)
          · refine awp_seq ?_
            refine awp_region_run (sh := []) tyOk (by simp [go_sem, hwr1] <;> rfl) ?_
            refine awp_ret ?_
            refine then_ret ?_
            refine ends_ret (by simp [go_sem] <;> rfl) (by simp [go_sem]) ?_
            have hs : body1 ps b d = 11 := by unfold body1; simp only [eCall, hwr1, h0, h1, h34, h51, h52, Bool.true_or, Bool.or_true, Bool.false_or, Bool.or_false, Bool.true_and, Bool.and_true, Bool.false_and, Bool.and_false, Bool.not_true, Bool.not_false, Bool.false_eq_true, if_true, if_false]
            exact ⟨by simp [go_sem, hs], by simp [go_sem]⟩
          · refine awp_skip ?_
            refine awp_seq ?_
            have hgo : body1 ps b d = goB ps b d 0 (kidsR d) := by unfold body1; simp only [eCall, hwr1, h0, h1, h34, h51, h52, Bool.true_or, Bool.or_true, Bool.false_or, Bool.or_false, Bool.true_and, Bool.and_true, Bool.false_and, Bool.and_false, Bool.not_true, Bool.not_false, Bool.false_eq_true, if_true, if_false]
            refine awp_reg ?_
            refine al_run 1 (sh := []) tyOk (by simp [go_sem, hwr1] <;> rfl) ?_
            refine al_fn rfl rfl rfl (by simp [go_sem, hwr1] <;> rfl) call88 ((c_Kids d (form_two hfm)) _ (by exact hgl)) (by simp [go_sem, hwr1] <;> rfl) (by simp [go_sem, hwr1]) rfl rfl ?_
            refine al_run 1 (sh := []) tyOk (by simp [go_sem, hwr1] <;> rfl) ?_
            refine al_nil ?_
            refine awp_seq ?_
            refine awp_seq ?_
            refine awp_region_run (sh := []) tyOk (by simp [go_sem, hwr1] <;> rfl) ?_
            refine awp_block ?_
            refine awp_loop_headK σ.objs.length σ.toks.length 1 [0, 2, 4, 6, 7, 11] (fun k : Nat => [(12, .pv (.int .i64 ↑k))]) (fun k => σ) (fun k => k ≤ (kidsR d).length ∧ body1 ps b d = goB ps b d k ((kidsR d).drop k)) (fun k => (kidsR d).length - k) 0 (⟨Nat.zero_le _, by rw [hgo]; rfl⟩) ⟨by simp [go_sem, hwr1], rfl, by simp, by simp, by simp [go_sem, hwr1], fun ob h => .inl (by simpa [go_sem, hwr1] using h), by simp [go_sem]⟩ ?_
            rintro k ⟨hk, hn⟩
            refine awp_seq ?_
            refine awp_seq ?_
            refine awp_region_run (sh := []) tyOk (by simp [go_sem, hwr1] <;> rfl) ?_
            refine awp_cond (by first | rfl | (simp [go_sem, hwr1] <;> rfl)) (fun h53 => ?_) (fun h53 => ?_)
            · have hlt : k < (kidsR d).length := by simp at h53; omega
              have hw : IntKind.i64.wrap (↑k + 1) = (k : Int) + 1 := wrap_succ (by omega)
              obtain ⟨x, hx, hxm⟩ := get_lt hlt
              have hst := goB_step (ps := ps) (b := b) hx
              refine awp_skip ?_
              refine awp_seq ?_
              refine awp_block ?_
              refine awp_seq ?_
              refine awp_region_run (sh := []) tyOk (by simp [go_sem, hwr1, hx] <;> rfl) ?_
              refine awp_seq ?_
              refine awp_seq ?_
              refine awp_reg ?_
              refine al_run 3 (sh := []) tyOk (by simp [go_sem, hwr1, hx] <;> rfl) ?_
              refine al_splitT 76 (by first | rfl | (simp [go_sem, hwr1, hx] <;> rfl)) (fun h54 => ?_) (fun h54 => ?_)
              · have hA := h54
                refine al_runG (sh := []) 2 76 true true tyOk (by simp [go_sem]) rfl (by simp [go_sem]) rfl rfl (by simp [go_sem, hwr1, hx] <;> rfl) ?_
                refine al_run 1 (sh := []) tyOk (by simp [go_sem, hwr1, hx] <;> rfl) ?_
                refine al_nil ?_
                refine awp_cond (by first | rfl | (simp [go_sem, hwr1, hx] <;> rfl)) (fun h55 => ?_) (fun h55 => ?_)
                · have h2m := form_two hfm (.inl (of_decide_eq_true hA))
                  have hy1 := get_d1 h2m
                  have hin : inb b d k = b ++ [(d1 d.kids).text] := inb_yes hA h55
                  have hbb : (b.length + 1) * 16 ≤ 140737488355328 := by omega
                  have hb16 : b.length * 16 ≤ 140737488355328 := by omega
                  refine awp_regDP tyOk tySz 9 (by kernel_rfl) (by decide) ?_
                  refine ul_run 9 (by simp [go_sem, hwr1, hx, hy1, hin, hbb, hb16, allSz_str] <;> rfl) ?_
                  refine ul_nil ?_
                  refine al_run 2 (sh := []) tyOk (by simp [go_sem, hwr1, hx, hy1, hin, hbb, hb16, allSz_str] <;> rfl) ?_
                  refine al_nil ?_
                  refine awp_seq ?_
                  refine awp_reg ?_
                  refine al_run 6 (sh := []) tyOk (by simp [go_sem, hwr1, hx, hy1, hin, hbb, hb16, allSz_str] <;> rfl) ?_
                  refine al_fn rfl rfl rfl (by simp [go_sem, hwr1, hx, hy1, hin, hbb, hb16, allSz_str] <;> rfl) call44 (ih x (kidsR_mem hxm) (inb b d k) _ (by exact hgl) (formed_kids hf (kidsR_mem hxm)) (by have := D.size_kid_lt (kidsR_mem hxm); have := inb_len b d k; omega)) (by simp [go_sem, hwr1, hx, hy1, hin, hbb, hb16, allSz_str] <;> rfl) (by simp [go_sem, hwr1, hx, hy1, hin, hbb, hb16, allSz_str]) rfl rfl ?_
                  refine al_run 1 (sh := []) tyOk (by simp [go_sem, hwr1, hx, hy1, hin, hbb, hb16, allSz_str] <;> rfl) ?_
                  refine al_nil ?_
                  refine awp_seq ?_
                  refine awp_region_run (sh := []) tyOk (by simp [go_sem, hwr1, hx, hy1, hin, hbb, hb16, allSz_str] <;> rfl) ?_
                  refine awp_cond (by first | rfl | (simp [go_sem, hwr1, hx, hy1, hin, hbb, hb16, allSz_str] <;> rfl)) (fun h56 => ?_) (fun h56 => ?_)
                  · refine awp_seq ?_
                    refine awp_region_run (sh := []) tyOk (by simp [go_sem, hwr1, hx, hy1, hin, hbb, hb16, allSz_str] <;> rfl) ?_
                    refine awp_ret ?_
                    refine inBlock_ret ?_
                    refine then_ret ?_
                    refine then_ret ?_
                    refine inBlock_ret ?_
                    refine then_ret ?_
                    refine ends_ret (by simp [go_sem] <;> rfl) (by simp [go_sem]) ?_
                    have hs : body1 ps b d = cexpr ps (inb b d k) x := by rw [hn, hst]; simp only [Bool.not_true, hwr1, hx, hy1, hin, hbb, hb16, allSz_str, h0, h1, h34, h51, h52, h53, h54, h55, hin, h56, Bool.true_or, Bool.or_true, Bool.false_or, Bool.or_false, Bool.true_and, Bool.and_true, Bool.false_and, Bool.and_false, Bool.not_true, Bool.not_false, Bool.false_eq_true, if_true, if_false]
                    exact ⟨by simp [go_sem, hs, hwr1, hx, hy1, hin, hbb, hb16, allSz_str, h0, h1, h34, h51, h52, h53, h54, h55, hin, h56], by simp [go_sem]⟩
                  · refine awp_skip ?_
                    refine awp_region_run (sh := []) tyOk (by simp [go_sem, hwr1, hx, hy1, hin, hbb, hb16, allSz_str] <;> rfl) ?_
                    exact next_intro (k + 1) σ.objs.length σ.toks.length 1 (⟨hlt, by rw [hn, hst]; simp only [h0, h1, h34, h51, h52, h53, h54, h55, hin, h56, Bool.true_or, Bool.or_true, Bool.false_or, Bool.or_false, Bool.true_and, Bool.and_true, Bool.false_and, Bool.and_false, Bool.not_true, Bool.not_false, Bool.false_eq_true, if_true, if_false]⟩) (by omega) ⟨by simp [go_sem, hwr1, hx, hy1, hin, hbb, hb16, allSz_str, hw], rfl, by simp, by simp, by simp [go_sem, hwr1, hx, hy1, hin, hbb, hb16, allSz_str, hw], fun ob h => .inl (by simpa [go_sem, hwr1, hx, hy1, hin, hbb, hb16, allSz_str, hw] using h), by simp [go_sem]⟩
                · have hin : inb b d k = b := inb_other h55
                  refine awp_skip ?_
                  refine awp_seq ?_
                  refine awp_reg ?_
                  refine al_run 6 (sh := []) tyOk (by simp [go_sem, hwr1, hx, hin] <;> rfl) ?_
                  refine al_fn rfl rfl rfl (by simp [go_sem, hwr1, hx, hin] <;> rfl) call44 (ih x (kidsR_mem hxm) (inb b d k) _ (by exact hgl) (formed_kids hf (kidsR_mem hxm)) (by have := D.size_kid_lt (kidsR_mem hxm); have := inb_len b d k; omega)) (by simp [go_sem, hwr1, hx, hin] <;> rfl) (by simp [go_sem, hwr1, hx, hin]) rfl rfl ?_
                  refine al_run 1 (sh := []) tyOk (by simp [go_sem, hwr1, hx, hin] <;> rfl) ?_
                  refine al_nil ?_
                  refine awp_seq ?_
                  refine awp_region_run (sh := []) tyOk (by simp [go_sem, hwr1, hx, hin] <;> rfl) ?_
                  refine awp_cond (by first | rfl | (simp [go_sem, hwr1, hx, hin] <;> rfl)) (fun h57 => ?_) (fun h57 => ?_)
                  · refine awp_seq ?_
                    refine awp_region_run (sh := []) tyOk (by simp [go_sem, hwr1, hx, hin] <;> rfl) ?_
                    refine awp_ret ?_
                    refine inBlock_ret ?_
                    refine then_ret ?_
                    refine then_ret ?_
                    refine inBlock_ret ?_
                    refine then_ret ?_
                    refine ends_ret (by simp [go_sem] <;> rfl) (by simp [go_sem]) ?_
                    have hs : body1 ps b d = cexpr ps (inb b d k) x := by rw [hn, hst]; simp only [Bool.not_true, hwr1, hx, hin, h0, h1, h34, h51, h52, h53, h54, h55, hin, h57, Bool.true_or, Bool.or_true, Bool.false_or, Bool.or_false, Bool.true_and, Bool.and_true, Bool.false_and, Bool.and_false, Bool.not_true, Bool.not_false, Bool.false_eq_true, if_true, if_false]
                    exact ⟨by simp [go_sem, hs, hwr1, hx, hin, h0, h1, h34, h51, h52, h53, h54, h55, hin, h57], by simp [go_sem]⟩
                  · refine awp_skip ?_
                    refine awp_region_run (sh := []) tyOk (by simp [go_sem, hwr1, hx, hin] <;> rfl) ?_
                    exact next_intro (k + 1) σ.objs.length σ.toks.length 1 (⟨hlt, by rw [hn, hst]; simp only [h0, h1, h34, h51, h52, h53, h54, h55, hin, h57, Bool.true_or, Bool.or_true, Bool.false_or, Bool.or_false, Bool.true_and, Bool.and_true, Bool.false_and, Bool.and_false, Bool.not_true, Bool.not_false, Bool.false_eq_true, if_true, if_false]⟩) (by omega) ⟨by simp [go_sem, hwr1, hx, hin, hw], rfl, by simp, by simp, by simp [go_sem, hwr1, hx, hin, hw], fun ob h => .inl (by simpa [go_sem, hwr1, hx, hin, hw] using h), by simp [go_sem]⟩
              · have hin : inb b d k = b := inb_no h54
                refine al_skip 2 76 true (by simp [go_sem]) (by simp [go_sem]) rfl rfl ?_
                refine al_run 1 (sh := []) tyOk (by simp [go_sem, hwr1, hx, hin] <;> rfl) ?_
                refine al_nil ?_
                refine awp_cond (b := false) (by simp [go_sem, hwr1, hx, hin, h0, h1, h34, h51, h52, h53, h54, hin]) (fun h => ?_) (fun h => ?_)
                · cases h
                refine awp_skip ?_
                refine awp_seq ?_
                refine awp_reg ?_
                refine al_run 6 (sh := []) tyOk (by simp [go_sem, hwr1, hx, hin] <;> rfl) ?_
                refine al_fn rfl rfl rfl (by simp [go_sem, hwr1, hx, hin] <;> rfl) call44 (ih x (kidsR_mem hxm) (inb b d k) _ (by exact hgl) (formed_kids hf (kidsR_mem hxm)) (by have := D.size_kid_lt (kidsR_mem hxm); have := inb_len b d k; omega)) (by simp [go_sem, hwr1, hx, hin] <;> rfl) (by simp [go_sem, hwr1, hx, hin]) rfl rfl ?_
                refine al_run 1 (sh := []) tyOk (by simp [go_sem, hwr1, hx, hin] <;> rfl) ?_
                refine al_nil ?_
                refine awp_seq ?_
                refine awp_region_run (sh := []) tyOk (by simp [go_sem, hwr1, hx, hin] <;> rfl) ?_
                refine awp_cond (by first | rfl | (simp [go_sem, hwr1, hx, hin] <;> rfl)) (fun h58 => ?_) (fun h58 => ?_)
                · refine awp_seq ?_
                  refine awp_region_run (sh := []) tyOk (by simp [go_sem, hwr1, hx, hin] <;> rfl) ?_
                  refine awp_ret ?_
                  refine inBlock_ret ?_
                  refine then_ret ?_
                  refine then_ret ?_
                  refine inBlock_ret ?_
                  refine then_ret ?_
                  refine ends_ret (by simp [go_sem] <;> rfl) (by simp [go_sem]) ?_
                  have hs : body1 ps b d = cexpr ps (inb b d k) x := by rw [hn, hst]; simp only [Bool.not_true, hwr1, hx, hin, h0, h1, h34, h51, h52, h53, h54, hin, h58, Bool.true_or, Bool.or_true, Bool.false_or, Bool.or_false, Bool.true_and, Bool.and_true, Bool.false_and, Bool.and_false, Bool.not_true, Bool.not_false, Bool.false_eq_true, if_true, if_false]
                  exact ⟨by simp [go_sem, hs, hwr1, hx, hin, h0, h1, h34, h51, h52, h53, h54, hin, h58], by simp [go_sem]⟩
                · refine awp_skip ?_
                  refine awp_region_run (sh := []) tyOk (by simp [go_sem, hwr1, hx, hin] <;> rfl) ?_
                  exact next_intro (k + 1) σ.objs.length σ.toks.length 1 (⟨hlt, by rw [hn, hst]; simp only [h0, h1, h34, h51, h52, h53, h54, hin, h58, Bool.true_or, Bool.or_true, Bool.false_or, Bool.or_false, Bool.true_and, Bool.and_true, Bool.false_and, Bool.and_false, Bool.not_true, Bool.not_false, Bool.false_eq_true, if_true, if_false]⟩) (by omega) ⟨by simp [go_sem, hwr1, hx, hin, hw], rfl, by simp, by simp, by simp [go_sem, hwr1, hx, hin, hw], fun ob h => .inl (by simpa [go_sem, hwr1, hx, hin, hw] using h), by simp [go_sem]⟩
            · have hke : k = (kidsR d).length := by simp at h53; omega
              subst hke
              refine awp_exit ?_
              refine then_exit ?_
              refine then_exit ?_
              refine inBlock_hit ?_
              refine awp_seq ?_
              refine awp_region_run (sh := []) tyOk (by simp [go_sem, hwr1] <;> rfl) ?_
              refine awp_ret ?_
              refine ends_ret (by simp [go_sem] <;> rfl) (by simp [go_sem]) ?_
              have hs : body1 ps b d = 0 := by rw [hn, List.drop_length]; rfl
              exact ⟨by simp [go_sem, hs], by simp [go_sem]⟩
        · refine al_skip 6 57 true (by simp [go_sem]) (by simp [go_sem]) rfl rfl ?_
          refine al_run 1 (sh := []) tyOk (by simp [go_sem, hwr1] <;> rfl) ?_
          refine al_nil ?_
          refine awp_cond (b := false) (by simp [go_sem, hwr1, h0, h1, h34, h51]) (fun h => ?_) (fun h => ?_)
          · cases h
          refine awp_skip ?_
          refine awp_seq ?_
          have hgo : body1 ps b d = goB ps b d 0 (kidsR d) := by unfold body1; simp only [eCall, hwr1, h0, h1, h34, h51, Bool.true_or, Bool.or_true, Bool.false_or, Bool.or_false, Bool.true_and, Bool.and_true, Bool.false_and, Bool.and_false, Bool.not_true, Bool.not_false, Bool.false_eq_true, if_true, if_false]
          refine awp_reg ?_
          refine al_run 1 (sh := []) tyOk (by simp [go_sem, hwr1] <;> rfl) ?_
          refine al_fn rfl rfl rfl (by simp [go_sem, hwr1] <;> rfl) call88 ((c_Kids d (form_two hfm)) _ (by exact hgl)) (by simp [go_sem, hwr1] <;> rfl) (by simp [go_sem, hwr1]) rfl rfl ?_
          refine al_run 1 (sh := []) tyOk (by simp [go_sem, hwr1] <;> rfl) ?_
          refine al_nil ?_
          refine awp_seq ?_
          refine awp_seq ?_
          refine awp_region_run (sh := []) tyOk (by simp [go_sem, hwr1] <;> rfl) ?_
          refine awp_block ?_
          refine awp_loop_headK σ.objs.length σ.toks.length 1 [0, 2, 4, 6, 7, 11] (fun k : Nat => [(12, .pv (.int .i64 ↑k))]) (fun k => σ) (fun k => k ≤ (kidsR d).length ∧ body1 ps b d = goB ps b d k ((kidsR d).drop k)) (fun k => (kidsR d).length - k) 0 (⟨Nat.zero_le _, by rw [hgo]; rfl⟩) ⟨by simp [go_sem, hwr1], rfl, by simp, by simp, by simp [go_sem, hwr1], fun ob h => .inl (by simpa [go_sem, hwr1] using h), by simp [go_sem]⟩ ?_
          rintro k ⟨hk, hn⟩
          refine awp_seq ?_
          refine awp_seq ?_
          refine awp_region_run (sh := []) tyOk (by simp [go_sem, hwr1] <;> rfl) ?_
          refine awp_cond (by first | rfl | (simp [go_sem, hwr1] <;> rfl)) (fun h59 => ?_) (fun h59 => ?_)
          · have hlt : k < (kidsR d).length := by simp at h59; omega
            have hw : IntKind.i64.wrap (↑k + 1) = (k : Int) + 1 := wrap_succ (by omega)
            obtain ⟨x, hx, hxm⟩ := get_lt hlt
            have hst := goB_step (ps := ps) (b := b) hx
            refine awp_skip ?_
            refine awp_seq ?_
            refine awp_block ?_
            refine awp_seq ?_
            refine awp_region_run (sh := []) tyOk (by simp [go_sem, hwr1, hx] <;> rfl) ?_
            refine awp_seq ?_
            refine awp_seq ?_
            refine awp_reg ?_
            refine al_run 3 (sh := []) tyOk (by simp [go_sem, hwr1, hx] <;> rfl) ?_
            refine al_splitT 76 (by first | rfl | (simp [go_sem, hwr1, hx] <;> rfl)) (fun h60 => ?_) (fun h60 => ?_)
            · have hA := h60
              refine al_runG (sh := []) 2 76 true true tyOk (by simp [go_sem]) rfl (by simp [go_sem]) rfl rfl (by simp [go_sem, hwr1, hx] <;> rfl) ?_
              refine al_run 1 (sh := []) tyOk (by simp [go_sem, hwr1, hx] <;> rfl) ?_
              refine al_nil ?_
              refine awp_cond (by first | rfl | (simp [go_sem, hwr1, hx] <;> rfl)) (fun h61 => ?_) (fun h61 => ?_)
              · have h2m := form_two hfm (.inl (of_decide_eq_true hA))
                have hy1 := get_d1 h2m
                have hin : inb b d k = b ++ [(d1 d.kids).text] := inb_yes hA h61
                have hbb : (b.length + 1) * 16 ≤ 140737488355328 := by omega
                have hb16 : b.length * 16 ≤ 140737488355328 := by omega
                refine awp_regDP tyOk tySz 9 (by kernel_rfl) (by decide) ?_
                refine ul_run 9 (by simp [go_sem, hwr1, hx, hy1, hin, hbb, hb16, allSz_str] <;> rfl) ?_
                refine ul_nil ?_
                refine al_run 2 (sh := []) tyOk (by simp [go_sem, hwr1, hx, hy1, hin, hbb, hb16, allSz_str] <;> rfl) ?_
                refine al_nil ?_
                refine awp_seq ?_
                refine awp_reg ?_
                refine al_run 6 (sh := []) tyOk (by simp [go_sem, hwr1, hx, hy1, hin, hbb, hb16, allSz_str] <;> rfl) ?_
                refine al_fn rfl rfl rfl (by simp [go_sem, hwr1, hx, hy1, hin, hbb, hb16, allSz_str] <;> rfl) call44 (ih x (kidsR_mem hxm) (inb b d k) _ (by exact hgl) (formed_kids hf (kidsR_mem hxm)) (by have := D.size_kid_lt (kidsR_mem hxm); have := inb_len b d k; omega)) (by simp [go_sem, hwr1, hx, hy1, hin, hbb, hb16, allSz_str] <;> rfl) (by simp [go_sem, hwr1, hx, hy1, hin, hbb, hb16, allSz_str]) rfl rfl ?_
                refine al_run 1 (sh := []) tyOk (by simp [go_sem, hwr1, hx, hy1, hin, hbb, hb16, allSz_str] <;> rfl) ?_
                refine al_nil ?_
                refine awp_seq ?_
                refine awp_region_run (sh := []) tyOk (by simp [go_sem, hwr1, hx, hy1, hin, hbb, hb16, allSz_str] <;> rfl) ?_
                refine awp_cond (by first | rfl | (simp [go_sem, hwr1, hx, hy1, hin, hbb, hb16, allSz_str] <;> rfl)) (fun h62 => ?_) (fun h62 => ?_)
                · refine awp_seq ?_
                  refine awp_region_run (sh := []) tyOk (by simp [go_sem, hwr1, hx, hy1, hin, hbb, hb16, allSz_str] <;> rfl) ?_
                  refine awp_ret ?_
                  refine inBlock_ret ?_
                  refine then_ret ?_
                  refine then_ret ?_
                  refine inBlock_ret ?_
                  refine then_ret ?_
                  refine ends_ret (by simp [go_sem] <;> rfl) (by simp [go_sem]) ?_
                  have hs : body1 ps b d = cexpr ps (inb b d k) x := by rw [hn, hst]; simp only [Bool.not_true, hwr1, hx, hy1, hin, hbb, hb16, allSz_str, h0, h1, h34, h51, h59, h60, h61, hin, h62, Bool.true_or, Bool.or_true, Bool.false_or, Bool.or_false, Bool.true_and, Bool.and_true, Bool.false_and, Bool.and_false, Bool.not_true, Bool.not_false, Bool.false_eq_true, if_true, if_false]
                  exact ⟨by simp [go_sem, hs, hwr1, hx, hy1, hin, hbb, hb16, allSz_str, h0, h1, h34, h51, h59, h60, h61, hin, h62], by simp [go_sem]⟩
                · refine awp_skip ?_
                  refine awp_region_run (sh := []) tyOk (by simp [go_sem, hwr1, hx, hy1, hin, hbb, hb16, allSz_str] <;> rfl) ?_
                  exact next_intro (k + 1) σ.objs.length σ.toks.length 1 (⟨hlt, by rw [hn, hst]; simp only [h0, h1, h34, h51, h59, h60, h61, hin, h62, Bool.true_or, Bool.or_true, Bool.false_or, Bool.or_false, Bool.true_and, Bool.and_true, Bool.false_and, Bool.and_false, Bool.not_true, Bool.not_false, Bool.false_eq_true, if_true, if_false]⟩) (by omega) ⟨by simp [go_sem, hwr1, hx, hy1, hin, hbb, hb16, allSz_str, hw], rfl, by simp, by simp, by simp [go_sem, hwr1, hx, hy1, hin, hbb, hb16, allSz_str, hw], fun ob h => .inl (by simpa [go_sem, hwr1, hx, hy1, hin, hbb, hb16, allSz_str, hw] using h), by simp [go_sem]⟩
              · have hin : inb b d k = b := inb_other h61
                refine awp_skip ?_
                refine awp_seq ?_
                refine awp_reg ?_
                refine al_run 6 (sh := []) tyOk (by simp [go_sem, hwr1, hx, hin] <;> rfl) ?_
                refine al_fn rfl rfl rfl (by simp [go_sem, hwr1, hx, hin] <;> rfl) call44 (ih x (kidsR_mem hxm) (inb b d k) _ (by exact hgl) (formed_kids hf (kidsR_mem hxm)) (by have := D.size_kid_lt (kidsR_mem hxm); have := inb_len b d k; omega)) (by simp [go_sem, hwr1, hx, hin] <;> rfl) (by simp [go_sem, hwr1, hx, hin]) rfl rfl ?_
                refine al_run 1 (sh := []) tyOk (by simp [go_sem, hwr1, hx, hin] <;> rfl) ?_
                refine al_nil ?_
                refine awp_seq ?_
                refine awp_region_run (sh := []) tyOk (by simp [go_sem, hwr1, hx, hin] <;> rfl) ?_
                refine awp_cond (by first | rfl | (simp [go_sem, hwr1, hx, hin] <;> rfl)) (fun h63 => ?_) (fun h63 => ?_)
                · refine awp_seq ?_
                  refine awp_region_run (sh := []) tyOk (by simp [go_sem, hwr1, hx, hin] <;> rfl) ?_
                  refine awp_ret ?_
                  refine inBlock_ret ?_
                  refine then_ret ?_
                  refine then_ret ?_
                  refine inBlock_ret ?_
                  refine then_ret ?_
                  refine ends_ret (by simp [go_sem] <;> rfl) (by simp [go_sem]) ?_
                  have hs : body1 ps b d = cexpr ps (inb b d k) x := by rw [hn, hst]; simp only [Bool.not_true, hwr1, hx, hin, h0, h1, h34, h51, h59, h60, h61, hin, h63, Bool.true_or, Bool.or_true, Bool.false_or, Bool.or_false, Bool.true_and, Bool.and_true, Bool.false_and, Bool.and_false, Bool.not_true, Bool.not_false, Bool.false_eq_true, if_true, if_false]
                  exact ⟨by simp [go_sem, hs, hwr1, hx, hin, h0, h1, h34, h51, h59, h60, h61, hin, h63], by simp [go_sem]⟩
                · refine awp_skip ?_
                  refine awp_region_run (sh := []) tyOk (by simp [go_sem, hwr1, hx, hin] <;> rfl) ?_
                  exact next_intro (k + 1) σ.objs.length σ.toks.length 1 (⟨hlt, by rw [hn, hst]; simp only [h0, h1, h34, h51, h59, h60, h61, hin, h63, Bool.true_or, Bool.or_true, Bool.false_or, Bool.or_false, Bool.true_and, Bool.and_true, Bool.false_and, Bool.and_false, Bool.not_true, Bool.not_false, Bool.false_eq_true, if_true, if_false]⟩) (by omega) ⟨by simp [go_sem, hwr1, hx, hin, hw], rfl, by simp, by simp, by simp [go_sem, hwr1, hx, hin, hw], fun ob h => .inl (by simpa [go_sem, hwr1, hx, hin, hw] using h), by simp [go_sem]⟩
            · have hin : inb b d k = b := inb_no h60
              refine al_skip 2 76 true (by simp [go_sem]) (by simp [go_sem]) rfl rfl ?_
              refine al_run 1 (sh := []) tyOk (by simp [go_sem, hwr1, hx, hin] <;> rfl) ?_
              refine al_nil ?_
              refine awp_cond (b := false) (by simp [go_sem, hwr1, hx, hin, h0, h1, h34, h51, h59, h60, hin]) (fun h => ?_) (fun h => ?_)
              · cases h
              refine awp_skip ?_
              refine awp_seq ?_
              refine awp_reg ?_
              refine al_run 6 (sh := []) tyOk (by simp [go_sem, hwr1, hx, hin] <;> rfl) ?_
              refine al_fn rfl rfl rfl (by simp [go_sem, hwr1, hx, hin] <;> rfl) call44 (ih x (kidsR_mem hxm) (inb b d k) _ (by exact hgl) (formed_kids hf (kidsR_mem hxm)) (by have := D.size_kid_lt (kidsR_mem hxm); have := inb_len b d k; omega)) (by simp [go_sem, hwr1, hx, hin] <;> rfl) (by simp [go_sem, hwr1, hx, hin]) rfl rfl ?_
              refine al_run 1 (sh := []) tyOk (by simp [go_sem, hwr1, hx, hin] <;> rfl) ?_
              refine al_nil ?_
              refine awp_seq ?_
              refine awp_region_run (sh := []) tyOk (by simp [go_sem, hwr1, hx, hin] <;> rfl) ?_
              refine awp_cond (by first | rfl | (simp [go_sem, hwr1, hx, hin] <;> rfl)) (fun h64 => ?_) (fun h64 => ?_)
              · refine awp_seq ?_
                refine awp_region_run (sh := []) tyOk (by simp [go_sem, hwr1, hx, hin] <;> rfl) ?_
                refine awp_ret ?_
                refine inBlock_ret ?_
                refine then_ret ?_
                refine then_ret ?_
                refine inBlock_ret ?_
                refine then_ret ?_
                refine ends_ret (by simp [go_sem] <;> rfl) (by simp [go_sem]) ?_
                have hs : body1 ps b d = cexpr ps (inb b d k) x := by rw [hn, hst]; simp only [Bool.not_true, hwr1, hx, hin, h0, h1, h34, h51, h59, h60, hin, h64, Bool.true_or, Bool.or_true, Bool.false_or, Bool.or_false, Bool.true_and, Bool.and_true, Bool.false_and, Bool.and_false, Bool.not_true, Bool.not_false, Bool.false_eq_true, if_true, if_false]
                exact ⟨by simp [go_sem, hs, hwr1, hx, hin, h0, h1, h34, h51, h59, h60, hin, h64], by simp [go_sem]⟩
              · refine awp_skip ?_
                refine awp_region_run (sh := []) tyOk (by simp [go_sem, hwr1, hx, hin] <;> rfl) ?_
                exact next_intro (k + 1) σ.objs.length σ.toks.length 1 (⟨hlt, by rw [hn, hst]; simp only [h0, h1, h34, h51, h59, h60, hin, h64, Bool.true_or, Bool.or_true, Bool.false_or, Bool.or_false, Bool.true_and, Bool.and_true, Bool.false_and, Bool.and_false, Bool.not_true, Bool.not_false, Bool.false_eq_true, if_true, if_false]⟩) (by omega) ⟨by simp [go_sem, hwr1, hx, hin, hw], rfl, by simp, by simp, by simp [go_sem, hwr1, hx, hin, hw], fun ob h => .inl (by simpa [go_sem, hwr1, hx, hin, hw] using h), by simp [go_sem]⟩
          · have hke : k = (kidsR d).length := by simp at h59; omega
            subst hke
            refine awp_exit ?_
            refine then_exit ?_
            refine then_exit ?_
            refine inBlock_hit ?_
            refine awp_seq ?_
            refine awp_region_run (sh := []) tyOk (by simp [go_sem, hwr1] <;> rfl) ?_
            refine awp_ret ?_
            refine ends_ret (by simp [go_sem] <;> rfl) (by simp [go_sem]) ?_
            have hs : body1 ps b d = 0 := by rw [hn, List.drop_length]; rfl
            exact ⟨by simp [go_sem, hs], by simp [go_sem]⟩

end Go.Proofs.YtienmmfjjffjaaaGreatDoor

/- The specification: Check. -/
namespace Go.Proofs.YtienmmfjjffjaaaGreatDoor
open Go Go.Aw
variable {kr : ResO}
theorem look_seen17 {s : St} {o : Nat} {ps : List (D × Int)} (ho : s.σ.objs[o]? = some (.map (sK ps) (sV ps))) (x : ByteArray) :
    lookAV ty s 70 (.map o) (.pv (.str x)) false = some (.pv (.bool (ps.any fun p => decide (x = keyS p.1)))) := look_str rfl rfl rfl rfl rfl rfl rfl ho x
theorem put_seen17 {s : St} {o : Nat} {ps : List (D × Int)} (ho : s.σ.objs[o]? = some (.map (sK ps) (sV ps))) (x : ByteArray) (hn : (ps.any fun p => decide (x = keyS p.1)) = false) :
    putAV ty s 70 (.map o) (.pv (.str x)) (.pv (.bool true)) = some { s.σ with objs := s.σ.objs.set o (.map (sK ps ++ [.str x]) (sV ps ++ [.bool true])) } := put_str rfl rfl rfl rfl ho x hn

set_option maxHeartbeats 1000000 in
theorem c_refCheck (p : D) (hp : p.size ≤ 900000000) : Pur Tryz.prog (GL kr) 10 [.pv (enc p)] (.tuple [.pv (.slice ((rdefs p).map encDf)), .pv (.int .i64 (fcheck p))]) := by
  have hkl := D.kids_length_lt p
  refine pur_of fun σ hgl => ?_
  refine acalls_of tyOk Tryz.func10 rfl (by simp [Tryz.f10]) ?_
  refine awp_seq ?_
  refine awp_region_run (sh := []) tyOk (by simp [go_sem] <;> rfl) ?_
  refine awp_seq ?_
  refine awp_seq ?_
  refine awp_reg ?_
  refine al_run 1 (sh := []) tyOk (by simp [go_sem] <;> rfl) ?_
  refine al_fn rfl rfl rfl (by simp [go_sem] <;> rfl) call29 ((c_Check01 p (by omega)) _ (by exact hgl)) (by simp [go_sem] <;> rfl) (by simp [go_sem]) rfl rfl ?_
  refine al_run 1 (sh := []) tyOk (by simp [go_sem] <;> rfl) ?_
  refine al_nil ?_
  refine awp_seq ?_
  refine awp_region_run (sh := []) tyOk (by simp [go_sem] <;> rfl) ?_
  refine awp_cond (by first | rfl | (simp [go_sem] <;> rfl)) (fun h0 => ?_) (fun h0 => ?_)
  · refine awp_seq ?_
    refine awp_region_run (sh := []) tyOk (by simp [go_sem] <;> rfl) ?_
    refine awp_ret ?_
    refine then_ret ?_
    refine ends_ret (by simp [go_sem] <;> rfl) (by simp [go_sem]) ?_
    have hh : heads p = (dcheck p, []) := by unfold heads; simp only [Bool.not_true, h0, Bool.true_or, Bool.or_true, Bool.false_or, Bool.or_false, Bool.true_and, Bool.and_true, Bool.false_and, Bool.and_false, Bool.not_true, Bool.not_false, Bool.false_eq_true, if_true, if_false]
    have hs : fcheck p = dcheck p := by unfold fcheck; rw [hh]; simp only [h0, if_true]
    have hr : rdefs p = [] := by unfold rdefs; rw [hs]; simp only [h0, if_true]
    exact ⟨by simp [go_sem, hs, hr], by simp [go_sem]⟩
  · refine awp_skip ?_
    refine awp_seq ?_
    refine awp_seq ?_
    refine awp_reg ?_
    refine al_run 4 (sh := []) tyOk (by simp [go_sem] <;> rfl) ?_
    refine al_splitT 21 (by first | rfl | (simp [go_sem] <;> rfl)) (fun h1 => ?_) (fun h1 => ?_)
    · refine al_skip 4 21 false (by simp [go_sem]) (by simp [go_sem]) rfl rfl ?_
      refine al_run 1 (sh := []) tyOk (by simp [go_sem] <;> rfl) ?_
      refine al_nil ?_
      refine awp_cond (b := true) (by simp [go_sem, h0, h1]) (fun h => ?_) (fun h => ?_)
      rotate_left
      · cases h
      refine awp_seq ?_
      refine awp_region_run (sh := []) tyOk (by simp [go_sem] <;> rfl) ?_
      refine awp_ret ?_
      refine then_ret ?_
      refine ends_ret (by simp [go_sem] <;> rfl) (by simp [go_sem]) ?_
      have hh : heads p = (4, []) := by unfold heads; simp only [Bool.not_true, h0, h1, Bool.true_or, Bool.or_true, Bool.false_or, Bool.or_false, Bool.true_and, Bool.and_true, Bool.false_and, Bool.and_false, Bool.not_true, Bool.not_false, Bool.false_eq_true, if_true, if_false]
      have hs : fcheck p = 4 := by unfold fcheck; rw [hh]; rfl
      have hr : rdefs p = [] := by unfold rdefs; rw [hs]; rfl
      exact ⟨by simp [go_sem, hs, hr], by simp [go_sem]⟩
    · refine al_runG (sh := []) 4 21 false false tyOk (by simp [go_sem]) rfl (by simp [go_sem]) rfl rfl (by simp [go_sem] <;> rfl) ?_
      refine al_run 1 (sh := []) tyOk (by simp [go_sem] <;> rfl) ?_
      refine al_nil ?_
      refine awp_cond (by first | rfl | (simp [go_sem] <;> rfl)) (fun h2 => ?_) (fun h2 => ?_)
      · refine awp_seq ?_
        refine awp_region_run (sh := []) tyOk (by simp [go_sem] <;> rfl) ?_
        refine awp_ret ?_
        refine then_ret ?_
        refine ends_ret (by simp [go_sem] <;> rfl) (by simp [go_sem]) ?_
        have hh : heads p = (4, []) := by unfold heads; simp only [Bool.not_true, h0, h1, h2, Bool.true_or, Bool.or_true, Bool.false_or, Bool.or_false, Bool.true_and, Bool.and_true, Bool.false_and, Bool.and_false, Bool.not_true, Bool.not_false, Bool.false_eq_true, if_true, if_false]
        have hs : fcheck p = 4 := by unfold fcheck; rw [hh]; rfl
        have hr : rdefs p = [] := by unfold rdefs; rw [hs]; rfl
        exact ⟨by simp [go_sem, hs, hr], by simp [go_sem]⟩
      · refine awp_skip ?_
        refine awp_seq ?_
        refine awp_seq ?_
        refine awp_region_run (sh := []) tyOk (by simp [go_sem] <;> rfl) ?_
        refine awp_cond (by first | rfl | (simp [go_sem] <;> rfl)) (fun h3 => ?_) (fun h3 => ?_)
        · refine awp_seq ?_
          refine awp_region_run (sh := []) tyOk (by simp [go_sem] <;> rfl) ?_
          refine awp_ret ?_
          refine then_ret ?_
          refine ends_ret (by simp [go_sem] <;> rfl) (by simp [go_sem]) ?_
          have hh : heads p = (3, []) := by unfold heads; simp only [Bool.not_true, h0, h1, h2, h3, Bool.true_or, Bool.or_true, Bool.false_or, Bool.or_false, Bool.true_and, Bool.and_true, Bool.false_and, Bool.and_false, Bool.not_true, Bool.not_false, Bool.false_eq_true, if_true, if_false]
          have hs : fcheck p = 3 := by unfold fcheck; rw [hh]; rfl
          have hr : rdefs p = [] := by unfold rdefs; rw [hs]; rfl
          exact ⟨by simp [go_sem, hs, hr], by simp [go_sem]⟩
        · refine awp_skip ?_
          refine awp_seq ?_
          refine awp_region_run (sh := []) tyOk (by simp [go_sem] <;> rfl) ?_
          refine awp_seq ?_
          refine awp_region_run (sh := []) tyOk (by simp [go_sem] <;> rfl) ?_
          refine awp_seq ?_
          refine awp_seq ?_
          refine awp_region_run (sh := []) tyOk (by simp [go_sem] <;> rfl) ?_
          have hhd : heads p = headsGo [] p.kids := by unfold heads; simp only [Bool.not_true, h0, h1, h2, h3, Bool.true_or, Bool.or_true, Bool.false_or, Bool.or_false, Bool.true_and, Bool.and_true, Bool.false_and, Bool.and_false, Bool.not_true, Bool.not_false, Bool.false_eq_true, if_true, if_false]
          have hfp : formed p = true := dcheck_formed (by simpa using h0)
          refine awp_adopt' 5 41 9 (by simp [go_sem] <;> rfl) ?_
          refine awp_block ?_
          refine awp_loop_headK (σ.objs.length + 1) (σ.toks.length + 1) 1 [1, 2, 3, 6] (fun k : Nat => [(5, .acc ((dfK p.kids k).map encDf) σ.toks.length), (7, .pv (.int .i64 ↑k))]) (fun k => withS σ (hps p.kids (k)) 41 (k)) (fun k => k ≤ p.kids.length ∧ headsGo [] p.kids = headsGo (hps p.kids k) (p.kids.drop k) ∧ LabOk (hps p.kids k)) (fun k => p.kids.length - k) 0 (⟨Nat.zero_le _, rfl, fun q hq => by simp [hps] at hq⟩) ⟨by show withS σ (hps p.kids (0)) 41 (0) = _; rw [hps_zero]; simp [withS, sK, sV, go_sem, List.take_of_length_le], rfl, by simp, by simp, by simp [go_sem, dfK_zero], fun ob h => withS_mem h, by simp [go_sem]⟩ ?_
          rintro k ⟨hk, hn, hlo⟩
          refine awp_seq ?_
          refine awp_seq ?_
          refine awp_region_run (sh := []) tyOk (by simp [go_sem] <;> rfl) ?_
          refine awp_cond (by first | rfl | (simp [go_sem] <;> rfl)) (fun h4 => ?_) (fun h4 => ?_)
          · have hlt : k < p.kids.length := by simp at h4; omega
            have hw : IntKind.i64.wrap (↑k + 1) = (k : Int) + 1 := wrap_succ (by omega)
            obtain ⟨x, hx, hxm⟩ := get_lt hlt
            have hst := headsGo_step (ps := hps p.kids k) hx
            refine awp_skip ?_
            refine awp_seq ?_
            refine awp_block ?_
            refine awp_seq ?_
            refine awp_region_run (sh := []) tyOk (by simp [go_sem, hx] <;> rfl) ?_
            refine awp_seq ?_
            refine awp_seq ?_
            refine awp_reg ?_
            refine al_run 4 (sh := []) tyOk (by simp [go_sem, hx] <;> rfl) ?_
            refine al_splitT 47 (by first | rfl | (simp [go_sem, hx] <;> rfl)) (fun h5 => ?_) (fun h5 => ?_)
            · have hc : chead (hps p.kids k) x = (4, hps p.kids k) := chead_none (kidsOf_no1 h5)
              refine al_skip 4 47 false (by simp [go_sem]) (by simp [go_sem]) rfl rfl ?_
              refine al_run 2 (sh := []) tyOk (by simp [go_sem, hx] <;> rfl) ?_
              refine al_skip 6 53 false (by simp [go_sem]) (by simp [go_sem]) rfl rfl ?_
              refine al_run 2 (sh := []) tyOk (by simp [go_sem, hx] <;> rfl) ?_
              refine al_skip 7 61 false (by simp [go_sem]) (by simp [go_sem]) rfl rfl ?_
              refine al_run 1 (sh := []) tyOk (by simp [go_sem, hx] <;> rfl) ?_
              refine al_nil ?_
              refine awp_cond (b := true) (by simp [go_sem, hx, h0, h1, h2, h3, h4, h5]) (fun h => ?_) (fun h => ?_)
              rotate_left
              · cases h
              refine awp_seq ?_
              refine awp_region_run (sh := []) tyOk (by simp [go_sem, hx] <;> rfl) ?_
              refine awp_ret ?_
              refine then_ret ?_
              refine inBlock_ret ?_
              refine then_ret ?_
              refine then_ret ?_
              refine inBlock_ret ?_
              refine then_ret ?_
              refine ends_ret (by simp [go_sem] <;> rfl) (by simp [go_sem]) ?_
              have hh : heads p = (4, hps p.kids k) := by rw [hhd, hn, hst, hc]; rfl
              have hs : fcheck p = 4 := by unfold fcheck; rw [hh]; rfl
              have hr : rdefs p = [] := by unfold rdefs; rw [hs]; rfl
              exact ⟨by simp [go_sem, hs, hr], by simp [go_sem, withS]⟩
            · refine al_runG (sh := []) 4 47 false false tyOk (by simp [go_sem]) rfl (by simp [go_sem]) rfl rfl (by simp [go_sem, hx] <;> rfl) ?_
              refine al_run 2 (sh := []) tyOk (by simp [go_sem, hx] <;> rfl) ?_
              refine al_splitT 53 (by first | rfl | (simp [go_sem, hx] <;> rfl)) (fun h6 => ?_) (fun h6 => ?_)
              · have hc : chead (hps p.kids k) x = (4, hps p.kids k) := chead_none (kidsOf_no2 h6)
                refine al_skip 6 53 false (by simp [go_sem]) (by simp [go_sem]) rfl rfl ?_
                refine al_run 2 (sh := []) tyOk (by simp [go_sem, hx] <;> rfl) ?_
                refine al_skip 7 61 false (by simp [go_sem]) (by simp [go_sem]) rfl rfl ?_
                refine al_run 1 (sh := []) tyOk (by simp [go_sem, hx] <;> rfl) ?_
                refine al_nil ?_
                refine awp_cond (b := true) (by simp [go_sem, hx, h0, h1, h2, h3, h4, h5, h6]) (fun h => ?_) (fun h => ?_)
                rotate_left
                · cases h
                refine awp_seq ?_
                refine awp_region_run (sh := []) tyOk (by simp [go_sem, hx] <;> rfl) ?_
                refine awp_ret ?_
                refine then_ret ?_
                refine inBlock_ret ?_
                refine then_ret ?_
                refine then_ret ?_
                refine inBlock_ret ?_
                refine then_ret ?_
                refine ends_ret (by simp [go_sem] <;> rfl) (by simp [go_sem]) ?_
                have hh : heads p = (4, hps p.kids k) := by rw [hhd, hn, hst, hc]; rfl
                have hs : fcheck p = 4 := by unfold fcheck; rw [hh]; rfl
                have hr : rdefs p = [] := by unfold rdefs; rw [hs]; rfl
                exact ⟨by simp [go_sem, hs, hr], by simp [go_sem, withS]⟩
              · obtain ⟨x0, x1, x2, hkk, hkd⟩ := kidsOf_yes h5 h6
                have hcs := chead_some (ps := hps p.kids k) hkd
                have hfx := formed_kids hfp hxm
                have hf0 : formed x0 = true := formed_kids hfx (by rw [hkk]; simp)
                have hf1 : formed x1 = true := formed_kids hfx (by rw [hkk]; simp)
                have hrl := rlabel_eq hf0
                have hlk := fun (s : St) (x : ByteArray) (ho : s.σ.objs[σ.objs.length]? = some (.map (sK (hps p.kids k)) (sV (hps p.kids k)))) => look_seen17 ho x
                have hsx := D.size_kid_lt hxm
                have hs0 := D.size_kid_lt (d := x) (k := x0) (by rw [hkk]; simp)
                have hs1 := D.size_kid_lt (d := x) (k := x1) (by rw [hkk]; simp)
                have hs2 := D.size_kid_lt (d := x) (k := x2) (by rw [hkk]; simp)
                refine al_runG (sh := []) 4 53 false false tyOk (by simp [go_sem]) rfl (by simp [go_sem]) rfl rfl (by simp [go_sem, hx, hkk, hlk, withS_get] <;> rfl) ?_
                refine al_fnG 53 false false (by simp [go_sem]) rfl (by simp [go_sem]) rfl rfl (by simp [go_sem, hx, hkk, hlk, withS_get] <;> rfl) call41 ((c_Label x0) _ (by exact hgl)) (by simp [go_sem, hx, hkk, hlk, withS_get] <;> rfl) (by simp [go_sem, hx, hkk, hlk, withS_get]) rfl rfl ?_
                refine al_runG (sh := []) 1 53 false false tyOk (by simp [go_sem]) rfl (by simp [go_sem]) rfl rfl (by simp [go_sem, hx, hkk, hlk, withS_get, hrl] <;> rfl) ?_
                refine al_run 2 (sh := []) tyOk (by simp [go_sem, hx, hkk, hlk, withS_get, hrl] <;> rfl) ?_
                refine al_splitT 61 (by first | rfl | (simp [go_sem, hx, hkk, hlk, withS_get, hrl] <;> rfl)) (fun h7 => ?_) (fun h7 => ?_)
                · have hc : chead (hps p.kids k) x = (4, hps p.kids k) := by rw [hcs, if_pos h7]
                  refine al_skip 7 61 false (by simp [go_sem]) (by simp [go_sem]) rfl rfl ?_
                  refine al_run 1 (sh := []) tyOk (by simp [go_sem, hx, hkk, hlk, withS_get, hrl] <;> rfl) ?_
                  refine al_nil ?_
                  refine awp_cond (b := true) (by simp [go_sem, hx, hkk, hlk, withS_get, hrl, h0, h1, h2, h3, h4, h5, h6, h7]) (fun h => ?_) (fun h => ?_)
                  rotate_left
                  · cases h
                  refine awp_seq ?_
                  refine awp_region_run (sh := []) tyOk (by simp [go_sem, hx, hkk, hlk, withS_get, hrl] <;> rfl) ?_
                  refine awp_ret ?_
                  refine then_ret ?_
                  refine inBlock_ret ?_
                  refine then_ret ?_
                  refine then_ret ?_
                  refine inBlock_ret ?_
                  refine then_ret ?_
                  refine ends_ret (by simp [go_sem] <;> rfl) (by simp [go_sem]) ?_
                  have hh : heads p = (4, hps p.kids k) := by rw [hhd, hn, hst, hc]; rfl
                  have hs : fcheck p = 4 := by unfold fcheck; rw [hh]; rfl
                  have hr : rdefs p = [] := by unfold rdefs; rw [hs]; rfl
                  exact ⟨by simp [go_sem, hs, hr], by simp [go_sem, withS]⟩
                · have hlb : isLabel x0 = true := by simpa using h7
                  obtain ⟨hr0, hr1⟩ := label_range hlb hf0
                  have hsk := seen_kpar hlo hlb hf0
                  refine al_runG (sh := []) 5 61 false false tyOk (by simp [go_sem]) rfl (by simp [go_sem]) rfl rfl (by simp [go_sem, hx, hkk, hlk, withS_get, hrl, hsk] <;> rfl) ?_
                  refine al_fnG 61 false false (by simp [go_sem]) rfl (by simp [go_sem]) rfl rfl (by simp [go_sem, hx, hkk, hlk, withS_get, hrl, hsk] <;> rfl) call42 ((c_key x0 (by omega) (by omega)) _ (by exact hgl)) (by simp [go_sem, hx, hkk, hlk, withS_get, hrl, hsk] <;> rfl) (by simp [go_sem, hx, hkk, hlk, withS_get, hrl, hsk]) rfl rfl ?_
                  refine al_runG (sh := []) 1 61 false false tyOk (by simp [go_sem]) rfl (by simp [go_sem]) rfl rfl (by simp [go_sem, hx, hkk, hlk, withS_get, hrl, hsk] <;> rfl) ?_
                  refine al_run 1 (sh := []) tyOk (by simp [go_sem, hx, hkk, hlk, withS_get, hrl, hsk] <;> rfl) ?_
                  refine al_nil ?_
                  refine awp_cond (by first | rfl | (simp [go_sem, hx, hkk, hlk, withS_get, hrl, hsk] <;> rfl)) (fun h8 => ?_) (fun h8 => ?_)
                  · have hc : chead (hps p.kids k) x = (4, hps p.kids k) := by rw [hcs, if_neg (by rw [hlb]; decide), if_pos h8]
                    refine awp_seq ?_
                    refine awp_region_run (sh := []) tyOk (by simp [go_sem, hx, hkk, hlk, withS_get, hrl, hsk] <;> rfl) ?_
                    refine awp_ret ?_
                    refine then_ret ?_
                    refine inBlock_ret ?_
                    refine then_ret ?_
                    refine then_ret ?_
                    refine inBlock_ret ?_
                    refine then_ret ?_
                    refine ends_ret (by simp [go_sem] <;> rfl) (by simp [go_sem]) ?_
                    have hh : heads p = (4, hps p.kids k) := by rw [hhd, hn, hst, hc]; rfl
                    have hs : fcheck p = 4 := by unfold fcheck; rw [hh]; rfl
                    have hr : rdefs p = [] := by unfold rdefs; rw [hs]; rfl
                    exact ⟨by simp [go_sem, hs, hr], by simp [go_sem, withS]⟩
                  · have hnk : (kpar (hps p.kids k) x0).2 = false := h8
                    have hnn0 : ¬ (kpar (hps p.kids k) x0).2 = true := by rw [hnk]; decide
                    have hpt := fun (s : St) (ho : s.σ.objs[σ.objs.length]? = some (.map (sK (hps p.kids k)) (sV (hps p.kids k)))) => put_seen17 ho (keyS x0) (by rw [hsk]; exact hnk)
                    refine awp_skip ?_
                    refine awp_seq ?_
                    refine awp_reg ?_
                    refine al_run 4 (sh := []) tyOk (by simp [go_sem, hx, hkk, hlk, withS_get, hrl, hsk, hpt] <;> rfl) ?_
                    refine al_fn rfl rfl rfl (by simp [go_sem, hx, hkk, hlk, withS_get, hrl, hsk, hpt] <;> rfl) call43 ((c_refNames x1 (by omega) hf1) _ (by exact hgl)) (by simp [go_sem, hx, hkk, hlk, withS_get, hrl, hsk, hpt] <;> rfl) (by simp [go_sem, hx, hkk, hlk, withS_get, hrl, hsk, hpt]) rfl rfl ?_
                    refine al_run 5 (sh := []) tyOk (by simp [go_sem, hx, hkk, hlk, withS_get, hrl, hsk, hpt] <;> rfl) ?_
                    refine al_nil ?_
                    refine awp_seq ?_
                    refine awp_seq ?_
                    refine awp_region_run (sh := []) tyOk (by simp [go_sem, hx, hkk, hlk, withS_get, hrl, hsk, hpt] <;> rfl) ?_
                    refine awp_cond (by first | rfl | (simp [go_sem, hx, hkk, hlk, withS_get, hrl, hsk, hpt] <;> rfl)) (fun h9 => ?_) (fun h9 => ?_)
                    · have hnn : names x1 = none := by simpa using h9
                      have hc : chead (hps p.kids k) x = (4, hps p.kids k) := by rw [hcs, if_neg (by rw [hlb]; decide), if_neg hnn0, hnn]
                      refine awp_seq ?_
                      refine awp_region_run (sh := []) tyOk (by simp [go_sem, hx, hkk, hlk, withS_get, hrl, hsk, hpt] <;> rfl) ?_
                      refine awp_ret ?_
                      refine then_ret ?_
                      refine inBlock_ret ?_
                      refine then_ret ?_
                      refine then_ret ?_
                      refine inBlock_ret ?_
                      refine then_ret ?_
                      refine ends_ret (by simp [go_sem] <;> rfl) (by simp [go_sem]) ?_
                      have hh : heads p = (4, hps p.kids k) := by rw [hhd, hn, hst, hc]; rfl
                      have hs : fcheck p = 4 := by unfold fcheck; rw [hh]; rfl
                      have hr : rdefs p = [] := by unfold rdefs; rw [hs]; rfl
                      exact ⟨by simp [go_sem, hs, hr], by simp [go_sem, withS]⟩
                    · obtain ⟨ns, hns⟩ : ∃ ns, names x1 = some ns := Option.isSome_iff_exists.1 (by simpa using h9)
                      refine awp_skip ?_
                      refine awp_seq ?_
                      refine awp_seq ?_
                      refine awp_region_run (sh := []) tyOk (by simp [go_sem, hx, hkk, hlk, withS_get, hrl, hsk, hpt, hns, encN] <;> rfl) ?_
                      refine awp_cond (by first | rfl | (simp [go_sem, hx, hkk, hlk, withS_get, hrl, hsk, hpt, hns, encN] <;> rfl)) (fun h10 => ?_) (fun h10 => ?_)
                      · have hc : chead (hps p.kids k) x = (3, hps p.kids k) := by rw [hcs, if_neg (by rw [hlb]; decide), if_neg hnn0, hns]; simp only [h10, if_true]
                        refine awp_seq ?_
                        refine awp_region_run (sh := []) tyOk (by simp [go_sem, hx, hkk, hlk, withS_get, hrl, hsk, hpt, hns, encN] <;> rfl) ?_
                        refine awp_ret ?_
                        refine then_ret ?_
                        refine inBlock_ret ?_
                        refine then_ret ?_
                        refine then_ret ?_
                        refine inBlock_ret ?_
                        refine then_ret ?_
                        refine ends_ret (by simp [go_sem] <;> rfl) (by simp [go_sem]) ?_
                        have hh : heads p = (3, hps p.kids k) := by rw [hhd, hn, hst, hc]; rfl
                        have hs : fcheck p = 3 := by unfold fcheck; rw [hh]; rfl
                        have hr : rdefs p = [] := by unfold rdefs; rw [hs]; rfl
                        exact ⟨by simp [go_sem, hs, hr], by simp [go_sem, withS]⟩
                      · have hc0 : chead (hps p.kids k) x = (0, kset (hps p.kids k) x0 ns.length) := by rw [hcs, if_neg (by rw [hlb]; decide), if_neg hnn0, hns]; simp only [h10, Bool.false_eq_true, if_false]
                        have hpn := hps_next hx
                        have hpk : hps p.kids (k + 1) = hps p.kids k ++ [(x0, (ns.length : Int))] := by rw [hpn, hc0]; exact kset_new hnk
                        have hdn := dfK_next hx
                        rw [toDf_of hkk hns] at hdn
                        have hdl := dfK_len hk
                        have hbb : (k + 1) * 136 ≤ 140737488355328 := by omega
                        refine awp_skip ?_
                        refine awp_seq ?_
                        refine awp_reg ?_
                        refine al_run 5 (sh := []) tyOk (by simp [go_sem, hx, hkk, hlk, withS_get, hrl, hsk, hpt, hns, encN, hdl, hbb, withS_tok, agg_df] <;> rfl) ?_
                        refine al_fn rfl rfl rfl (by simp [go_sem, hx, hkk, hlk, withS_get, hrl, hsk, hpt, hns, encN, hdl, hbb, withS_tok, agg_df] <;> rfl) call42 ((c_key x0 (by omega) (by omega)) _ (by exact hgl)) (by simp [go_sem, hx, hkk, hlk, withS_get, hrl, hsk, hpt, hns, encN, hdl, hbb, withS_tok, agg_df] <;> rfl) (by simp [go_sem, hx, hkk, hlk, withS_get, hrl, hsk, hpt, hns, encN, hdl, hbb, withS_tok, agg_df]) rfl rfl ?_
                        refine al_run 1 (sh := []) tyOk (by simp [go_sem, hx, hkk, hlk, withS_get, hrl, hsk, hpt, hns, encN, hdl, hbb, withS_tok, agg_df] <;> rfl) ?_
                        refine al_nil ?_
                        refine awp_regDP tyOk tySz 12 (by kernel_rfl) (by decide) ?_
                        refine ul_run 12 (by simp [go_sem, hx, hkk, hlk, withS_get, hrl, hsk, hpt, hns, encN, hdl, hbb, withS_tok, agg_df] <;> rfl) ?_
                        refine ul_nil ?_
                        refine al_run 2 (sh := []) tyOk (by simp [go_sem, hx, hkk, hlk, withS_get, hrl, hsk, hpt, hns, encN, hdl, hbb, withS_tok, agg_df] <;> rfl) ?_
                        refine al_nil ?_
                        refine awp_region_run (sh := []) tyOk (by simp [go_sem, hx, hkk, hlk, withS_get, hrl, hsk, hpt, hns, encN, hdl, hbb, withS_tok, agg_df] <;> rfl) ?_
                        exact next_intro (k + 1) (σ.objs.length + 1) (σ.toks.length + 1) 1 (⟨hlt, by rw [hn, hst, hpn, hc0]; rfl, by rw [hpn, hc0]; exact hlo.kset hlb hf0 hnk⟩) (by omega) ⟨by show withS σ (hps p.kids (k + 1)) 41 (k + 1) = Store.cut _ _ _; rw [hpk]; simp [withS, sK_snoc, sV_snoc, go_sem, List.take_of_length_le], rfl, by simp, by simp, by simp [go_sem, hx, hkk, hlk, withS_get, hrl, hsk, hpt, hns, encN, hdl, hbb, withS_tok, agg_df, hw, hdn], fun ob h => withS_mem h, by simp [go_sem]⟩
          · have hke : k = p.kids.length := by simp at h4; omega
            subst hke
            have hh : heads p = (0, hps p.kids p.kids.length) := by rw [hhd, hn, List.drop_length]; rfl
            have hh0 : (heads p).1 = 0 := by rw [hh]
            have hdl : ∀ x, x ∈ p.kids.map toDf → x.lab.size ≤ 1000000000 ∧ x.ps.length ≤ 1000000000 := dfs_small hh0 (by omega)
            refine awp_exit ?_
            refine then_exit ?_
            refine then_exit ?_
            refine inBlock_hit ?_
            refine awp_seq ?_
            refine awp_seq ?_
            refine awp_region_run (sh := []) tyOk (by simp [go_sem, dfK_all] <;> rfl) ?_
            refine awp_block ?_
            refine awp_loop_headK (σ.objs.length + 1) (σ.toks.length + 1) 1 [2, 3, 5] (fun k : Nat => [(11, .pv (.int .i64 ↑k))]) (fun k => withS σ (hps p.kids (p.kids.length)) 41 (p.kids.length)) (fun k => k ≤ p.kids.length ∧ bodies (heads p).2 p.kids = bodies (heads p).2 (p.kids.drop k)) (fun k => p.kids.length - k) 0 (⟨Nat.zero_le _, rfl⟩) ⟨by show withS σ (hps p.kids (p.kids.length)) 41 (p.kids.length) = Store.cut _ _ _; rw [withS_cut], rfl, by simp, by simp, by simp [go_sem, dfK_all], fun ob h => withS_mem h, by simp [go_sem]⟩ ?_
            rintro k ⟨hk, hn⟩
            refine awp_seq ?_
            refine awp_seq ?_
            refine awp_region_run (sh := []) tyOk (by simp [go_sem, dfK_all] <;> rfl) ?_
            refine awp_cond (by first | rfl | (simp [go_sem, dfK_all] <;> rfl)) (fun h11 => ?_) (fun h11 => ?_)
            · have hlt : k < p.kids.length := by simp at h11; omega
              have hw : IntKind.i64.wrap (↑k + 1) = (k : Int) + 1 := wrap_succ (by omega)
              obtain ⟨x, hx, hxm⟩ := get_lt hlt
              have hst := bodies_step (ps := (heads p).2) hx
              obtain ⟨x0, x1, x2, ns, hkk, hk3, hlab, hns, hn8⟩ := def_ok hh0 hxm
              have htd := toDf_of hkk hns
              have hd1 : d1 x.kids = x1 := by rw [hkk]; rfl
              have hd2 : d2 x.kids = x2 := by rw [hkk]; rfl
              have hnl : nlist (names x1) = ns := by rw [hns]; rfl
              have hf2 : formed x2 = true := formed_kids (formed_kids hfp hxm) (by rw [hkk]; simp)
              have hsx := D.size_kid_lt hxm
              have hs0 := D.size_kid_lt (d := x) (k := x0) (by rw [hkk]; simp)
              have hs1 := D.size_kid_lt (d := x) (k := x1) (by rw [hkk]; simp)
              have hs2 := D.size_kid_lt (d := x) (k := x2) (by rw [hkk]; simp)
              refine awp_skip ?_
              refine awp_seq ?_
              refine awp_block ?_
              refine awp_seq ?_
              refine awp_regDP tyOk tySz 11 (by kernel_rfl) (by decide) ?_
              refine ul_run 11 (by simp [go_sem, dfK_all, hx, htd] <;> rfl) ?_
              refine ul_nil ?_
              refine al_fn rfl rfl rfl (by simp [go_sem, dfK_all, hx, htd] <;> rfl) call44 (c_body (p.kids.map toDf) (heads p).2 (lp_of hh0) (by simp; omega) hdl x2 ns _ (by exact hgl) hf2 (by omega)) (by simp [go_sem, dfK_all, hx, htd] <;> rfl) (by simp [go_sem, dfK_all, hx, htd]) rfl rfl ?_
              refine al_run 1 (sh := []) tyOk (by simp [go_sem, dfK_all, hx, htd] <;> rfl) ?_
              refine al_nil ?_
              refine awp_seq ?_
              refine awp_region_run (sh := []) tyOk (by simp [go_sem, dfK_all, hx, htd] <;> rfl) ?_
              refine awp_cond (by first | rfl | (simp [go_sem, dfK_all, hx, htd] <;> rfl)) (fun h12 => ?_) (fun h12 => ?_)
              · refine awp_seq ?_
                refine awp_region_run (sh := []) tyOk (by simp [go_sem, dfK_all, hx, htd] <;> rfl) ?_
                refine awp_ret ?_
                refine inBlock_ret ?_
                refine then_ret ?_
                refine then_ret ?_
                refine inBlock_ret ?_
                refine then_ret ?_
                refine ends_ret (by simp [go_sem] <;> rfl) (by simp [go_sem]) ?_
                have hs : fcheck p = cexpr (heads p).2 ns x2 := by rw [show fcheck p = bodies (heads p).2 p.kids by unfold fcheck; rw [if_neg (by rw [hh0]; decide)], hn, hst, hd1, hd2, hnl]; simp only [h12, Bool.true_or, Bool.or_true, Bool.false_or, Bool.or_false, Bool.true_and, Bool.and_true, Bool.false_and, Bool.and_false, Bool.not_true, Bool.not_false, Bool.false_eq_true, if_true, if_false]
                have hr : rdefs p = [] := by unfold rdefs; rw [hs, if_pos h12]
                exact ⟨by simp [go_sem, hs, hr], by simp [go_sem, withS]⟩
              · refine awp_skip ?_
                refine awp_region_run (sh := []) tyOk (by simp [go_sem, dfK_all, hx, htd] <;> rfl) ?_
                exact next_intro (k + 1) (σ.objs.length + 1) (σ.toks.length + 1) 1 (⟨hlt, by rw [hn, hst, hd1, hd2, hnl]; simp only [h0, h1, h2, h3, h11, h12, Bool.true_or, Bool.or_true, Bool.false_or, Bool.or_false, Bool.true_and, Bool.and_true, Bool.false_and, Bool.and_false, Bool.not_true, Bool.not_false, Bool.false_eq_true, if_true, if_false]⟩) (by omega) ⟨by show withS σ (hps p.kids (p.kids.length)) 41 (p.kids.length) = Store.cut _ _ _; rw [withS_cut], rfl, by simp, by simp, by simp [go_sem, dfK_all, hx, htd, hw], fun ob h => withS_mem h, by simp [go_sem]⟩
            · have hke : k = p.kids.length := by simp at h11; omega
              subst hke
              refine awp_exit ?_
              refine then_exit ?_
              refine then_exit ?_
              refine inBlock_hit ?_
              refine awp_seq ?_
              refine awp_region_run (sh := []) tyOk (by simp [go_sem, dfK_all] <;> rfl) ?_
              refine awp_ret ?_
              refine ends_ret (by simp [go_sem] <;> rfl) (by simp [go_sem]) ?_
              have hs : fcheck p = 0 := by rw [show fcheck p = bodies (heads p).2 p.kids by unfold fcheck; rw [if_neg (by rw [hh0]; decide)], hn, List.drop_length]; rfl
              have hr : rdefs p = p.kids.map toDf := by unfold rdefs; rw [hs]; rfl
              exact ⟨by simp [go_sem, hs, hr], by simp [go_sem, withS]⟩

end Go.Proofs.YtienmmfjjffjaaaGreatDoor

/- Main, Labels, Def, Calls, Same. -/
namespace Go.Proofs.YtienmmfjjffjaaaGreatDoor
open Go Go.Aw
variable {kr : ResO}
end Go.Proofs.YtienmmfjjffjaaaGreatDoor

/- The specification: Calls, Reach. -/
namespace Go.Proofs.YtienmmfjjffjaaaGreatDoor
open Go Go.Aw
variable {kr : ResO}
end Go.Proofs.YtienmmfjjffjaaaGreatDoor

/- The table for runs that are told whole. -/
namespace Go.Proofs.YtienmmfjjffjaaaGreatDoor
open Go Go.Aw
variable {kr : ResO}
def dm : FuncId → Nat → Nat × List Nat × Bool
  | 3, 12 => (24, [], false)
  | 4, 1 => (6, [], false)
  | 4, 6 => (11, [], false)
  | 5, 13 => (6, [], false)
  | 5, 16 => (7, [], false)
  | 7, 1 => (6, [], false)
  | 8, 1 => (6, [], false)
  | 8, 17 => (24, [], false)
  | 10, 22 => (12, [], true)
  | 10, 26 => (11, [], true)
  | 12, 4 => (12, [], false)
  | 15, 6 => (10, [], true)
  | 16, 5 => (30, [], false)
  | 17, 6 => (8, [], true)
  | 18, 6 => (8, [], true)
  | 23, 5 => (20, [], false)
  | 24, 7 => (11, [], false)
  | 27, 2 => (4, [], false)
  | 28, 6 => (7, [], false)
  | 31, 14 => (7, [], false)
  | 32, 15 => (14, [], false)
  | 32, 20 => (9, [], false)
  | 33, 13 => (11, [], false)
  | 33, 15 => (5, [], false)
  | 33, 16 => (12, [], true)
  | 34, 14 => (15, [], true)
  | 36, 7 => (6, [], false)
  | 39, 4 => (6, [], true)
  | 44, 10 => (10, [], true)
  | 44, 21 => (9, [], true)
  | 47, 27 => (12, [], false)
  | 54, 6 => (7, [], false)
  | 61, 12 => (8, [], true)
  | 63, 6 => (22, [], false)
  | 76, 10 => (10, [], false)
  | 79, 2 => (13, [], true)
  | 79, 6 => (12, [], false)
  | 81, 4 => (5, [], true)
  | 89, 4 => (13, [], false)
  | 89, 10 => (10, [], false)
  | 94, 3 => (13, [], false)
  | 99, 1 => (5, [], false)
  | 100, 5 => (8, [], false)
  | 100, 7 => (16, [], false)
  | 102, 5 => (7, [], false)
  | 103, 4 => (5, [], true)
  | 113, 1 => (5, [], true)
  | 120, 10 => (11, [], true)
  | 121, 5 => (9, [], false)
  | 122, 4 => (5, [], true)
  | 122, 11 => (13, [], false)
  | 122, 13 => (13, [], false)
  | 129, 6 => (6, [], true)
  | 135, 7 => (13, [], true)
  | 135, 8 => (13, [], true)
  | 135, 9 => (13, [], true)
  | 135, 10 => (13, [], true)
  | 135, 17 => (13, [], true)
  | 135, 18 => (13, [], true)
  | 135, 23 => (13, [], true)
  | 137, 0 => (9, [], true)
  | 137, 1 => (8, [], true)
  | 137, 8 => (19, [], true)
  | 138, 3 => (9, [], true)
  | 138, 5 => (14, [], true)
  | 138, 16 => (9, [], false)
  | 138, 18 => (25, [], true)
  | 138, 19 => (7, [], false)
  | 148, 2 => (19, [], true)
  | 148, 4 => (9, [], true)
  | _, _ => (0, [], false)
def shT : FuncId → List Tmp
  | 120 => [13]
  | _ => []
def caL : List Nat := [2, 3, 4, 5, 6, 7, 8, 9, 10, 11, 12, 13, 14, 15, 16, 17, 18, 19, 20, 21, 22, 23, 24, 25, 26, 27, 28, 29, 30, 31, 32, 33, 34, 35, 36, 37, 38, 39, 40, 41, 42, 43, 44, 45, 46, 47, 48, 49, 50, 51, 52, 53, 54, 55, 56, 57, 58, 59, 60, 61, 62, 63, 64, 65, 66, 67, 68, 69, 70, 71, 72, 73, 74, 75, 76, 77, 78, 79, 80, 81, 82, 83, 84, 85, 86, 87, 88, 89, 90, 91, 92, 93, 94, 95, 96, 97, 98, 99, 100, 101, 102, 103, 104, 105, 106, 107, 108, 109, 110, 111, 112, 113, 114, 115, 116, 117, 118, 119, 120, 121, 122, 123, 124, 125, 126, 127, 128, 129, 130, 131, 132, 133, 134, 135, 136, 137, 138, 139, 140, 141, 142, 143, 144, 145, 146, 147, 148, 149, 150, 151, 152, 153]
theorem caOk : ∀ f, caL.contains f = true → Callable Tryz.prog f := by
  intro f h
  simp only [caL, List.contains_eq_mem, List.mem_cons, List.not_mem_nil, or_false, decide_eq_true_eq] at h
  rcases h with rfl | rfl | rfl | rfl | rfl | rfl | rfl | rfl | rfl | rfl | rfl | rfl | rfl | rfl | rfl | rfl | rfl | rfl | rfl | rfl | rfl | rfl | rfl | rfl | rfl | rfl | rfl | rfl | rfl | rfl | rfl | rfl | rfl | rfl | rfl | rfl | rfl | rfl | rfl | rfl | rfl | rfl | rfl | rfl | rfl | rfl | rfl | rfl | rfl | rfl | rfl | rfl | rfl | rfl | rfl | rfl | rfl | rfl | rfl | rfl | rfl | rfl | rfl | rfl | rfl | rfl | rfl | rfl | rfl | rfl | rfl | rfl | rfl | rfl | rfl | rfl | rfl | rfl | rfl | rfl | rfl | rfl | rfl | rfl | rfl | rfl | rfl | rfl | rfl | rfl | rfl | rfl | rfl | rfl | rfl | rfl | rfl | rfl | rfl | rfl | rfl | rfl | rfl | rfl | rfl | rfl | rfl | rfl | rfl | rfl | rfl | rfl | rfl | rfl | rfl | rfl | rfl | rfl | rfl | rfl | rfl | rfl | rfl | rfl | rfl | rfl | rfl | rfl | rfl | rfl | rfl | rfl | rfl | rfl | rfl | rfl | rfl | rfl | rfl | rfl | rfl | rfl | rfl | rfl | rfl | rfl | rfl | rfl | rfl | rfl | rfl | rfl
  · exact call2
  · exact call3
  · exact call4
  · exact call5
  · exact call6
  · exact call7
  · exact call8
  · exact call9
  · exact call10
  · exact call11
  · exact call12
  · exact call13
  · exact call14
  · exact call15
  · exact call16
  · exact call17
  · exact call18
  · exact call19
  · exact call20
  · exact call21
  · exact call22
  · exact call23
  · exact call24
  · exact call25
  · exact call26
  · exact call27
  · exact call28
  · exact call29
  · exact call30
  · exact call31
  · exact call32
  · exact call33
  · exact call34
  · exact call35
  · exact call36
  · exact call37
  · exact call38
  · exact call39
  · exact call40
  · exact call41
  · exact call42
  · exact call43
  · exact call44
  · exact call45
  · exact call46
  · exact call47
  · exact call48
  · exact call49
  · exact call50
  · exact call51
  · exact call52
  · exact call53
  · exact call54
  · exact call55
  · exact call56
  · exact call57
  · exact call58
  · exact call59
  · exact call60
  · exact call61
  · exact call62
  · exact call63
  · exact call64
  · exact call65
  · exact call66
  · exact call67
  · exact call68
  · exact call69
  · exact call70
  · exact call71
  · exact call72
  · exact call73
  · exact call74
  · exact call75
  · exact call76
  · exact call77
  · exact call78
  · exact call79
  · exact call80
  · exact call81
  · exact call82
  · exact call83
  · exact call84
  · exact call85
  · exact call86
  · exact call87
  · exact call88
  · exact call89
  · exact call90
  · exact call91
  · exact call92
  · exact call93
  · exact call94
  · exact call95
  · exact call96
  · exact call97
  · exact call98
  · exact call99
  · exact call100
  · exact call101
  · exact call102
  · exact call103
  · exact call104
  · exact call105
  · exact call106
  · exact call107
  · exact call108
  · exact call109
  · exact call110
  · exact call111
  · exact call112
  · exact call113
  · exact call114
  · exact call115
  · exact call116
  · exact call117
  · exact call118
  · exact call119
  · exact call120
  · exact call121
  · exact call122
  · exact call123
  · exact call124
  · exact call125
  · exact call126
  · exact call127
  · exact call128
  · exact call129
  · exact call130
  · exact call131
  · exact call132
  · exact call133
  · exact call134
  · exact call135
  · exact call136
  · exact call137
  · exact call138
  · exact call139
  · exact call140
  · exact call141
  · exact call142
  · exact call143
  · exact call144
  · exact call145
  · exact call146
  · exact call147
  · exact call148
  · exact call149
  · exact call150
  · exact call151
  · exact call152
  · exact call153
def orcT (f : FuncId) (args : List AV) : Option AV := match Nat.beq f 124, args with
  | true, [.pv (.int .u8 c)] => some (.pv (.bool (letter c)))
  | _, _ => none
theorem orcOk : ∀ f args r, orcT f args = some r → Pur Tryz.prog (GL kr) f args r := by
  intro f args r h
  unfold orcT at h
  split at h
  · rename_i c hf
    have := Nat.eq_of_beq_eq_true hf
    subst this
    cases h
    exact c_pagodaref01_Letter c
  · cases h
noncomputable def cfg : Cfg := ⟨Tryz.prog, ty, shT, dm, caL.contains, orcT⟩
theorem cfgOk : CfgOk cfg (GL kr) := ⟨tyOk, tySz, caOk, orcOk⟩
def exD : D := dlist [dlist [dsym ⟨#[102]⟩, dlist [dsym ⟨#[120]⟩], dlist [dsym ⟨#[105, 102]⟩, dlist [dsym ⟨#[61]⟩, dsym ⟨#[120]⟩, dlist [dsym ⟨#[113, 117, 111, 116, 101]⟩, dlist []]], dnum 0, dlist [dsym ⟨#[43]⟩, dnum 1, dlist [dsym ⟨#[99, 97, 108, 108]⟩, dsym ⟨#[102]⟩, dlist [dsym ⟨#[114, 101, 115, 116]⟩, dsym ⟨#[120]⟩]]]]]]
theorem c_example : PurAt Tryz.prog ⟨(GL kr), [], []⟩ 51 [] (.pv (enc exD)) := purAt_eval (n := 100000) cfgOk (by kernel_rfl)
end Go.Proofs.YtienmmfjjffjaaaGreatDoor

/- The example, alive. -/
namespace Go.Proofs.YtienmmfjjffjaaaGreatDoor
open Go Go.Aw
variable {kr : ResO}
def exC : D := dlist [dlist [dnum 0, dlist [dsym ⟨#[120]⟩], dlist [dsym ⟨#[105, 102]⟩, dlist [dsym ⟨#[61]⟩, dsym ⟨#[120]⟩, dlist [dsym ⟨#[113, 117, 111, 116, 101]⟩, dlist []]], dnum 0, dlist [dsym ⟨#[43]⟩, dnum 1, dlist [dsym ⟨#[99, 97, 108, 108]⟩, dnum 0, dlist [dsym ⟨#[114, 101, 115, 116]⟩, dsym ⟨#[120]⟩]]]]]]
theorem ex_size : exD.size ≤ 100 := Nat.le_of_ble_eq_true (by kernel_rfl)
theorem ex_check : fcheck exD = 0 := by kernel_rfl
theorem ex_Size : fSize exD = (10, 0) := by kernel_rfl
theorem ex_canon : fcanon exD = (exC, 0) := by kernel_rfl
theorem ex_reach : fReach exD = ([dsym ⟨#[102]⟩], 0) := by kernel_rfl
theorem ex_none : fcheck (dlist []) = 4 := by kernel_rfl
theorem ex_kids : ∃ c0 r, exC.kids = [c0] ∧ c0.kids = dnum 0 :: r := ⟨_, _, rfl, rfl⟩
set_option maxHeartbeats 1000000 in
theorem c_alive_of (σ : Store) (hgl : σ.gl = (GL kr)) (x c c0 z u : D) (l : List D) (y : D) (hE : PurAt Tryz.prog σ 51 [] (.pv (enc x))) (hes : x.size ≤ 100) (h1 : fcheck x = 0) (h2 : fSize x = (10, 0)) (h3 : fcanon x = (c, 0)) (h4 : fReach x = ([y], 0)) (hc1 : c.kids = [c0]) (hc3 : c0.kids[0]? = some u) (hu : u.size ≤ 100) (hN : Pur Tryz.prog (GL kr) 26 [.pv (.int .i64 0)] (.pv (enc u))) (hc4 : deq u u = true) (hz : enc z = .agg [.int .i64 3, .int .i64 0, .str ⟨#[]⟩, .slice []]) (hzs : z.size ≤ 100) (h5 : fcheck z = 4) : PurAt Tryz.prog σ 16 [] (.pv (.bool true)) := by
  refine purAt_of ?_
  refine acalls_of tyOk Tryz.func16 rfl (by simp [Tryz.f16]) ?_
  refine awp_seq ?_
  refine awp_region_run (sh := []) tyOk (by simp [go_sem, h1, h2, h3, h4, h5, hc1, hc3, hc4] <;> rfl) ?_
  refine awp_seq ?_
  refine awp_reg ?_
  refine al_fn rfl rfl rfl (by simp [go_sem, h1, h2, h3, h4, h5, hc1, hc3, hc4] <;> rfl) call51 (hE) (by simp [go_sem, h1, h2, h3, h4, h5, hc1, hc3, hc4] <;> rfl) (by simp [go_sem, h1, h2, h3, h4, h5, hc1, hc3, hc4]) rfl rfl ?_
  refine al_run 2 (sh := []) tyOk (by simp [go_sem, h1, h2, h3, h4, h5, hc1, hc3, hc4] <;> rfl) ?_
  refine al_nil ?_
  refine awp_seq ?_
  refine awp_reg ?_
  refine al_run 1 (sh := []) tyOk (by simp [go_sem, h1, h2, h3, h4, h5, hc1, hc3, hc4] <;> rfl) ?_
  refine al_fn rfl rfl rfl (by simp [go_sem, h1, h2, h3, h4, h5, hc1, hc3, hc4] <;> rfl) call14 ((c_flat_Size x (by omega)) _ (by exact hgl)) (by simp [go_sem, h1, h2, h3, h4, h5, hc1, hc3, hc4] <;> rfl) (by simp [go_sem, h1, h2, h3, h4, h5, hc1, hc3, hc4]) rfl rfl ?_
  refine al_run 5 (sh := []) tyOk (by simp [go_sem, h1, h2, h3, h4, h5, hc1, hc3, hc4] <;> rfl) ?_
  refine al_nil ?_
  refine awp_seq ?_
  refine awp_reg ?_
  refine al_run 1 (sh := []) tyOk (by simp [go_sem, h1, h2, h3, h4, h5, hc1, hc3, hc4] <;> rfl) ?_
  refine al_fn rfl rfl rfl (by simp [go_sem, h1, h2, h3, h4, h5, hc1, hc3, hc4] <;> rfl) call21 ((c_flat_Canon x (by omega)) _ (by exact hgl)) (by simp [go_sem, h1, h2, h3, h4, h5, hc1, hc3, hc4] <;> rfl) (by simp [go_sem, h1, h2, h3, h4, h5, hc1, hc3, hc4]) rfl rfl ?_
  refine al_run 6 (sh := []) tyOk (by simp [go_sem, h1, h2, h3, h4, h5, hc1, hc3, hc4] <;> rfl) ?_
  refine al_nil ?_
  refine awp_seq ?_
  refine awp_reg ?_
  refine al_run 1 (sh := []) tyOk (by simp [go_sem, h1, h2, h3, h4, h5, hc1, hc3, hc4] <;> rfl) ?_
  refine al_fn rfl rfl rfl (by simp [go_sem, h1, h2, h3, h4, h5, hc1, hc3, hc4] <;> rfl) call25 ((c_flat_Reach x (by omega)) _ (by exact hgl)) (by simp [go_sem, h1, h2, h3, h4, h5, hc1, hc3, hc4] <;> rfl) (by simp [go_sem, h1, h2, h3, h4, h5, hc1, hc3, hc4]) rfl rfl ?_
  refine al_run 5 (sh := []) tyOk (by simp [go_sem, h1, h2, h3, h4, h5, hc1, hc3, hc4] <;> rfl) ?_
  refine al_nil ?_
  refine awp_seq ?_
  refine awp_regDC tyOk tySz 30 (drawOk_of (by kernel_rfl)) (by decide) ?_
  refine ul_run 1 (by simp [go_sem, h1, h2, h3, h4, h5, hc1, hc3, hc4] <;> rfl) ?_
  refine ul_fn (by first | (intro _ _ hh; exact hh) | simp [go_sem]) rfl rfl rfl rfl (by simp [go_sem, h1, h2, h3, h4, h5, hc1, hc3, hc4] <;> rfl) call11 ((c_flat_Check x (by omega)) _ (by exact hgl)) (by simp [go_sem, h1, h2, h3, h4, h5, hc1, hc3, hc4] <;> rfl) (by simp [go_sem, h1, h2, h3, h4, h5, hc1, hc3, hc4]) rfl rfl ?_
  refine ul_run 2 (by simp [go_sem, h1, h2, h3, h4, h5, hc1, hc3, hc4] <;> rfl) ?_
  refine ul_splitT 27 (by first | rfl | (simp [go_sem, h1, h2, h3, h4, h5, hc1, hc3, hc4] <;> rfl)) (fun h20 => ?_) (fun h20 => ?_)
  · refine ul_runG 2 27 true true (by simp [go_sem]) rfl (by simp [go_sem]) rfl rfl (by simp [go_sem, h1, h2, h3, h4, h5, hc1, hc3, hc4] <;> rfl) ?_
    refine ul_run 2 (by simp [go_sem, h1, h2, h3, h4, h5, hc1, hc3, hc4] <;> rfl) ?_
    refine ul_splitT 31 (by first | rfl | (simp [go_sem, h1, h2, h3, h4, h5, hc1, hc3, hc4] <;> rfl)) (fun h21 => ?_) (fun h21 => ?_)
    · refine ul_runG 2 31 true true (by simp [go_sem]) rfl (by simp [go_sem]) rfl rfl (by simp [go_sem, h1, h2, h3, h4, h5, hc1, hc3, hc4] <;> rfl) ?_
      refine ul_run 2 (by simp [go_sem, h1, h2, h3, h4, h5, hc1, hc3, hc4] <;> rfl) ?_
      refine ul_splitT 35 (by first | rfl | (simp [go_sem, h1, h2, h3, h4, h5, hc1, hc3, hc4] <;> rfl)) (fun h22 => ?_) (fun h22 => ?_)
      · refine ul_runG 2 35 true true (by simp [go_sem]) rfl (by simp [go_sem]) rfl rfl (by simp [go_sem, h1, h2, h3, h4, h5, hc1, hc3, hc4] <;> rfl) ?_
        refine ul_run 2 (by simp [go_sem, h1, h2, h3, h4, h5, hc1, hc3, hc4] <;> rfl) ?_
        refine ul_splitT 39 (by first | rfl | (simp [go_sem, h1, h2, h3, h4, h5, hc1, hc3, hc4] <;> rfl)) (fun h23 => ?_) (fun h23 => ?_)
        · refine ul_runG 4 39 true true (by simp [go_sem]) rfl (by simp [go_sem]) rfl rfl (by simp [go_sem, h1, h2, h3, h4, h5, hc1, hc3, hc4] <;> rfl) ?_
          refine ul_run 2 (by simp [go_sem, h1, h2, h3, h4, h5, hc1, hc3, hc4] <;> rfl) ?_
          refine ul_splitT 45 (by first | rfl | (simp [go_sem, h1, h2, h3, h4, h5, hc1, hc3, hc4] <;> rfl)) (fun h24 => ?_) (fun h24 => ?_)
          · refine ul_runG 7 45 true true (by simp [go_sem]) rfl (by simp [go_sem]) rfl rfl (by simp [go_sem, h1, h2, h3, h4, h5, hc1, hc3, hc4] <;> rfl) ?_
            refine ul_fnG 45 true true (by simp [go_sem]) rfl (by first | (intro _ _ hh; exact hh) | simp [go_sem]) (by simp [go_sem]) rfl rfl rfl (by simp [go_sem, h1, h2, h3, h4, h5, hc1, hc3, hc4] <;> rfl) call26 ((hN) _ (by exact hgl)) (by simp [go_sem, h1, h2, h3, h4, h5, hc1, hc3, hc4] <;> rfl) (by simp [go_sem, h1, h2, h3, h4, h5, hc1, hc3, hc4]) rfl rfl ?_
            refine ul_nil ?_
            refine al_fnG 45 true true (by simp [go_sem]) rfl (by simp [go_sem]) rfl rfl (by simp [go_sem, h1, h2, h3, h4, h5, hc1, hc3, hc4] <;> rfl) call15 ((c_Same u (by omega) u) _ (by exact hgl)) (by simp [go_sem, h1, h2, h3, h4, h5, hc1, hc3, hc4] <;> rfl) (by simp [go_sem, h1, h2, h3, h4, h5, hc1, hc3, hc4]) rfl rfl ?_
            refine al_run 2 (sh := []) tyOk (by simp [go_sem, h1, h2, h3, h4, h5, hc1, hc3, hc4] <;> rfl) ?_
            refine al_splitT 56 (by first | rfl | (simp [go_sem, h1, h2, h3, h4, h5, hc1, hc3, hc4] <;> rfl)) (fun h25 => ?_) (fun h25 => ?_)
            · refine al_runG (sh := []) 2 56 true true tyOk (by simp [go_sem]) rfl (by simp [go_sem]) rfl rfl (by simp [go_sem, h1, h2, h3, h4, h5, hc1, hc3, hc4] <;> rfl) ?_
              refine al_run 2 (sh := []) tyOk (by simp [go_sem, h1, h2, h3, h4, h5, hc1, hc3, hc4] <;> rfl) ?_
              refine al_splitT 60 (by first | rfl | (simp [go_sem, h1, h2, h3, h4, h5, hc1, hc3, hc4] <;> rfl)) (fun h26 => ?_) (fun h26 => ?_)
              · refine al_runG (sh := []) 3 60 true true tyOk (by simp [go_sem]) rfl (by simp [go_sem]) rfl rfl (by simp [go_sem, h1, h2, h3, h4, h5, hc1, hc3, hc4] <;> rfl) ?_
                refine al_run 2 (sh := []) tyOk (by simp [go_sem, h1, h2, h3, h4, h5, hc1, hc3, hc4] <;> rfl) ?_
                refine al_splitT 65 (by first | rfl | (simp [go_sem, h1, h2, h3, h4, h5, hc1, hc3, hc4] <;> rfl)) (fun h27 => ?_) (fun h27 => ?_)
                · refine al_runG (sh := []) 1 65 true true tyOk (by simp [go_sem]) rfl (by simp [go_sem]) rfl rfl (by simp [go_sem, h1, h2, h3, h4, h5, hc1, hc3, hc4] <;> rfl) ?_
                  refine al_fnG 65 true true (by simp [go_sem]) rfl (by simp [go_sem]) rfl rfl (by simp [go_sem, h1, h2, h3, h4, h5, hc1, hc3, hc4] <;> rfl) call11 ((c_flat_Check z (by omega)) _ (by exact hgl)) (by simp [go_sem, h1, h2, h3, h4, h5, hc1, hc3, hc4] <;> rfl) (by simp [go_sem, h1, h2, h3, h4, h5, hc1, hc3, hc4, hz]) rfl rfl ?_
                  refine al_runG (sh := []) 1 65 true true tyOk (by simp [go_sem]) rfl (by simp [go_sem]) rfl rfl (by simp [go_sem, h1, h2, h3, h4, h5, hc1, hc3, hc4] <;> rfl) ?_
                  refine al_run 2 (sh := []) tyOk (by simp [go_sem, h1, h2, h3, h4, h5, hc1, hc3, hc4] <;> rfl) ?_
                  refine al_nil ?_
                  refine awp_ret ?_
                  refine ends_ret (by simp [go_sem] <;> rfl) (by simp [go_sem]) ?_
                  exact ⟨by simp [go_sem], by simp [go_sem]⟩
                · cases h27
              · cases h26
            · cases h25
          · cases h24
        · cases h23
      · cases h22
    · cases h21
  · cases h20

theorem c_alive (σ : Store) (hσ : σ = ⟨(GL kr), [], []⟩) : PurAt Tryz.prog σ 16 [] (.pv (.bool true)) := by
  obtain ⟨c0, r, hc1, hc2⟩ := ex_kids
  subst hσ
  exact c_alive_of _ rfl exD exC c0 (dlist []) (dnum 0) [] _ c_example ex_size ex_check ex_Size ex_canon ex_reach hc1 (by rw [hc2]; rfl) (Nat.le_of_ble_eq_true rfl) (c_pagodaref01_Num 0) (deq_refl _) (enc_list []) (Nat.le_of_ble_eq_true rfl) ex_none

end Go.Proofs.YtienmmfjjffjaaaGreatDoor

/- FlatChecks. -/
namespace Go.Proofs.YtienmmfjjffjaaaGreatDoor
open Go Go.Aw
variable {kr : ResO}
end Go.Proofs.YtienmmfjjffjaaaGreatDoor

/- FlatDefs. -/
namespace Go.Proofs.YtienmmfjjffjaaaGreatDoor
open Go Go.Aw
variable {kr : ResO}
end Go.Proofs.YtienmmfjjffjaaaGreatDoor

/- The specification: other labels, programs as data, Canon. -/
namespace Go.Proofs.YtienmmfjjffjaaaGreatDoor
open Go Go.Aw
variable {kr : ResO}
set_option maxHeartbeats 1000000 in
theorem c_refDatum (l : List Df) (hl : l.length ≤ 1000000000) (hps : ∀ x, x ∈ l → x.ps.length ≤ 1000000000) : Pur Tryz.prog (GL kr) 23 [.pv (.slice (l.map encDf))] (.pv (enc (progD l))) := by
  refine pur_of fun σ hgl => ?_
  refine acalls_of tyOk Tryz.func23 rfl (by simp [Tryz.f23]) ?_
  refine awp_seq ?_
  refine awp_region_run (sh := []) tyOk (by simp [go_sem] <;> rfl) ?_
  refine awp_seq ?_
  refine awp_region_run (sh := []) tyOk (by simp [go_sem] <;> rfl) ?_
  refine awp_seq ?_
  refine awp_seq ?_
  refine awp_region_run (sh := []) tyOk (by simp [go_sem] <;> rfl) ?_
  refine awp_adopt' 3 24 4 (by simp [go_sem] <;> rfl) ?_
  refine awp_block ?_
  refine awp_loop_headK σ.objs.length (σ.toks.length + 1) 1 [0, 2] (fun k : Nat => [(3, .acc ((outN l dfD k).map enc) σ.toks.length), (4, .pv (.int .i64 ↑k))]) (fun k => { σ with toks := σ.toks ++ [⟨k, 24, 4⟩] }) (fun k => k ≤ l.length) (fun k => l.length - k) 0 (Nat.zero_le _) ⟨by simp [go_sem, outN_zero], rfl, by simp, by simp, by simp [go_sem, outN_zero], fun ob h => .inl (by simpa [go_sem, outN_zero] using h), by simp [go_sem]⟩ ?_
  intro k hk
  refine awp_seq ?_
  refine awp_seq ?_
  refine awp_region_run (sh := []) tyOk (by simp [go_sem] <;> rfl) ?_
  refine awp_cond (by first | rfl | (simp [go_sem] <;> rfl)) (fun h0 => ?_) (fun h0 => ?_)
  · have hlt : k < l.length := by simp at h0; omega
    have hw : IntKind.i64.wrap (↑k + 1) = (k : Int) + 1 := wrap_succ (by omega)
    obtain ⟨x, hx, hxm⟩ := get_lt hlt
    have hon := outN_next (h := dfD) hx
    have hdf : dfD x = dlist [x.lab, symsD x.ps, x.bod] := rfl
    have hol := outN_len (l := l) (h := dfD) hk
    have hbb : (k + 1) * 56 ≤ 140737488355328 := by omega
    refine awp_skip ?_
    refine awp_seq ?_
    refine awp_block ?_
    refine awp_regDC tyOk tySz 20 (by kernel_rfl) (by decide) ?_
    refine ul_run 11 (by simp [go_sem, hx, hol, hbb] <;> rfl) ?_
    refine ul_fn (by first | (intro _ _ hh; exact hh) | simp [go_sem]) rfl rfl rfl rfl (by simp [go_sem, hx, hol, hbb] <;> rfl) call60 ((c_Symbols x.ps (hps x hxm)) _ (by exact hgl)) (by simp [go_sem, hx, hol, hbb] <;> rfl) (by simp [go_sem, hx, hol, hbb]) rfl rfl ?_
    refine ul_run 6 (by simp [go_sem, hx, hol, hbb] <;> rfl) ?_
    refine ul_fn (by first | (intro _ _ hh; exact hh) | simp [go_sem]) rfl rfl rfl rfl (by simp [go_sem, hx, hol, hbb] <;> rfl) call59 ((c_List01 [x.lab, symsD x.ps, x.bod] (by simp)) _ (by exact hgl)) (by simp [go_sem, hx, hol, hbb] <;> rfl) (by simp [go_sem, hx, hol, hbb]) rfl rfl ?_
    refine ul_run 1 (by simp [go_sem, hx, hol, hbb] <;> rfl) ?_
    refine ul_nil ?_
    refine al_run 2 (sh := []) tyOk (by simp [go_sem, hx, hol, hbb] <;> rfl) ?_
    refine al_nil ?_
    refine awp_region_run (sh := []) tyOk (by simp [go_sem, hx, hol, hbb] <;> rfl) ?_
    exact next_intro (k + 1) σ.objs.length (σ.toks.length + 1) 1 (hlt) (by omega) ⟨by simp [go_sem, hx, hol, hbb, hw, hon, hdf], rfl, by simp, by simp, by simp [go_sem, hx, hol, hbb, hw, hon, hdf], fun ob h => .inl (by simpa [go_sem, hx, hol, hbb, hw, hon, hdf] using h), by simp [go_sem]⟩
  · have hke : k = l.length := by simp at h0; omega
    subst hke
    refine awp_exit ?_
    refine then_exit ?_
    refine then_exit ?_
    refine inBlock_hit ?_
    refine awp_seq ?_
    refine awp_reg ?_
    refine al_run 1 (sh := []) tyOk (by simp [go_sem, outN_all] <;> rfl) ?_
    refine al_fn rfl rfl rfl (by simp [go_sem, outN_all] <;> rfl) call59 ((c_List01 (l.map dfD) (by simpa using hl)) _ (by exact hgl)) (by simp [go_sem, outN_all] <;> rfl) (by simp [go_sem, outN_all]) rfl rfl ?_
    refine al_run 1 (sh := []) tyOk (by simp [go_sem, outN_all] <;> rfl) ?_
    refine al_nil ?_
    refine awp_ret ?_
    refine ends_ret (by simp [go_sem] <;> rfl) (by simp [go_sem]) ?_
    exact ⟨by simp [go_sem, progD], by simp [go_sem]⟩

end Go.Proofs.YtienmmfjjffjaaaGreatDoor

/- The specification: Join; FlatJoins. -/
namespace Go.Proofs.YtienmmfjjffjaaaGreatDoor
open Go Go.Aw
variable {kr : ResO}
set_option maxHeartbeats 1000000 in
theorem c_refJoin (p q : D) (R : Right p) (S : Right q) (hp : p.size ≤ 400000000) (hq : q.size ≤ 400000000) (P Q : List Df) (hP : P = rdefs p) (hQ : Q = rdefs q) : Pur Tryz.prog (GL kr) 34 [.pv (.slice (P.map encDf)), .pv (.slice (Q.map encDf))] (.tuple [.pv (enc (fjoin p q).1), .pv (.int .i64 (fjoin p q).2)]) := by
  have hrp := R.len
  have hrq := S.len
  have hql := S.rdefs_len
  rw [← hQ] at hql hrq
  have hpl := R.rdefs_len
  rw [← hP] at hpl hrp
  have hb0 : p.kids.length * 136 ≤ 140737488355328 := by omega
  have hpd := join_progD R S
  have hjs := joinD_size p q
  have hja := joinL_apart p q
  have hjl := jdf_all_len p q
  refine pur_of fun σ hgl => ?_
  refine acalls_of tyOk Tryz.func34 rfl (by simp [Tryz.f34]) ?_
  refine awp_seq ?_
  refine awp_region_run (sh := []) tyOk (by simp [go_sem, hql, hpl, hb0] <;> rfl) ?_
  refine awp_seq ?_
  have hj0 := jdf_zero (q := q) R
  rw [← hP] at hj0
  refine awp_region_run (sh := []) tyOk (by simp [go_sem, hql, hpl, hb0] <;> rfl) ?_
  refine awp_seq ?_
  refine awp_seq ?_
  refine awp_region_run (sh := []) tyOk (by simp [go_sem, hql, hpl, hb0] <;> rfl) ?_
  refine awp_block ?_
  refine awp_loop_headK σ.objs.length (σ.toks.length + 1) 1 [0, 1, 4, 5] (fun k : Nat => [(6, .acc ((jdf p q k).map encDf) σ.toks.length), (7, .pv (.int .i64 ↑k))]) (fun k => { σ with toks := σ.toks ++ [⟨(jdf p q k).length, 41, 9⟩] }) (fun k => k ≤ q.kids.length) (fun k => q.kids.length - k) 0 (Nat.zero_le _) ⟨by simp [go_sem, hql, hpl, hb0, hj0], rfl, by simp, by simp, by simp [go_sem, hql, hpl, hb0, hj0], fun ob h => .inl (by simpa [go_sem, hql, hpl, hb0, hj0] using h), by simp [go_sem]⟩ ?_
  intro k hk
  refine awp_seq ?_
  refine awp_seq ?_
  refine awp_region_run (sh := []) tyOk (by simp [go_sem, hql, hpl, hb0] <;> rfl) ?_
  refine awp_cond (by first | rfl | (simp [go_sem, hql, hpl, hb0] <;> rfl)) (fun h0 => ?_) (fun h0 => ?_)
  · have hlt : k < q.kids.length := by simp at h0; omega
    have hw : IntKind.i64.wrap (↑k + 1) = (k : Int) + 1 := wrap_succ (by omega)
    obtain ⟨x, hx, hxm⟩ := get_lt hlt
    obtain ⟨x0, x1, x2, ns, hkk, hns, htd, hxh, _⟩ := S.df hxm
    have hqx := S.rdefs_get hx
    rw [← hQ] at hqx
    have hjl2 := jdf_len (p := p) (q := q) hk
    have hbb : ((jdf p q k).length + 1) * 136 ≤ 140737488355328 := by omega
    refine awp_skip ?_
    refine awp_seq ?_
    refine awp_block ?_
    refine awp_seq ?_
    refine awp_reg ?_
    refine al_run 6 (sh := []) tyOk (by simp [go_sem, hql, hpl, hb0, hx, hqx, htd, agg_df] <;> rfl) ?_
    refine al_fn rfl rfl rfl (by simp [go_sem, hql, hpl, hb0, hx, hqx, htd, agg_df] <;> rfl) call39 ((c_Find P (by omega) x0 (fun y hy => by have := (R.small y (hP ▸ hy)).1; omega)) _ (by exact hgl)) (by simp [go_sem, hql, hpl, hb0, hx, hqx, htd, agg_df] <;> rfl) (by simp [go_sem, hql, hpl, hb0, hx, hqx, htd, agg_df]) rfl rfl ?_
    refine al_run 1 (sh := []) tyOk (by simp [go_sem, hql, hpl, hb0, hx, hqx, htd, agg_df] <;> rfl) ?_
    refine al_nil ?_
    refine awp_cond (by first | rfl | (simp [go_sem, hql, hpl, hb0, hx, hqx, htd, agg_df] <;> rfl)) (fun h1 => ?_) (fun h1 => ?_)
    · have hn0 : findI (rdefs p) x.head < 0 := by rw [← hP, hxh]; simpa using h1
      have hjn := jdf_new R hx hn0
      rw [htd] at hjn
      refine awp_region_run (sh := []) tyOk (by simp [go_sem, hql, hpl, hb0, hx, hqx, htd, agg_df, hbb] <;> rfl) ?_
      refine awp_region_run (sh := []) tyOk (by simp [go_sem, hql, hpl, hb0, hx, hqx, htd, agg_df, hbb] <;> rfl) ?_
      exact next_intro (k + 1) σ.objs.length (σ.toks.length + 1) 1 (hlt) (by omega) ⟨by simp [go_sem, hql, hpl, hb0, hx, hqx, htd, agg_df, hbb, hw, hjn], rfl, by simp, by simp, by simp [go_sem, hql, hpl, hb0, hx, hqx, htd, agg_df, hbb, hw, hjn], fun ob h => .inl (by simpa [go_sem, hql, hpl, hb0, hx, hqx, htd, agg_df, hbb, hw, hjn] using h), by simp [go_sem]⟩
    · have hn0 : ¬ findI (rdefs p) x.head < 0 := by rw [← hP, hxh]; simpa using h1
      have hjn := jdf_old R hx hn0
      refine awp_skip ?_
      refine awp_region_run (sh := []) tyOk (by simp [go_sem, hql, hpl, hb0, hx, hqx, htd, agg_df] <;> rfl) ?_
      exact next_intro (k + 1) σ.objs.length (σ.toks.length + 1) 1 (hlt) (by omega) ⟨by simp [go_sem, hql, hpl, hb0, hx, hqx, htd, agg_df, hw, hjn], rfl, by simp, by simp, by simp [go_sem, hql, hpl, hb0, hx, hqx, htd, agg_df, hw, hjn], fun ob h => .inl (by simpa [go_sem, hql, hpl, hb0, hx, hqx, htd, agg_df, hw, hjn] using h), by simp [go_sem]⟩
  · have hke : k = q.kids.length := by simp at h0; omega
    subst hke
    have hpsm : ∀ x, x ∈ jdf p q q.kids.length → x.ps.length ≤ 1000000000 := jdf_small R S
    refine awp_exit ?_
    refine then_exit ?_
    refine then_exit ?_
    refine inBlock_hit ?_
    refine awp_seq ?_
    refine awp_reg ?_
    refine al_run 1 (sh := []) tyOk (by simp [go_sem, hql, hpl, hb0] <;> rfl) ?_
    refine al_fn rfl rfl rfl (by simp [go_sem, hql, hpl, hb0] <;> rfl) call23 ((c_refDatum (jdf p q q.kids.length) (by have := jdf_len (p := p) (q := q) (Nat.le_refl q.kids.length); omega) hpsm) _ (by exact hgl)) (by simp [go_sem, hql, hpl, hb0] <;> rfl) (by simp [go_sem, hql, hpl, hb0]) rfl rfl ?_
    refine al_run 2 (sh := []) tyOk (by simp [go_sem, hql, hpl, hb0, hpd] <;> rfl) ?_
    refine al_nil ?_
    refine awp_seq ?_
    refine awp_seq ?_
    refine awp_reg ?_
    refine al_run 4 (sh := []) tyOk (by simp [go_sem, hql, hpl, hb0, hpd] <;> rfl) ?_
    refine al_splitT 40 (by first | rfl | (simp [go_sem, hql, hpl, hb0, hpd] <;> rfl)) (fun h2 => ?_) (fun h2 => ?_)
    · refine al_skip 3 40 false (by simp [go_sem]) (by simp [go_sem]) rfl rfl ?_
      refine al_run 1 (sh := []) tyOk (by simp [go_sem, hql, hpl, hb0, hpd] <;> rfl) ?_
      refine al_nil ?_
      refine awp_cond (b := true) (by simp [go_sem, hql, hpl, hb0, hpd, h2]) (fun h => ?_) (fun h => ?_)
      rotate_left
      · cases h
      refine awp_seq ?_
      refine awp_region_run (sh := []) tyOk (by simp [go_sem, hql, hpl, hb0, hpd] <;> rfl) ?_
      refine awp_ret ?_
      refine then_ret ?_
      refine ends_ret (by simp [go_sem] <;> rfl) (by simp [go_sem]) ?_
      have hs : fjoin p q = (dnone, 3) := by rw [fjoin_ok R.chk S.chk, ← hjl]; simp only [Bool.not_true, hql, hpl, hb0, hpd, h2, Bool.true_or, Bool.or_true, Bool.false_or, Bool.or_false, Bool.true_and, Bool.and_true, Bool.false_and, Bool.and_false, Bool.not_true, Bool.not_false, Bool.false_eq_true, if_true, if_false]
      exact ⟨by rw [hs]; simp [go_sem, enc_none], by simp [go_sem]⟩
    · refine al_runG (sh := []) 1 40 false false tyOk (by simp [go_sem]) rfl (by simp [go_sem]) rfl rfl (by simp [go_sem, hql, hpl, hb0, hpd] <;> rfl) ?_
      refine al_fnG 40 false false (by simp [go_sem]) rfl (by simp [go_sem]) rfl rfl (by simp [go_sem, hql, hpl, hb0, hpd] <;> rfl) call29 ((c_Check01 (joinD p q) (by omega)) _ (by exact hgl)) (by simp [go_sem, hql, hpl, hb0, hpd] <;> rfl) (by simp [go_sem, hql, hpl, hb0, hpd]) rfl rfl ?_
      refine al_runG (sh := []) 1 40 false false tyOk (by simp [go_sem]) rfl (by simp [go_sem]) rfl rfl (by simp [go_sem, hql, hpl, hb0, hpd] <;> rfl) ?_
      refine al_run 1 (sh := []) tyOk (by simp [go_sem, hql, hpl, hb0, hpd] <;> rfl) ?_
      refine al_nil ?_
      refine awp_cond (by first | rfl | (simp [go_sem, hql, hpl, hb0, hpd] <;> rfl)) (fun h3 => ?_) (fun h3 => ?_)
      · refine awp_seq ?_
        refine awp_region_run (sh := []) tyOk (by simp [go_sem, hql, hpl, hb0, hpd] <;> rfl) ?_
        refine awp_ret ?_
        refine then_ret ?_
        refine ends_ret (by simp [go_sem] <;> rfl) (by simp [go_sem]) ?_
        have hs : fjoin p q = (dnone, 3) := by rw [fjoin_ok R.chk S.chk, ← hjl]; simp only [Bool.not_true, hql, hpl, hb0, hpd, h2, h3, Bool.true_or, Bool.or_true, Bool.false_or, Bool.or_false, Bool.true_and, Bool.and_true, Bool.false_and, Bool.and_false, Bool.not_true, Bool.not_false, Bool.false_eq_true, if_true, if_false]
        exact ⟨by rw [hs]; simp [go_sem, enc_none], by simp [go_sem]⟩
      · refine awp_skip ?_
        refine awp_seq ?_
        refine awp_seq ?_
        refine awp_region_run (sh := []) tyOk (by simp [go_sem, hql, hpl, hb0, hpd] <;> rfl) ?_
        refine awp_block ?_
        refine awp_loop_headK σ.objs.length (σ.toks.length + 1) 2 [0, 1, 4, 5, 8] (fun k : Nat => [(9, .pv (.int .i64 ↑k))]) (fun k => { σ with toks := σ.toks ++ [⟨(jdf p q q.kids.length).length, 41, 9⟩] }) (fun k => k ≤ q.kids.length ∧ NotYet (apartB p) q.kids k) (fun k => q.kids.length - k) 0 (⟨Nat.zero_le _, .zero⟩) ⟨by simp [go_sem, hql, hpl, hb0, hpd], rfl, by simp, by simp, by simp [go_sem, hql, hpl, hb0, hpd], fun ob h => .inl (by simpa [go_sem, hql, hpl, hb0, hpd] using h), by simp [go_sem]⟩ ?_
        rintro k ⟨hk, hn⟩
        refine awp_seq ?_
        refine awp_seq ?_
        refine awp_region_run (sh := []) tyOk (by simp [go_sem, hql, hpl, hb0, hpd] <;> rfl) ?_
        refine awp_cond (by first | rfl | (simp [go_sem, hql, hpl, hb0, hpd] <;> rfl)) (fun h4 => ?_) (fun h4 => ?_)
        · have hlt : k < q.kids.length := by simp at h4; omega
          have hw : IntKind.i64.wrap (↑k + 1) = (k : Int) + 1 := wrap_succ (by omega)
          obtain ⟨x, hx, hxm⟩ := get_lt hlt
          obtain ⟨x0, x1, x2, ns, hkk, hns, htd, hxh, _⟩ := S.df hxm
          have hqx := S.rdefs_get hx
          rw [← hQ] at hqx
          refine awp_skip ?_
          refine awp_seq ?_
          refine awp_block ?_
          refine awp_seq ?_
          refine awp_reg ?_
          refine al_run 6 (sh := []) tyOk (by simp [go_sem, hql, hpl, hb0, hpd, hx, hqx, htd, agg_df] <;> rfl) ?_
          refine al_fn rfl rfl rfl (by simp [go_sem, hql, hpl, hb0, hpd, hx, hqx, htd, agg_df] <;> rfl) call39 ((c_Find P (by omega) x0 (fun y hy => by have := (R.small y (hP ▸ hy)).1; omega)) _ (by exact hgl)) (by simp [go_sem, hql, hpl, hb0, hpd, hx, hqx, htd, agg_df] <;> rfl) (by simp [go_sem, hql, hpl, hb0, hpd, hx, hqx, htd, agg_df]) rfl rfl ?_
          refine al_run 1 (sh := []) tyOk (by simp [go_sem, hql, hpl, hb0, hpd, hx, hqx, htd, agg_df] <;> rfl) ?_
          refine al_nil ?_
          refine awp_seq ?_
          refine awp_regDP tyOk tySz 15 (by kernel_rfl) (by decide) ?_
          refine ul_run 3 (by simp [go_sem, hql, hpl, hb0, hpd, hx, hqx, htd, agg_df] <;> rfl) ?_
          refine ul_splitT 61 (by first | rfl | (simp [go_sem, hql, hpl, hb0, hpd, hx, hqx, htd, agg_df] <;> rfl)) (fun h5 => ?_) (fun h5 => ?_)
          · have hn0 : ¬ findI (rdefs p) x.head < 0 := by rw [← hP, hxh]; have := h5; simp at this; omega
            obtain ⟨hi0, y, hy, hfy, hiy⟩ := R.find_some hn0
            rw [hxh, ← hP] at hi0 hiy
            obtain ⟨y0, y1, y2, ms, hkk2, hns2, htd2, _⟩ := R.df hy
            have hap := apart_is R S hxm hy hfy
            rw [htd, htd2] at hap
            refine ul_runG 12 61 true true (by simp [go_sem]) rfl (by simp [go_sem]) rfl rfl (by simp [go_sem, hql, hpl, hb0, hpd, hx, hqx, htd, agg_df, hi0, hiy, htd2] <;> rfl) ?_
            refine ul_nil ?_
            refine al_runG (sh := []) 1 61 true true tyOk (by simp [go_sem]) rfl (by simp [go_sem]) rfl rfl (by simp [go_sem, hql, hpl, hb0, hpd, hx, hqx, htd, agg_df, hi0, hiy, htd2] <;> rfl) ?_
            refine al_run 1 (sh := []) tyOk (by simp [go_sem, hql, hpl, hb0, hpd, hx, hqx, htd, agg_df, hi0, hiy, htd2] <;> rfl) ?_
            refine al_nil ?_
            refine awp_cond (by first | rfl | (simp [go_sem, hql, hpl, hb0, hpd, hx, hqx, htd, agg_df, hi0, hiy, htd2] <;> rfl)) (fun h6 => ?_) (fun h6 => ?_)
            · have hany : (q.kids.any (apartB p)) = true := any_found (p := apartB p) hx (by rw [hap]; exact h6)
              have hjx : (joinL p q).2 = true := by rw [hja, hany]
              refine awp_seq ?_
              refine awp_region_run (sh := []) tyOk (by simp [go_sem, hql, hpl, hb0, hpd, hx, hqx, htd, agg_df, hi0, hiy, htd2] <;> rfl) ?_
              refine awp_ret ?_
              refine inBlock_ret ?_
              refine then_ret ?_
              refine then_ret ?_
              refine inBlock_ret ?_
              refine then_ret ?_
              refine ends_ret (by simp [go_sem] <;> rfl) (by simp [go_sem]) ?_
              have hs : fjoin p q = (dnone, 11) := by rw [fjoin_ok R.chk S.chk, ← hjl]; simp only [Bool.not_true, hql, hpl, hb0, hpd, hx, hqx, htd, agg_df, hi0, hiy, htd2, h2, h3, h4, h5, h6, hjx, Bool.true_or, Bool.or_true, Bool.false_or, Bool.or_false, Bool.true_and, Bool.and_true, Bool.false_and, Bool.and_false, Bool.not_true, Bool.not_false, Bool.false_eq_true, if_true, if_false]
              exact ⟨by rw [hs]; simp [go_sem, enc_none], by simp [go_sem]⟩
            · refine awp_skip ?_
              refine awp_region_run (sh := []) tyOk (by simp [go_sem, hql, hpl, hb0, hpd, hx, hqx, htd, agg_df, hi0, hiy, htd2] <;> rfl) ?_
              exact next_intro (k + 1) σ.objs.length (σ.toks.length + 1) 2 (⟨hlt, hn.succ hx (by first | exact hap.trans h6 | exact hap)⟩) (by omega) ⟨by simp [go_sem, hql, hpl, hb0, hpd, hx, hqx, htd, agg_df, hi0, hiy, htd2, hw], rfl, by simp, by simp, by simp [go_sem, hql, hpl, hb0, hpd, hx, hqx, htd, agg_df, hi0, hiy, htd2, hw], fun ob h => .inl (by simpa [go_sem, hql, hpl, hb0, hpd, hx, hqx, htd, agg_df, hi0, hiy, htd2, hw] using h), by simp [go_sem]⟩
          · have hn0 : findI (rdefs p) x.head < 0 := by rw [← hP, hxh]; have := h5; simp at this; omega
            have hap := apart_no hn0 R
            refine ul_skip 12 61 true (by simp [go_sem]) (by simp [go_sem]) rfl rfl ?_
            refine ul_nil ?_
            refine al_skip 1 61 true (by simp [go_sem]) (by simp [go_sem]) rfl rfl ?_
            refine al_run 1 (sh := []) tyOk (by simp [go_sem, hql, hpl, hb0, hpd, hx, hqx, htd, agg_df] <;> rfl) ?_
            refine al_nil ?_
            refine awp_cond (b := false) (by simp [go_sem, hql, hpl, hb0, hpd, hx, hqx, htd, agg_df, h2, h3, h4, h5]) (fun h => ?_) (fun h => ?_)
            · cases h
            refine awp_skip ?_
            refine awp_region_run (sh := []) tyOk (by simp [go_sem, hql, hpl, hb0, hpd, hx, hqx, htd, agg_df] <;> rfl) ?_
            exact next_intro (k + 1) σ.objs.length (σ.toks.length + 1) 2 (⟨hlt, hn.succ hx (by first | exact hap.trans h5 | exact hap)⟩) (by omega) ⟨by simp [go_sem, hql, hpl, hb0, hpd, hx, hqx, htd, agg_df, hw], rfl, by simp, by simp, by simp [go_sem, hql, hpl, hb0, hpd, hx, hqx, htd, agg_df, hw], fun ob h => .inl (by simpa [go_sem, hql, hpl, hb0, hpd, hx, hqx, htd, agg_df, hw] using h), by simp [go_sem]⟩
        · have hke : k = q.kids.length := by simp at h4; omega
          subst hke
          have hjx : (joinL p q).2 = false := by rw [hja, hn.any]
          refine awp_exit ?_
          refine then_exit ?_
          refine then_exit ?_
          refine inBlock_hit ?_
          refine awp_seq ?_
          refine awp_region_run (sh := []) tyOk (by simp [go_sem, hql, hpl, hb0, hpd] <;> rfl) ?_
          refine awp_ret ?_
          refine ends_ret (by simp [go_sem] <;> rfl) (by simp [go_sem]) ?_
          have hs : fjoin p q = (joinD p q, 0) := by rw [fjoin_ok R.chk S.chk, ← hjl]; simp only [Bool.not_true, hql, hpl, hb0, hpd, h2, h3, hjx, Bool.true_or, Bool.or_true, Bool.false_or, Bool.or_false, Bool.true_and, Bool.and_true, Bool.false_and, Bool.and_false, Bool.not_true, Bool.not_false, Bool.false_eq_true, if_true, if_false]
          exact ⟨by rw [hs]; simp [go_sem], by simp [go_sem]⟩

end Go.Proofs.YtienmmfjjffjaaaGreatDoor

/- FlatJoins. -/
namespace Go.Proofs.YtienmmfjjffjaaaGreatDoor
open Go Go.Aw
variable {kr : ResO}
theorem c_flat_JoinO (p q : D) (hp : p.size ≤ 400000000) (hq : q.size ≤ 400000000) (z : D × Int) (hz : z = fjoin p q) : Pur Tryz.prog (GL kr) 33 [.pv (enc p), .pv (enc q)] (.tuple [.pv (enc z.1), .pv (.int .i64 z.2)]) := by rw [hz]; exact c_flat_Join p q hp hq
theorem c_refCheckO (p : D) (hp : p.size ≤ 900000000) (l : List Df) (e : Int) (hl : l = rdefs p) (he : e = fcheck p) : Pur Tryz.prog (GL kr) 10 [.pv (enc p)] (.tuple [.pv (.slice (l.map encDf)), .pv (.int .i64 e)]) := by rw [hl, he]; exact c_refCheck p hp
theorem c_refJoinO (p q : D) (R : Right p) (S : Right q) (hp : p.size ≤ 400000000) (hq : q.size ≤ 400000000) (P Q : List Df) (hP : P = rdefs p) (hQ : Q = rdefs q) (z : D × Int) (hz : z = fjoin p q) : Pur Tryz.prog (GL kr) 34 [.pv (.slice (P.map encDf)), .pv (.slice (Q.map encDf))] (.tuple [.pv (enc z.1), .pv (.int .i64 z.2)]) := by rw [hz]; exact c_refJoin p q R S hp hq P Q hP hQ

set_option maxHeartbeats 1000000 in
theorem c_FlatJoins (p q : D) (σ : Store) (hσ : σ = ⟨(GL kr), [], []⟩) : PurAt Tryz.prog σ 7 [.pv (enc p), .pv (enc q)] (.pv (.bool true)) := by
  have hgl : σ.gl = (GL kr) := by rw [hσ]
  have hdn := deq_refl dnone
  refine purAt_of ?_
  refine acalls_of tyOk Tryz.func7 rfl (by simp [Tryz.f7]) ?_
  refine awp_seq ?_
  refine awp_region_run (sh := []) tyOk (by simp [go_sem, hdn, enc_none] <;> rfl) ?_
  refine awp_seq ?_
  refine awp_regDA (os := []) tyOk tySz 4 (by kernel_rfl) (by decide) rfl rfl ?_
  refine ul_run 1 (by simp [go_sem, hdn, enc_none] <;> rfl) ?_
  refine ul_callW (by simp [go_sem]) rfl rfl rfl rfl (by simp [go_sem, hdn, enc_none] <;> rfl) call9 (c_Cut17 p σ hgl) (by simp [go_sem, hdn, enc_none] <;> rfl) (by simp [go_sem, hdn, enc_none]) rfl rfl ⟨_, _, dnone, rfl, rfl, by simp [dnone, D.size, D.sizes]⟩ ?_
  rintro r σ1 ⟨x, rfl, hs1, hx⟩
  rw [hs1]
  clear hs1 σ1
  refine ul_run 1 (by simp [go_sem, hdn, enc_none] <;> rfl) ?_
  refine ul_callW (by simp [go_sem]) rfl rfl rfl rfl (by simp [go_sem, hdn, enc_none] <;> rfl) call9 (c_Cut17 q σ hgl) (by simp [go_sem, hdn, enc_none] <;> rfl) (by simp [go_sem, hdn, enc_none]) rfl rfl ⟨_, _, dnone, rfl, rfl, by simp [dnone, D.size, D.sizes]⟩ ?_
  rintro r σ1 ⟨y, rfl, hs1, hy⟩
  rw [hs1]
  clear hs1 σ1
  refine ul_nil ?_
  refine ⟨?_, ?_⟩
  · refine ul_run 2 (by simp [go_sem, hdn, enc_none] <;> rfl) ?_
    refine ul_nil ?_
    refine al_run 2 (sh := []) tyOk (by simp [go_sem, hdn, enc_none] <;> rfl) ?_
    refine al_nil ?_
    refine awp_seq ?_
    obtain ⟨z, hz⟩ : ∃ z, z = fjoin x y := ⟨_, rfl⟩
    obtain ⟨X, hX⟩ : ∃ z, z = rdefs x := ⟨_, rfl⟩
    obtain ⟨Y, hY⟩ : ∃ z, z = rdefs y := ⟨_, rfl⟩
    obtain ⟨ex, hex⟩ : ∃ z, z = fcheck x := ⟨_, rfl⟩
    obtain ⟨ey, hey⟩ : ∃ z, z = fcheck y := ⟨_, rfl⟩
    refine awp_reg ?_
    refine al_run 1 (sh := []) tyOk (by simp [go_sem, hdn, enc_none] <;> rfl) ?_
    refine al_fn rfl rfl rfl (by simp [go_sem, hdn, enc_none] <;> rfl) call10 ((c_refCheckO x (by omega) X ex hX hex) _ (by exact hgl)) (by simp [go_sem, hdn, enc_none] <;> rfl) (by simp [go_sem, hdn, enc_none]) rfl rfl ?_
    refine al_run 5 (sh := []) tyOk (by simp [go_sem, hdn, enc_none] <;> rfl) ?_
    refine al_nil ?_
    refine awp_seq ?_
    refine awp_reg ?_
    refine al_run 1 (sh := []) tyOk (by simp [go_sem, hdn, enc_none] <;> rfl) ?_
    refine al_fn rfl rfl rfl (by simp [go_sem, hdn, enc_none] <;> rfl) call10 ((c_refCheckO y (by omega) Y ey hY hey) _ (by exact hgl)) (by simp [go_sem, hdn, enc_none] <;> rfl) (by simp [go_sem, hdn, enc_none]) rfl rfl ?_
    refine al_run 5 (sh := []) tyOk (by simp [go_sem, hdn, enc_none] <;> rfl) ?_
    refine al_nil ?_
    refine awp_seq ?_
    refine awp_reg ?_
    refine al_run 2 (sh := []) tyOk (by simp [go_sem, hdn, enc_none] <;> rfl) ?_
    refine al_fn rfl rfl rfl (by simp [go_sem, hdn, enc_none] <;> rfl) call33 ((c_flat_JoinO x y (by omega) (by omega) z hz) _ (by exact hgl)) (by simp [go_sem, hdn, enc_none] <;> rfl) (by simp [go_sem, hdn, enc_none]) rfl rfl ?_
    refine al_run 6 (sh := []) tyOk (by simp [go_sem, hdn, enc_none] <;> rfl) ?_
    refine al_nil ?_
    refine awp_seq ?_
    refine awp_region_run (sh := []) tyOk (by simp [go_sem, hdn, enc_none] <;> rfl) ?_
    refine awp_seq ?_
    refine awp_seq ?_
    refine awp_region_run (sh := []) tyOk (by simp [go_sem, hdn, enc_none] <;> rfl) ?_
    refine awp_cond (by first | rfl | (simp [go_sem, hdn, enc_none] <;> rfl)) (fun h0 => ?_) (fun h0 => ?_)
    · have R : Right x := ⟨by rw [← hex]; simpa using h0, by omega⟩
      have hchk := R.chk
      rw [← hex] at hchk
      have hdj := deq_refl z.1
      refine awp_region_run (sh := []) tyOk (by simp [go_sem, hdn, enc_none, hchk, hdj] <;> rfl) ?_
      refine awp_seq ?_
      refine awp_seq ?_
      refine awp_region_run (sh := []) tyOk (by simp [go_sem, hdn, enc_none, hchk, hdj] <;> rfl) ?_
      refine awp_cond (by first | rfl | (simp [go_sem, hdn, enc_none, hchk, hdj] <;> rfl)) (fun h1 => ?_) (fun h1 => ?_)
      · have S : Right y := ⟨by rw [← hey]; simpa using h1, by omega⟩
        have hchy := S.chk
        rw [← hey] at hchy
        refine awp_reg ?_
        refine al_run 2 (sh := []) tyOk (by simp [go_sem, hdn, enc_none, hchk, hdj, hchy] <;> rfl) ?_
        refine al_fn rfl rfl rfl (by simp [go_sem, hdn, enc_none, hchk, hdj, hchy] <;> rfl) call34 ((c_refJoinO x y R S (by omega) (by omega) X Y hX hY z hz) _ (by exact hgl)) (by simp [go_sem, hdn, enc_none, hchk, hdj, hchy] <;> rfl) (by simp [go_sem, hdn, enc_none, hchk, hdj, hchy]) rfl rfl ?_
        refine al_run 5 (sh := []) tyOk (by simp [go_sem, hdn, enc_none, hchk, hdj, hchy] <;> rfl) ?_
        refine al_nil ?_
        refine awp_seq ?_
        refine awp_reg ?_
        refine al_run 4 (sh := []) tyOk (by simp [go_sem, hdn, enc_none, hchk, hdj, hchy] <;> rfl) ?_
        refine al_splitT 49 (by first | rfl | (simp [go_sem, hdn, enc_none, hchk, hdj, hchy] <;> rfl)) (fun h2 => ?_) (fun h2 => ?_)
        · refine al_runG (sh := []) 2 49 true true tyOk (by simp [go_sem]) rfl (by simp [go_sem]) rfl rfl (by simp [go_sem, hdn, enc_none, hchk, hdj, hchy] <;> rfl) ?_
          refine al_fnG 49 true true (by simp [go_sem]) rfl (by simp [go_sem]) rfl rfl (by simp [go_sem, hdn, enc_none, hchk, hdj, hchy] <;> rfl) call15 ((c_Same z.1 (by have := fjoin_size x y; rw [← hz] at this; omega) z.1) _ (by exact hgl)) (by simp [go_sem, hdn, enc_none, hchk, hdj, hchy] <;> rfl) (by simp [go_sem, hdn, enc_none, hchk, hdj, hchy]) rfl rfl ?_
          refine al_run 2 (sh := []) tyOk (by simp [go_sem, hdn, enc_none, hchk, hdj, hchy] <;> rfl) ?_
          refine al_splitT 54 (by first | rfl | (simp [go_sem, hdn, enc_none, hchk, hdj, hchy] <;> rfl)) (fun h3 => ?_) (fun h3 => ?_)
          · refine al_fnG 54 true true (by simp [go_sem]) rfl (by simp [go_sem]) rfl rfl (by simp [go_sem, hdn, enc_none, hchk, hdj, hchy] <;> rfl) call16 (c_alive σ hσ) (by simp [go_sem, hdn, enc_none, hchk, hdj, hchy] <;> rfl) (by simp [go_sem, hdn, enc_none, hchk, hdj, hchy]) rfl rfl ?_
            refine al_run 2 (sh := []) tyOk (by simp [go_sem, hdn, enc_none, hchk, hdj, hchy] <;> rfl) ?_
            refine al_nil ?_
            refine awp_ret ?_
            refine ends_ret (by simp [go_sem, hdn, enc_none, hchk, hdj, hchy] <;> rfl) (by simp [go_sem]) ?_
            exact ⟨by simp [go_sem], by simp [go_sem]⟩
          · first | (cases h3; done) | (simp at h3; done)
        · first | (cases h2; done) | (simp at h2; done)
      · have hnzy : (ey == 0) = false := h1
        have hJ := fjoin_bad2 R (by rw [← hey]; exact hnzy)
        rw [← hz, ← hey] at hJ
        refine awp_skip ?_
        refine awp_seq ?_
        refine awp_reg ?_
        refine al_run 4 (sh := []) tyOk (by simp [go_sem, hdn, enc_none, hchk, hdj, hnzy, hJ] <;> rfl) ?_
        refine al_splitT 49 (by first | rfl | (simp [go_sem, hdn, enc_none, hchk, hdj, hnzy, hJ] <;> rfl)) (fun h4 => ?_) (fun h4 => ?_)
        · refine al_runG (sh := []) 2 49 true true tyOk (by simp [go_sem]) rfl (by simp [go_sem]) rfl rfl (by simp [go_sem, hdn, enc_none, hchk, hdj, hnzy, hJ] <;> rfl) ?_
          refine al_fnG 49 true true (by simp [go_sem]) rfl (by simp [go_sem]) rfl rfl (by simp [go_sem, hdn, enc_none, hchk, hdj, hnzy, hJ] <;> rfl) call15 ((c_Same z.1 (by have := fjoin_size x y; rw [← hz] at this; omega) z.1) _ (by exact hgl)) (by simp [go_sem, hdn, enc_none, hchk, hdj, hnzy, hJ] <;> rfl) (by simp [go_sem, hdn, enc_none, hchk, hdj, hnzy, hJ]) rfl rfl ?_
          refine al_run 2 (sh := []) tyOk (by simp [go_sem, hdn, enc_none, hchk, hdj, hnzy, hJ] <;> rfl) ?_
          refine al_splitT 54 (by first | rfl | (simp [go_sem, hdn, enc_none, hchk, hdj, hnzy, hJ] <;> rfl)) (fun h5 => ?_) (fun h5 => ?_)
          · refine al_fnG 54 true true (by simp [go_sem]) rfl (by simp [go_sem]) rfl rfl (by simp [go_sem, hdn, enc_none, hchk, hdj, hnzy, hJ] <;> rfl) call16 (c_alive σ hσ) (by simp [go_sem, hdn, enc_none, hchk, hdj, hnzy, hJ] <;> rfl) (by simp [go_sem, hdn, enc_none, hchk, hdj, hnzy, hJ]) rfl rfl ?_
            refine al_run 2 (sh := []) tyOk (by simp [go_sem, hdn, enc_none, hchk, hdj, hnzy, hJ] <;> rfl) ?_
            refine al_nil ?_
            refine awp_ret ?_
            refine ends_ret (by simp [go_sem, hdn, enc_none, hchk, hdj, hnzy, hJ] <;> rfl) (by simp [go_sem]) ?_
            exact ⟨by simp [go_sem], by simp [go_sem]⟩
          · first | (cases h5; done) | (simp at h5; done)
        · first | (cases h4; done) | (simp at h4; done)
    · have hnz : (ex == 0) = false := h0
      have hJ := fjoin_bad1 y (by rw [← hex]; exact hnz)
      rw [← hz, ← hex] at hJ
      refine awp_skip ?_
      refine awp_seq ?_
      refine awp_seq ?_
      refine awp_region_run (sh := []) tyOk (by simp [go_sem, hdn, enc_none, hnz, hJ] <;> rfl) ?_
      refine awp_cond (by first | rfl | (simp [go_sem, hdn, enc_none, hnz, hJ] <;> rfl)) (fun h6 => ?_) (fun h6 => ?_)
      · first | (cases h6; done) | (simp at h6; done)
      · refine awp_skip ?_
        refine awp_seq ?_
        refine awp_reg ?_
        refine al_run 4 (sh := []) tyOk (by simp [go_sem, hdn, enc_none, hnz, hJ] <;> rfl) ?_
        refine al_splitT 49 (by first | rfl | (simp [go_sem, hdn, enc_none, hnz, hJ] <;> rfl)) (fun h7 => ?_) (fun h7 => ?_)
        · refine al_runG (sh := []) 2 49 true true tyOk (by simp [go_sem]) rfl (by simp [go_sem]) rfl rfl (by simp [go_sem, hdn, enc_none, hnz, hJ] <;> rfl) ?_
          refine al_fnG 49 true true (by simp [go_sem]) rfl (by simp [go_sem]) rfl rfl (by simp [go_sem, hdn, enc_none, hnz, hJ] <;> rfl) call15 ((c_Same z.1 (by have := fjoin_size x y; rw [← hz] at this; omega) z.1) _ (by exact hgl)) (by simp [go_sem, hdn, enc_none, hnz, hJ] <;> rfl) (by simp [go_sem, hdn, enc_none, hnz, hJ]) rfl rfl ?_
          refine al_run 2 (sh := []) tyOk (by simp [go_sem, hdn, enc_none, hnz, hJ] <;> rfl) ?_
          refine al_splitT 54 (by first | rfl | (simp [go_sem, hdn, enc_none, hnz, hJ] <;> rfl)) (fun h8 => ?_) (fun h8 => ?_)
          · refine al_fnG 54 true true (by simp [go_sem]) rfl (by simp [go_sem]) rfl rfl (by simp [go_sem, hdn, enc_none, hnz, hJ] <;> rfl) call16 (c_alive σ hσ) (by simp [go_sem, hdn, enc_none, hnz, hJ] <;> rfl) (by simp [go_sem, hdn, enc_none, hnz, hJ]) rfl rfl ?_
            refine al_run 2 (sh := []) tyOk (by simp [go_sem, hdn, enc_none, hnz, hJ] <;> rfl) ?_
            refine al_nil ?_
            refine awp_ret ?_
            refine ends_ret (by simp [go_sem, hdn, enc_none, hnz, hJ] <;> rfl) (by simp [go_sem]) ?_
            exact ⟨by simp [go_sem], by simp [go_sem]⟩
          · first | (cases h8; done) | (simp at h8; done)
        · first | (cases h7; done) | (simp at h7; done)
  · refine ul_run 2 (by simp [go_sem, hdn, enc_none] <;> rfl) ?_
    refine ul_nil ?_
    refine al_run 2 (sh := []) tyOk (by simp [go_sem, hdn, enc_none] <;> rfl) ?_
    refine al_nil ?_
    refine awp_seq ?_
    obtain ⟨z, hz⟩ : ∃ z, z = fjoin x y := ⟨_, rfl⟩
    obtain ⟨X, hX⟩ : ∃ z, z = rdefs x := ⟨_, rfl⟩
    obtain ⟨Y, hY⟩ : ∃ z, z = rdefs y := ⟨_, rfl⟩
    obtain ⟨ex, hex⟩ : ∃ z, z = fcheck x := ⟨_, rfl⟩
    obtain ⟨ey, hey⟩ : ∃ z, z = fcheck y := ⟨_, rfl⟩
    refine awp_reg ?_
    refine al_run 1 (sh := []) tyOk (by simp [go_sem, hdn, enc_none] <;> rfl) ?_
    refine al_fn rfl rfl rfl (by simp [go_sem, hdn, enc_none] <;> rfl) call10 ((c_refCheckO x (by omega) X ex hX hex) _ (by exact hgl)) (by simp [go_sem, hdn, enc_none] <;> rfl) (by simp [go_sem, hdn, enc_none]) rfl rfl ?_
    refine al_run 5 (sh := []) tyOk (by simp [go_sem, hdn, enc_none] <;> rfl) ?_
    refine al_nil ?_
    refine awp_seq ?_
    refine awp_reg ?_
    refine al_run 1 (sh := []) tyOk (by simp [go_sem, hdn, enc_none] <;> rfl) ?_
    refine al_fn rfl rfl rfl (by simp [go_sem, hdn, enc_none] <;> rfl) call10 ((c_refCheckO y (by omega) Y ey hY hey) _ (by exact hgl)) (by simp [go_sem, hdn, enc_none] <;> rfl) (by simp [go_sem, hdn, enc_none]) rfl rfl ?_
    refine al_run 5 (sh := []) tyOk (by simp [go_sem, hdn, enc_none] <;> rfl) ?_
    refine al_nil ?_
    refine awp_seq ?_
    refine awp_reg ?_
    refine al_run 2 (sh := []) tyOk (by simp [go_sem, hdn, enc_none] <;> rfl) ?_
    refine al_fn rfl rfl rfl (by simp [go_sem, hdn, enc_none] <;> rfl) call33 ((c_flat_JoinO x y (by omega) (by omega) z hz) _ (by exact hgl)) (by simp [go_sem, hdn, enc_none] <;> rfl) (by simp [go_sem, hdn, enc_none]) rfl rfl ?_
    refine al_run 6 (sh := []) tyOk (by simp [go_sem, hdn, enc_none] <;> rfl) ?_
    refine al_nil ?_
    refine awp_seq ?_
    refine awp_region_run (sh := []) tyOk (by simp [go_sem, hdn, enc_none] <;> rfl) ?_
    refine awp_seq ?_
    refine awp_seq ?_
    refine awp_region_run (sh := []) tyOk (by simp [go_sem, hdn, enc_none] <;> rfl) ?_
    refine awp_cond (by first | rfl | (simp [go_sem, hdn, enc_none] <;> rfl)) (fun h9 => ?_) (fun h9 => ?_)
    · have R : Right x := ⟨by rw [← hex]; simpa using h9, by omega⟩
      have hchk := R.chk
      rw [← hex] at hchk
      have hdj := deq_refl z.1
      refine awp_region_run (sh := []) tyOk (by simp [go_sem, hdn, enc_none, hchk, hdj] <;> rfl) ?_
      refine awp_seq ?_
      refine awp_seq ?_
      refine awp_region_run (sh := []) tyOk (by simp [go_sem, hdn, enc_none, hchk, hdj] <;> rfl) ?_
      refine awp_cond (by first | rfl | (simp [go_sem, hdn, enc_none, hchk, hdj] <;> rfl)) (fun h10 => ?_) (fun h10 => ?_)
      · have S : Right y := ⟨by rw [← hey]; simpa using h10, by omega⟩
        have hchy := S.chk
        rw [← hey] at hchy
        refine awp_reg ?_
        refine al_run 2 (sh := []) tyOk (by simp [go_sem, hdn, enc_none, hchk, hdj, hchy] <;> rfl) ?_
        refine al_fn rfl rfl rfl (by simp [go_sem, hdn, enc_none, hchk, hdj, hchy] <;> rfl) call34 ((c_refJoinO x y R S (by omega) (by omega) X Y hX hY z hz) _ (by exact hgl)) (by simp [go_sem, hdn, enc_none, hchk, hdj, hchy] <;> rfl) (by simp [go_sem, hdn, enc_none, hchk, hdj, hchy]) rfl rfl ?_
        refine al_run 5 (sh := []) tyOk (by simp [go_sem, hdn, enc_none, hchk, hdj, hchy] <;> rfl) ?_
        refine al_nil ?_
        refine awp_seq ?_
        refine awp_reg ?_
        refine al_run 4 (sh := []) tyOk (by simp [go_sem, hdn, enc_none, hchk, hdj, hchy] <;> rfl) ?_
        refine al_splitT 49 (by first | rfl | (simp [go_sem, hdn, enc_none, hchk, hdj, hchy] <;> rfl)) (fun h11 => ?_) (fun h11 => ?_)
        · refine al_runG (sh := []) 2 49 true true tyOk (by simp [go_sem]) rfl (by simp [go_sem]) rfl rfl (by simp [go_sem, hdn, enc_none, hchk, hdj, hchy] <;> rfl) ?_
          refine al_fnG 49 true true (by simp [go_sem]) rfl (by simp [go_sem]) rfl rfl (by simp [go_sem, hdn, enc_none, hchk, hdj, hchy] <;> rfl) call15 ((c_Same z.1 (by have := fjoin_size x y; rw [← hz] at this; omega) z.1) _ (by exact hgl)) (by simp [go_sem, hdn, enc_none, hchk, hdj, hchy] <;> rfl) (by simp [go_sem, hdn, enc_none, hchk, hdj, hchy]) rfl rfl ?_
          refine al_run 2 (sh := []) tyOk (by simp [go_sem, hdn, enc_none, hchk, hdj, hchy] <;> rfl) ?_
          refine al_splitT 54 (by first | rfl | (simp [go_sem, hdn, enc_none, hchk, hdj, hchy] <;> rfl)) (fun h12 => ?_) (fun h12 => ?_)
          · refine al_fnG 54 true true (by simp [go_sem]) rfl (by simp [go_sem]) rfl rfl (by simp [go_sem, hdn, enc_none, hchk, hdj, hchy] <;> rfl) call16 (c_alive σ hσ) (by simp [go_sem, hdn, enc_none, hchk, hdj, hchy] <;> rfl) (by simp [go_sem, hdn, enc_none, hchk, hdj, hchy]) rfl rfl ?_
            refine al_run 2 (sh := []) tyOk (by simp [go_sem, hdn, enc_none, hchk, hdj, hchy] <;> rfl) ?_
            refine al_nil ?_
            refine awp_ret ?_
            refine ends_ret (by simp [go_sem, hdn, enc_none, hchk, hdj, hchy] <;> rfl) (by simp [go_sem]) ?_
            exact ⟨by simp [go_sem], by simp [go_sem]⟩
          · first | (cases h12; done) | (simp at h12; done)
        · first | (cases h11; done) | (simp at h11; done)
      · have hnzy : (ey == 0) = false := h10
        have hJ := fjoin_bad2 R (by rw [← hey]; exact hnzy)
        rw [← hz, ← hey] at hJ
        refine awp_skip ?_
        refine awp_seq ?_
        refine awp_reg ?_
        refine al_run 4 (sh := []) tyOk (by simp [go_sem, hdn, enc_none, hchk, hdj, hnzy, hJ] <;> rfl) ?_
        refine al_splitT 49 (by first | rfl | (simp [go_sem, hdn, enc_none, hchk, hdj, hnzy, hJ] <;> rfl)) (fun h13 => ?_) (fun h13 => ?_)
        · refine al_runG (sh := []) 2 49 true true tyOk (by simp [go_sem]) rfl (by simp [go_sem]) rfl rfl (by simp [go_sem, hdn, enc_none, hchk, hdj, hnzy, hJ] <;> rfl) ?_
          refine al_fnG 49 true true (by simp [go_sem]) rfl (by simp [go_sem]) rfl rfl (by simp [go_sem, hdn, enc_none, hchk, hdj, hnzy, hJ] <;> rfl) call15 ((c_Same z.1 (by have := fjoin_size x y; rw [← hz] at this; omega) z.1) _ (by exact hgl)) (by simp [go_sem, hdn, enc_none, hchk, hdj, hnzy, hJ] <;> rfl) (by simp [go_sem, hdn, enc_none, hchk, hdj, hnzy, hJ]) rfl rfl ?_
          refine al_run 2 (sh := []) tyOk (by simp [go_sem, hdn, enc_none, hchk, hdj, hnzy, hJ] <;> rfl) ?_
          refine al_splitT 54 (by first | rfl | (simp [go_sem, hdn, enc_none, hchk, hdj, hnzy, hJ] <;> rfl)) (fun h14 => ?_) (fun h14 => ?_)
          · refine al_fnG 54 true true (by simp [go_sem]) rfl (by simp [go_sem]) rfl rfl (by simp [go_sem, hdn, enc_none, hchk, hdj, hnzy, hJ] <;> rfl) call16 (c_alive σ hσ) (by simp [go_sem, hdn, enc_none, hchk, hdj, hnzy, hJ] <;> rfl) (by simp [go_sem, hdn, enc_none, hchk, hdj, hnzy, hJ]) rfl rfl ?_
            refine al_run 2 (sh := []) tyOk (by simp [go_sem, hdn, enc_none, hchk, hdj, hnzy, hJ] <;> rfl) ?_
            refine al_nil ?_
            refine awp_ret ?_
            refine ends_ret (by simp [go_sem, hdn, enc_none, hchk, hdj, hnzy, hJ] <;> rfl) (by simp [go_sem]) ?_
            exact ⟨by simp [go_sem], by simp [go_sem]⟩
          · first | (cases h14; done) | (simp at h14; done)
        · first | (cases h13; done) | (simp at h13; done)
    · have hnz : (ex == 0) = false := h9
      have hJ := fjoin_bad1 y (by rw [← hex]; exact hnz)
      rw [← hz, ← hex] at hJ
      refine awp_skip ?_
      refine awp_seq ?_
      refine awp_seq ?_
      refine awp_region_run (sh := []) tyOk (by simp [go_sem, hdn, enc_none, hnz, hJ] <;> rfl) ?_
      refine awp_cond (by first | rfl | (simp [go_sem, hdn, enc_none, hnz, hJ] <;> rfl)) (fun h15 => ?_) (fun h15 => ?_)
      · first | (cases h15; done) | (simp at h15; done)
      · refine awp_skip ?_
        refine awp_seq ?_
        refine awp_reg ?_
        refine al_run 4 (sh := []) tyOk (by simp [go_sem, hdn, enc_none, hnz, hJ] <;> rfl) ?_
        refine al_splitT 49 (by first | rfl | (simp [go_sem, hdn, enc_none, hnz, hJ] <;> rfl)) (fun h16 => ?_) (fun h16 => ?_)
        · refine al_runG (sh := []) 2 49 true true tyOk (by simp [go_sem]) rfl (by simp [go_sem]) rfl rfl (by simp [go_sem, hdn, enc_none, hnz, hJ] <;> rfl) ?_
          refine al_fnG 49 true true (by simp [go_sem]) rfl (by simp [go_sem]) rfl rfl (by simp [go_sem, hdn, enc_none, hnz, hJ] <;> rfl) call15 ((c_Same z.1 (by have := fjoin_size x y; rw [← hz] at this; omega) z.1) _ (by exact hgl)) (by simp [go_sem, hdn, enc_none, hnz, hJ] <;> rfl) (by simp [go_sem, hdn, enc_none, hnz, hJ]) rfl rfl ?_
          refine al_run 2 (sh := []) tyOk (by simp [go_sem, hdn, enc_none, hnz, hJ] <;> rfl) ?_
          refine al_splitT 54 (by first | rfl | (simp [go_sem, hdn, enc_none, hnz, hJ] <;> rfl)) (fun h17 => ?_) (fun h17 => ?_)
          · refine al_fnG 54 true true (by simp [go_sem]) rfl (by simp [go_sem]) rfl rfl (by simp [go_sem, hdn, enc_none, hnz, hJ] <;> rfl) call16 (c_alive σ hσ) (by simp [go_sem, hdn, enc_none, hnz, hJ] <;> rfl) (by simp [go_sem, hdn, enc_none, hnz, hJ]) rfl rfl ?_
            refine al_run 2 (sh := []) tyOk (by simp [go_sem, hdn, enc_none, hnz, hJ] <;> rfl) ?_
            refine al_nil ?_
            refine awp_ret ?_
            refine ends_ret (by simp [go_sem, hdn, enc_none, hnz, hJ] <;> rfl) (by simp [go_sem]) ?_
            exact ⟨by simp [go_sem], by simp [go_sem]⟩
          · first | (cases h17; done) | (simp at h17; done)
        · first | (cases h16; done) | (simp at h16; done)

end Go.Proofs.YtienmmfjjffjaaaGreatDoor

/- The laid tables and the data of this seat, as abstract values. -/
namespace Go.Proofs.YtienmmfjjffjaaaGreatDoor
open Go Go.Aw
variable {kr : ResO}
theorem dty : DatumTy Tryz.prog 24 22 3 2 9 :=
  { und := ⟨_, _, _, _, Tryz.underlying24, rfl, rfl, rfl, rfl, rfl, rfl, rfl, rfl⟩, i := Tryz.underlying3, n := Tryz.underlying2, s := Tryz.underlying9, k := Tryz.underlying22, cD := by kernel_rfl, ci := by kernel_rfl, cn := by kernel_rfl, cs := by kernel_rfl, ck := by kernel_rfl }
theorem gReserved : Tryz.prog.globalNamed "pagoda/node.reserved" = some 0 := by kernel_rfl
theorem gPrim : Tryz.prog.globalNamed "pagoda/prim.names" = some 1 := by kernel_rfl
theorem tReserved : (Tryz.prog.globals[0]?).map (·.type) = some 70 := by kernel_rfl
theorem tPrim : (Tryz.prog.globals[1]?).map (·.type) = some 126 := by kernel_rfl
theorem tPow : (Tryz.prog.globals[2]?).map (·.type) = some 154 := by kernel_rfl
theorem rows_pow : (Rows.laid_internal_strconv_uint64pow10 : DataW Unit) = Lib.tabData .u64 Lib.pow10Tab := by kernel_rfl
/-- What the row's listed variables are when the call begins. -/
theorem of_laid {W : World} (h : laidMetH Tryz.prog [("math/bits.deBruijn32tab", Rows.laid_math_bits_deBruijn32tab), ("math/bits.deBruijn64tab", Rows.laid_math_bits_deBruijn64tab), ("internal/strconv.uint64pow10", Rows.laid_internal_strconv_uint64pow10), ("pagoda/node.reserved", Rows.laid_pagoda_node_reserved), ("pagoda/prim.names", Rows.laid_pagoda_prim_names)] W) :
    ∃ kr : ResO, ∀ n p, (n, p) ∈ (GL kr) → RP W.heap.size (fun _ _ => False) W p (.pointer (some ⟨n, 0, none⟩)) := by
  rw [MakeChecks.laidMetH_plain _ _ _ (by kernel_rfl)] at h
  obtain ⟨ps, ⟨_, _, _, _, _, _, _, _, _, _, ⟨_, _, _, _, _, _, _, _, _, _, ⟨g2, t2, cs2, f2, p2, q2, hg2, ht2, hv2, hd2, ⟨g0, t0, cs0, f0, p0, q0, hg0, ht0, hv0, hd0, ⟨g1, t1, cs1, f1, p1, q1, hg1, ht1, hv1, hd1, _, _⟩, _⟩, _⟩, _⟩, _⟩, _, _⟩ := h
  obtain rfl := Option.some.inj (gReserved.symm.trans hg0)
  obtain rfl := Option.some.inj (gPrim.symm.trans hg1)
  obtain rfl := Option.some.inj (gPow.symm.trans hg2)
  obtain rfl := Option.some.inj (tReserved.symm.trans ht0)
  obtain rfl := Option.some.inj (tPrim.symm.trans ht1)
  obtain rfl := Option.some.inj (tPow.symm.trans ht2)
  obtain ⟨b, l, hc0, hl, hrp0⟩ := open_set (S := fun _ _ => False) (names := resNames) Tryz.underlying70 Tryz.underlying9 Tryz.underlying4 hd0
  obtain ⟨v, hc1, hone, hrp1⟩ := open_table (S := fun _ _ => False) (L := primNames) Tryz.underlying126 Tryz.underlying127 Tryz.underlying9 Tryz.underlying3 rfl rfl (by kernel_rfl) (by kernel_rfl) (by kernel_rfl) hd1
  rw [rows_pow] at hd2
  have hc2 := Lib.cells_of_tab Tryz.underlying154 Tryz.underlying140 (by kernel_rfl) (by kernel_rfl) hd2
  have hblk : ∃ e c, W.heap[(2 : Nat)]? = some (.cells (Lib.pow10Tab.map (Value.int .u64)).toArray e c) := by
    simp only [World.var?, gPow, Option.bind_some] at hv2
    split at hv2
    · rename_i cs e c hh
      cases hv2
      refine ⟨e, c, ?_⟩
      rw [hh, ← Array.toArray_toList (xs := cs2), hc2]
    · cases hv2
  obtain ⟨e2, c2, hblk⟩ := hblk
  have hcell0 : W.cell? ⟨0, 0, none⟩ = some (.map (some b)) := by
    have := World.var?_cell hg0 hv0 0
    rw [Array.eq_one_of_toList hc0] at this
    simpa using this
  have hcell1 : W.cell? ⟨1, 0, none⟩ = some v := by
    have := World.var?_cell hg1 hv1 0
    rw [Array.eq_one_of_toList hc1] at this
    simpa using this
  refine ⟨resO l hl, fun n p hm => ?_⟩
  simp only [GL, flatG, List.cons_append, List.nil_append, List.mem_cons, Prod.mk.injEq, List.not_mem_nil, or_false] at hm
  rcases hm with ⟨rfl, rfl⟩ | ⟨rfl, rfl⟩ | ⟨rfl, rfl⟩
  · rw [resV_of hl] at hrp0
    exact rp_var (cell_lt hcell0) hcell0 rfl hrp0
  · rw [primV_of] at hrp1
    exact rp_var (cell_lt hcell1) hcell1 hone hrp1
  · refine RP.tab ?_ hblk
    by_cases hlt : 2 < W.heap.size
    · exact hlt
    · rw [Array.getElem?_eq_none (by show W.heap.size ≤ _; omega)] at hblk; cases hblk

end Go.Proofs.YtienmmfjjffjaaaGreatDoor
