/- Part of the proof that the statement holds for every input that its row lets in: the contracts of the program's functions, printed by a program out of annotations; the statement itself stands at the end of the last part. -/
import Derived.Test.YtienmmfjjffjaaaGreatDoorZS2
import Derived.Test.YtienmmfjjffjaaaGreatDoorZA3
set_option linter.unusedSimpArgs false
set_option linter.unusedVariables false
/- The specification: bodies. -/
namespace Go.Proofs.YtienmmfjjffjaaaGreatDoor
open Go Go.Aw
variable {kr : ResO}
set_option maxHeartbeats 1000000 in
theorem c_body (l : List Df) (ps : List (D × Int)) (H : LP l ps) (hll : l.length ≤ 1000000000) (hls : ∀ x, x ∈ l → x.lab.size ≤ 1000000000 ∧ x.ps.length ≤ 1000000000) (d : D) : ∀ (b : List ByteArray) (σ : Store) (hgl : σ.gl = (GL kr)) (hf : formed d = true) (hb : b.length + d.size ≤ 1000000000), PurAt Tryz.prog σ 44 [.pv (.slice (l.map encDf)), .pv (enc d), .pv (.slice (b.map .str))] (.pv (.int .i64 (cexpr ps b d))) := by
 induction d using D.ind with
 | _ kind num text kids ih =>
 generalize hD : D.mk kind num text kids = d at *
 have hk : d.kids = kids := by rw [← hD]; rfl
 clear hD
 subst hk
 have hkl := D.kids_length_lt d
 intro b σ hgl hf hb
 rw [cexpr_body hf]
 have hkr := kidsR_len d
 have hwr1 : IntKind.i64.wrap ((d.kids.length : Int) - 1) = (d.kids.length : Int) - 1 := wrap_id (by omega) (by omega)
 refine purAt_of ?_
 refine acalls_of tyOk Tryz.func44 rfl (by simp [Tryz.f44]) ?_
 refine awp_seq (aR (by simp [go_sem, hwr1] <;> rfl) ?_)
 refine awp_seq (awp_seq (awp_reg ?_))
 refine aL 1 (by simp [go_sem, hwr1] <;> rfl) ?_
 refine aF call86 ((c_form d) _ (by exact hgl)) (by simp [go_sem, hwr1] <;> rfl) (by simp [go_sem, hwr1]) ?_
 refine aL 1 (by simp [go_sem, hwr1] <;> rfl) ?_
 refine al_nil ?_
 refine awp_cond (by first | rfl | (simp [go_sem, hwr1] <;> rfl)) (fun h0 => ?_) (fun h0 => ?_)
 ·refine awp_seq ?_
  refine aR (by simp [go_sem, hwr1] <;> rfl) ?_
  refine awp_ret ?_
  refine then_ret ?_
  refine ends_ret (by simp [go_sem] <;> rfl) (by simp [go_sem]) ?_
  have hs : body1 ps b d = 4 := by unfold body1; simp only [eCall, hwr1, h0, bA, bB, bC, bD, bE, bF, bG, bH, bI, bJ, Bool.false_eq_true, if_true, if_false]
  exact ⟨by simp [go_sem, hs], by simp [go_sem]⟩
 ·have hfm : form d = true := by simpa using h0
  refine awp_skip ?_
  refine awp_seq (awp_seq (awp_reg ?_))
  refine aL 4 (by simp [go_sem, hwr1] <;> rfl) ?_
  refine al_splitT 21 (by first | rfl | (simp [go_sem, hwr1] <;> rfl)) (fun h1 => ?_) (fun h1 => ?_)
  ·refine aLG 3 21 true (by simp [go_sem, hwr1] <;> rfl) ?_
   refine al_fnG 21 true true (by simp [go_sem]) rfl (by simp [go_sem]) rfl rfl (by simp [go_sem, hwr1] <;> rfl) call85 ((c_Among b (by omega) d.text) _ (by exact hgl)) (by simp [go_sem, hwr1] <;> rfl) (by simp [go_sem, hwr1]) rfl rfl ?_
   refine aLG 1 21 true (by simp [go_sem, hwr1] <;> rfl) ?_
   refine aL 1 (by simp [go_sem, hwr1] <;> rfl) ?_
   refine al_nil ?_
   refine awp_cond (by first | rfl | (simp [go_sem, hwr1] <;> rfl)) (fun h2 => ?_) (fun h2 => ?_)
   ·refine awp_seq ?_
    refine aR (by simp [go_sem, hwr1] <;> rfl) ?_
    refine awp_ret ?_
    refine then_ret ?_
    refine ends_ret (by simp [go_sem] <;> rfl) (by simp [go_sem]) ?_
    have hs : body1 ps b d = 12 := by unfold body1; simp only [eCall, hwr1, h0, h1, h2, bA, bB, bC, bD, bE, bF, bG, bH, bI, bJ, Bool.false_eq_true, if_true, if_false]
    exact ⟨by simp [go_sem, hs], by simp [go_sem]⟩
   ·refine awp_skip ?_
    refine awp_seq (awp_reg ?_)
    refine aL 1 (by simp [go_sem, hwr1] <;> rfl) ?_
    refine aF call82 ((c_Word d) _ (by exact hgl)) (by simp [go_sem, hwr1] <;> rfl) (by simp [go_sem, hwr1]) ?_
    refine aL 1 (by simp [go_sem, hwr1] <;> rfl) ?_
    refine al_nil ?_
    refine awp_seq (awp_seq (aR (by simp [go_sem, hwr1] <;> rfl) ?_))
    refine awp_cond (by first | rfl | (simp [go_sem, hwr1] <;> rfl)) (fun h3 => ?_) (fun h3 => ?_)
    ·have hwc : word d = sCall := of_decide_eq_true h3
     have h2l := form_two hfm (.inr hwc)
     obtain ⟨hlb, hlf⟩ := form_call hfm hf hwc
     have hx1 := get_d1 h2l
     refine awp_seq (awp_reg ?_)
     refine aL 5 (by simp [go_sem, hwr1, hx1] <;> rfl) ?_
     refine aF call39 ((c_Find l hll (d1 d.kids) (fun x hx => (hls x hx).1)) _ (by exact hgl)) (by simp [go_sem, hwr1, hx1] <;> rfl) (by simp [go_sem, hwr1, hx1]) ?_
     refine aL 1 (by simp [go_sem, hwr1, hx1] <;> rfl) ?_
     refine al_nil ?_
     refine awp_seq (awp_seq (aR (by simp [go_sem, hwr1, hx1] <;> rfl) ?_))
     refine awp_cond (by first | rfl | (simp [go_sem, hwr1, hx1] <;> rfl)) (fun h4 => ?_) (fun h4 => ?_)
     ·have hkn := H.neg hlb hlf (by simpa using h4)
      refine awp_seq (aR (by simp [go_sem, hwr1, hx1] <;> rfl) ?_)
      refine awp_ret ?_
      refine then_ret ?_
      refine then_ret ?_
      refine ends_ret (by simp [go_sem] <;> rfl) (by simp [go_sem]) ?_
      have hs : body1 ps b d = 5 := by unfold body1; simp only [eCall, hwr1, hx1, h0, h1, h2, h3, h4, hkn, bA, bB, bC, bD, bE, bF, bG, bH, bI, bJ, Bool.false_eq_true, if_true, if_false]
      exact ⟨by simp [go_sem, hs], by simp [go_sem]⟩
     ·obtain ⟨hi0, y, hy, hky⟩ := H.pos hlb hlf (by simpa using h4)
      have hwr2 : IntKind.i64.wrap ((d.kids.length : Int) - 2) = (d.kids.length : Int) - 2 := wrap_id (by omega) (by omega)
      refine awp_skip ?_
      refine awp_seq (awp_regDP tyOk tySz 10 (by kernel_rfl) (by decide) ?_)
      refine ul_run 10 (by simp [go_sem, hwr1, hx1, hi0, hy, hwr2] <;> rfl) ?_
      refine ul_nil ?_
      refine aL 1 (by simp [go_sem, hwr1, hx1, hi0, hy, hwr2] <;> rfl) ?_
      refine al_nil ?_
      refine awp_cond (by first | rfl | (simp [go_sem, hwr1, hx1, hi0, hy, hwr2] <;> rfl)) (fun h5 => ?_) (fun h5 => ?_)
      ·refine awp_seq ?_
       refine aR (by simp [go_sem, hwr1, hx1, hi0, hy, hwr2] <;> rfl) ?_
       refine awp_ret ?_
       refine then_ret ?_
       refine ends_ret (by simp [go_sem] <;> rfl) (by simp [go_sem]) ?_
       have hs : body1 ps b d = 11 := by unfold body1; simp only [eCall, hwr1, hx1, hi0, hy, hwr2, h0, h1, h2, h3, h4, hky, h5, bA, bB, bC, bD, bE, bF, bG, bH, bI, bJ, Bool.false_eq_true, if_true, if_false]
       exact ⟨by simp [go_sem, hs], by simp [go_sem]⟩
      ·refine awp_skip ?_
       refine awp_seq (awp_seq (awp_reg ?_))
       refine aL 1 (by simp [go_sem, hwr1, hx1, hi0, hy, hwr2] <;> rfl) ?_
       refine aF call87 ((c_Arity07 (word d)) _ (by exact hgl)) (by simp [go_sem, hwr1, hx1, hi0, hy, hwr2] <;> rfl) (by simp [go_sem, hwr1, hx1, hi0, hy, hwr2]) ?_
       refine aL 5 (by simp [go_sem, hwr1, hx1, hi0, hy, hwr2] <;> rfl) ?_
       refine al_nil ?_
       refine awp_seq (awp_reg ?_)
       refine aL 2 (by simp [go_sem, hwr1, hx1, hi0, hy, hwr2] <;> rfl) ?_
       refine al_splitT 57 (by first | rfl | (simp [go_sem, hwr1, hx1, hi0, hy, hwr2] <;> rfl)) (fun h6 => ?_) (fun h6 => ?_)
       ·refine aLG 6 57 true (by simp [go_sem, hwr1, hx1, hi0, hy, hwr2] <;> rfl) ?_
        refine aL 1 (by simp [go_sem, hwr1, hx1, hi0, hy, hwr2] <;> rfl) ?_
        refine al_nil ?_
        refine awp_cond (by first | rfl | (simp [go_sem, hwr1, hx1, hi0, hy, hwr2] <;> rfl)) (fun h7 => ?_) (fun h7 => ?_)
        ·refine awp_seq ?_
         refine aR (by simp [go_sem, hwr1, hx1, hi0, hy, hwr2] <;> rfl) ?_
         refine awp_ret ?_
         refine then_ret ?_
         refine ends_ret (by simp [go_sem] <;> rfl) (by simp [go_sem]) ?_
         have hs : body1 ps b d = 11 := by unfold body1; simp only [eCall, hwr1, hx1, hi0, hy, hwr2, h0, h1, h2, h3, h4, hky, h5, h6, h7, bA, bB, bC, bD, bE, bF, bG, bH, bI, bJ, Bool.false_eq_true, if_true, if_false]
         exact ⟨by simp [go_sem, hs], by simp [go_sem]⟩
        ·refine awp_skip ?_
         refine awp_seq ?_
         have hgo : body1 ps b d = goB ps b d 0 (kidsR d) := by unfold body1; simp only [eCall, hwr1, hx1, hi0, hy, hwr2, h0, h1, h2, h3, h4, hky, h5, h6, h7, bA, bB, bC, bD, bE, bF, bG, bH, bI, bJ, Bool.false_eq_true, if_true, if_false]
         refine awp_reg ?_
         refine aL 1 (by simp [go_sem, hwr1, hx1, hi0, hy, hwr2] <;> rfl) ?_
         refine aF call88 ((c_Kids d (form_two hfm)) _ (by exact hgl)) (by simp [go_sem, hwr1, hx1, hi0, hy, hwr2] <;> rfl) (by simp [go_sem, hwr1, hx1, hi0, hy, hwr2]) ?_
         refine aL 1 (by simp [go_sem, hwr1, hx1, hi0, hy, hwr2] <;> rfl) ?_
         refine al_nil ?_
         refine awp_seq (awp_seq (aR (by simp [go_sem, hwr1, hx1, hi0, hy, hwr2] <;> rfl) ?_))
         refine awp_block ?_
         refine awp_loop_headK σ.objs.length σ.toks.length 1 [0, 2, 4, 6, 7, 11] (fun k : Nat => [(12, .pv (.int .i64 ↑k))]) (fun k => σ) (fun k => k ≤ (kidsR d).length ∧ body1 ps b d = goB ps b d k ((kidsR d).drop k)) (fun k => (kidsR d).length - k) 0 (⟨Nat.zero_le _, by rw [hgo]; rfl⟩) ⟨by simp [go_sem, hwr1, hx1, hi0, hy, hwr2], rfl, by simp, by simp, by simp [go_sem, hwr1, hx1, hi0, hy, hwr2], fun ob h => .inl (by simpa [go_sem, hwr1, hx1, hi0, hy, hwr2] using h), by simp [go_sem]⟩ ?_
         rintro k ⟨hk, hn⟩
         refine awp_seq (awp_seq (aR (by simp [go_sem, hwr1, hx1, hi0, hy, hwr2] <;> rfl) ?_))
         refine awp_cond (by first | rfl | (simp [go_sem, hwr1, hx1, hi0, hy, hwr2] <;> rfl)) (fun h8 => ?_) (fun h8 => ?_)
         ·have hlt : k < (kidsR d).length := by simp at h8; omega
          have hw : IntKind.i64.wrap (↑k + 1) = (k : Int) + 1 := wrap_succ (by omega)
          obtain ⟨x, hx, hxm⟩ := get_lt hlt
          have hst := goB_step (ps := ps) (b := b) hx
          refine awp_skip ?_
          refine awp_seq (awp_block ?_)
          refine awp_seq (aR (by simp [go_sem, hwr1, hx1, hi0, hy, hwr2, hx] <;> rfl) ?_)
          refine awp_seq (awp_seq (awp_reg ?_))
          refine aL 3 (by simp [go_sem, hwr1, hx1, hi0, hy, hwr2, hx] <;> rfl) ?_
          refine al_splitT 76 (by first | rfl | (simp [go_sem, hwr1, hx1, hi0, hy, hwr2, hx] <;> rfl)) (fun h9 => ?_) (fun h9 => ?_)
          ·have hA := h9
           refine aLG 2 76 true (by simp [go_sem, hwr1, hx1, hi0, hy, hwr2, hx] <;> rfl) ?_
           refine aL 1 (by simp [go_sem, hwr1, hx1, hi0, hy, hwr2, hx] <;> rfl) ?_
           refine al_nil ?_
           refine awp_cond (by first | rfl | (simp [go_sem, hwr1, hx1, hi0, hy, hwr2, hx] <;> rfl)) (fun h10 => ?_) (fun h10 => ?_)
           ·have h2m := form_two hfm (.inl (of_decide_eq_true hA))
            have hy1 := get_d1 h2m
            have hin : inb b d k = b ++ [(d1 d.kids).text] := inb_yes hA h10
            have hbb : (b.length + 1) * 16 ≤ 140737488355328 := by omega
            have hb16 : b.length * 16 ≤ 140737488355328 := by omega
            refine awp_regDP tyOk tySz 9 (by kernel_rfl) (by decide) ?_
            refine ul_run 9 (by simp [go_sem, hwr1, hx1, hi0, hy, hwr2, hx, hy1, hin, hbb, hb16, allSz_str] <;> rfl) ?_
            refine ul_nil ?_
            refine aL 2 (by simp [go_sem, hwr1, hx1, hi0, hy, hwr2, hx, hy1, hin, hbb, hb16, allSz_str] <;> rfl) ?_
            refine al_nil ?_
            refine awp_seq (awp_reg ?_)
            refine aL 6 (by simp [go_sem, hwr1, hx1, hi0, hy, hwr2, hx, hy1, hin, hbb, hb16, allSz_str] <;> rfl) ?_
            refine aF call44 (ih x (kidsR_mem hxm) (inb b d k) _ (by exact hgl) (formed_kids hf (kidsR_mem hxm)) (by have := D.size_kid_lt (kidsR_mem hxm); have := inb_len b d k; omega)) (by simp [go_sem, hwr1, hx1, hi0, hy, hwr2, hx, hy1, hin, hbb, hb16, allSz_str] <;> rfl) (by simp [go_sem, hwr1, hx1, hi0, hy, hwr2, hx, hy1, hin, hbb, hb16, allSz_str]) ?_
            refine aL 1 (by simp [go_sem, hwr1, hx1, hi0, hy, hwr2, hx, hy1, hin, hbb, hb16, allSz_str] <;> rfl) ?_
            refine al_nil ?_
            refine awp_seq (aR (by simp [go_sem, hwr1, hx1, hi0, hy, hwr2, hx, hy1, hin, hbb, hb16, allSz_str] <;> rfl) ?_)
            refine awp_cond (by first | rfl | (simp [go_sem, hwr1, hx1, hi0, hy, hwr2, hx, hy1, hin, hbb, hb16, allSz_str] <;> rfl)) (fun h11 => ?_) (fun h11 => ?_)
            ·refine awp_seq ?_
             refine aR (by simp [go_sem, hwr1, hx1, hi0, hy, hwr2, hx, hy1, hin, hbb, hb16, allSz_str] <;> rfl) ?_
             refine awp_ret ?_
             refine inBlock_ret ?_
             refine then_ret ?_
             refine then_ret ?_
             refine inBlock_ret ?_
             refine then_ret ?_
             refine ends_ret (by simp [go_sem] <;> rfl) (by simp [go_sem]) ?_
             have hs : body1 ps b d = cexpr ps (inb b d k) x := by rw [hn, hst]; simp only [Bool.not_true, hwr1, hx1, hi0, hy, hwr2, hx, hy1, hin, hbb, hb16, allSz_str, h0, h1, h2, h3, h4, hky, h5, h6, h7, h8, h9, h10, hin, h11, bA, bB, bC, bD, bE, bF, bG, bH, bI, bJ, Bool.false_eq_true, if_true, if_false]
             exact ⟨by simp [go_sem, hs, hwr1, hx1, hi0, hy, hwr2, hx, hy1, hin, hbb, hb16, allSz_str, h0, h1, h2, h3, h4, hky, h5, h6, h7, h8, h9, h10, hin, h11], by simp [go_sem]⟩
            ·refine awp_skip ?_
             refine aR (by simp [go_sem, hwr1, hx1, hi0, hy, hwr2, hx, hy1, hin, hbb, hb16, allSz_str] <;> rfl) ?_
             exact next_intro (k + 1) σ.objs.length σ.toks.length 1 (⟨hlt, by rw [hn, hst]; simp only [h0, h1, h2, h3, h4, hky, h5, h6, h7, h8, h9, h10, hin, h11, bA, bB, bC, bD, bE, bF, bG, bH, bI, bJ, Bool.false_eq_true, if_true, if_false]⟩) (by omega) ⟨by simp [go_sem, hwr1, hx1, hi0, hy, hwr2, hx, hy1, hin, hbb, hb16, allSz_str, hw], rfl, by simp, by simp, by simp [go_sem, hwr1, hx1, hi0, hy, hwr2, hx, hy1, hin, hbb, hb16, allSz_str, hw], fun ob h => .inl (by simpa [go_sem, hwr1, hx1, hi0, hy, hwr2, hx, hy1, hin, hbb, hb16, allSz_str, hw] using h), by simp [go_sem]⟩
           ·have hin : inb b d k = b := inb_other h10
            refine awp_skip ?_
            refine awp_seq (awp_reg ?_)
            refine aL 6 (by simp [go_sem, hwr1, hx1, hi0, hy, hwr2, hx, hin] <;> rfl) ?_
            refine aF call44 (ih x (kidsR_mem hxm) (inb b d k) _ (by exact hgl) (formed_kids hf (kidsR_mem hxm)) (by have := D.size_kid_lt (kidsR_mem hxm); have := inb_len b d k; omega)) (by simp [go_sem, hwr1, hx1, hi0, hy, hwr2, hx, hin] <;> rfl) (by simp [go_sem, hwr1, hx1, hi0, hy, hwr2, hx, hin]) ?_
            refine aL 1 (by simp [go_sem, hwr1, hx1, hi0, hy, hwr2, hx, hin] <;> rfl) ?_
            refine al_nil ?_
            refine awp_seq (aR (by simp [go_sem, hwr1, hx1, hi0, hy, hwr2, hx, hin] <;> rfl) ?_)
            refine awp_cond (by first | rfl | (simp [go_sem, hwr1, hx1, hi0, hy, hwr2, hx, hin] <;> rfl)) (fun h12 => ?_) (fun h12 => ?_)
            ·refine awp_seq ?_
             refine aR (by simp [go_sem, hwr1, hx1, hi0, hy, hwr2, hx, hin] <;> rfl) ?_
             refine awp_ret ?_
             refine inBlock_ret ?_
             refine then_ret ?_
             refine then_ret ?_
             refine inBlock_ret ?_
             refine then_ret ?_
             refine ends_ret (by simp [go_sem] <;> rfl) (by simp [go_sem]) ?_
             have hs : body1 ps b d = cexpr ps (inb b d k) x := by rw [hn, hst]; simp only [Bool.not_true, hwr1, hx1, hi0, hy, hwr2, hx, hin, h0, h1, h2, h3, h4, hky, h5, h6, h7, h8, h9, h10, hin, h12, bA, bB, bC, bD, bE, bF, bG, bH, bI, bJ, Bool.false_eq_true, if_true, if_false]
             exact ⟨by simp [go_sem, hs, hwr1, hx1, hi0, hy, hwr2, hx, hin, h0, h1, h2, h3, h4, hky, h5, h6, h7, h8, h9, h10, hin, h12], by simp [go_sem]⟩
            ·refine awp_skip ?_
             refine aR (by simp [go_sem, hwr1, hx1, hi0, hy, hwr2, hx, hin] <;> rfl) ?_
             exact next_intro (k + 1) σ.objs.length σ.toks.length 1 (⟨hlt, by rw [hn, hst]; simp only [h0, h1, h2, h3, h4, hky, h5, h6, h7, h8, h9, h10, hin, h12, bA, bB, bC, bD, bE, bF, bG, bH, bI, bJ, Bool.false_eq_true, if_true, if_false]⟩) (by omega) ⟨by simp [go_sem, hwr1, hx1, hi0, hy, hwr2, hx, hin, hw], rfl, by simp, by simp, by simp [go_sem, hwr1, hx1, hi0, hy, hwr2, hx, hin, hw], fun ob h => .inl (by simpa [go_sem, hwr1, hx1, hi0, hy, hwr2, hx, hin, hw] using h), by simp [go_sem]⟩
          ·have hin : inb b d k = b := inb_no h9
           refine aK 2 76 true ?_
           refine aL 1 (by simp [go_sem, hwr1, hx1, hi0, hy, hwr2, hx, hin] <;> rfl) ?_
           refine al_nil ?_
           refine awp_cond (b := false) (by simp [go_sem, hwr1, hx1, hi0, hy, hwr2, hx, hin, h0, h1, h2, h3, h4, hky, h5, h6, h7, h8, h9, hin]) (fun h => ?_) (fun h => ?_)
           ·cases h
           refine awp_skip ?_
           refine awp_seq (awp_reg ?_)
           refine aL 6 (by simp [go_sem, hwr1, hx1, hi0, hy, hwr2, hx, hin] <;> rfl) ?_
           refine aF call44 (ih x (kidsR_mem hxm) (inb b d k) _ (by exact hgl) (formed_kids hf (kidsR_mem hxm)) (by have := D.size_kid_lt (kidsR_mem hxm); have := inb_len b d k; omega)) (by simp [go_sem, hwr1, hx1, hi0, hy, hwr2, hx, hin] <;> rfl) (by simp [go_sem, hwr1, hx1, hi0, hy, hwr2, hx, hin]) ?_
           refine aL 1 (by simp [go_sem, hwr1, hx1, hi0, hy, hwr2, hx, hin] <;> rfl) ?_
           refine al_nil ?_
           refine awp_seq (aR (by simp [go_sem, hwr1, hx1, hi0, hy, hwr2, hx, hin] <;> rfl) ?_)
           refine awp_cond (by first | rfl | (simp [go_sem, hwr1, hx1, hi0, hy, hwr2, hx, hin] <;> rfl)) (fun h13 => ?_) (fun h13 => ?_)
           ·refine awp_seq ?_
            refine aR (by simp [go_sem, hwr1, hx1, hi0, hy, hwr2, hx, hin] <;> rfl) ?_
            refine awp_ret ?_
            refine inBlock_ret ?_
            refine then_ret ?_
            refine then_ret ?_
            refine inBlock_ret ?_
            refine then_ret ?_
            refine ends_ret (by simp [go_sem] <;> rfl) (by simp [go_sem]) ?_
            have hs : body1 ps b d = cexpr ps (inb b d k) x := by rw [hn, hst]; simp only [Bool.not_true, hwr1, hx1, hi0, hy, hwr2, hx, hin, h0, h1, h2, h3, h4, hky, h5, h6, h7, h8, h9, hin, h13, bA, bB, bC, bD, bE, bF, bG, bH, bI, bJ, Bool.false_eq_true, if_true, if_false]
            exact ⟨by simp [go_sem, hs, hwr1, hx1, hi0, hy, hwr2, hx, hin, h0, h1, h2, h3, h4, hky, h5, h6, h7, h8, h9, hin, h13], by simp [go_sem]⟩
           ·refine awp_skip ?_
            refine aR (by simp [go_sem, hwr1, hx1, hi0, hy, hwr2, hx, hin] <;> rfl) ?_
            exact next_intro (k + 1) σ.objs.length σ.toks.length 1 (⟨hlt, by rw [hn, hst]; simp only [h0, h1, h2, h3, h4, hky, h5, h6, h7, h8, h9, hin, h13, bA, bB, bC, bD, bE, bF, bG, bH, bI, bJ, Bool.false_eq_true, if_true, if_false]⟩) (by omega) ⟨by simp [go_sem, hwr1, hx1, hi0, hy, hwr2, hx, hin, hw], rfl, by simp, by simp, by simp [go_sem, hwr1, hx1, hi0, hy, hwr2, hx, hin, hw], fun ob h => .inl (by simpa [go_sem, hwr1, hx1, hi0, hy, hwr2, hx, hin, hw] using h), by simp [go_sem]⟩
         ·have hke : k = (kidsR d).length := by simp at h8; omega
          subst hke
          refine awp_exit ?_
          refine then_exit ?_
          refine then_exit ?_
          refine inBlock_hit ?_
          refine awp_seq (aR (by simp [go_sem, hwr1, hx1, hi0, hy, hwr2] <;> rfl) ?_)
          refine awp_ret ?_
          refine ends_ret (by simp [go_sem] <;> rfl) (by simp [go_sem]) ?_
          have hs : body1 ps b d = 0 := by rw [hn, List.drop_length]; rfl
          exact ⟨by simp [go_sem, hs], by simp [go_sem]⟩
       ·refine aK 6 57 true ?_
        refine aL 1 (by simp [go_sem, hwr1, hx1, hi0, hy, hwr2] <;> rfl) ?_
        refine al_nil ?_
        refine awp_cond (b := false) (by simp [go_sem, hwr1, hx1, hi0, hy, hwr2, h0, h1, h2, h3, h4, hky, h5, h6]) (fun h => ?_) (fun h => ?_)
        ·cases h
        refine awp_skip ?_
        refine awp_seq ?_
        have hgo : body1 ps b d = goB ps b d 0 (kidsR d) := by unfold body1; simp only [eCall, hwr1, hx1, hi0, hy, hwr2, h0, h1, h2, h3, h4, hky, h5, h6, bA, bB, bC, bD, bE, bF, bG, bH, bI, bJ, Bool.false_eq_true, if_true, if_false]
        refine awp_reg ?_
        refine aL 1 (by simp [go_sem, hwr1, hx1, hi0, hy, hwr2] <;> rfl) ?_
        refine aF call88 ((c_Kids d (form_two hfm)) _ (by exact hgl)) (by simp [go_sem, hwr1, hx1, hi0, hy, hwr2] <;> rfl) (by simp [go_sem, hwr1, hx1, hi0, hy, hwr2]) ?_
        refine aL 1 (by simp [go_sem, hwr1, hx1, hi0, hy, hwr2] <;> rfl) ?_
        refine al_nil ?_
        refine awp_seq (awp_seq (aR (by simp [go_sem, hwr1, hx1, hi0, hy, hwr2] <;> rfl) ?_))
        refine awp_block ?_
        refine awp_loop_headK σ.objs.length σ.toks.length 1 [0, 2, 4, 6, 7, 11] (fun k : Nat => [(12, .pv (.int .i64 ↑k))]) (fun k => σ) (fun k => k ≤ (kidsR d).length ∧ body1 ps b d = goB ps b d k ((kidsR d).drop k)) (fun k => (kidsR d).length - k) 0 (⟨Nat.zero_le _, by rw [hgo]; rfl⟩) ⟨by simp [go_sem, hwr1, hx1, hi0, hy, hwr2], rfl, by simp, by simp, by simp [go_sem, hwr1, hx1, hi0, hy, hwr2], fun ob h => .inl (by simpa [go_sem, hwr1, hx1, hi0, hy, hwr2] using h), by simp [go_sem]⟩ ?_
        rintro k ⟨hk, hn⟩
        refine awp_seq (awp_seq (aR (by simp [go_sem, hwr1, hx1, hi0, hy, hwr2] <;> rfl) ?_))
        refine awp_cond (by first | rfl | (simp [go_sem, hwr1, hx1, hi0, hy, hwr2] <;> rfl)) (fun h14 => ?_) (fun h14 => ?_)
        ·have hlt : k < (kidsR d).length := by simp at h14; omega
         have hw : IntKind.i64.wrap (↑k + 1) = (k : Int) + 1 := wrap_succ (by omega)
         obtain ⟨x, hx, hxm⟩ := get_lt hlt
         have hst := goB_step (ps := ps) (b := b) hx
         refine awp_skip ?_
         refine awp_seq (awp_block ?_)
         refine awp_seq (aR (by simp [go_sem, hwr1, hx1, hi0, hy, hwr2, hx] <;> rfl) ?_)
         refine awp_seq (awp_seq (awp_reg ?_))
         refine aL 3 (by simp [go_sem, hwr1, hx1, hi0, hy, hwr2, hx] <;> rfl) ?_
         refine al_splitT 76 (by first | rfl | (simp [go_sem, hwr1, hx1, hi0, hy, hwr2, hx] <;> rfl)) (fun h15 => ?_) (fun h15 => ?_)
         ·have hA := h15
          refine aLG 2 76 true (by simp [go_sem, hwr1, hx1, hi0, hy, hwr2, hx] <;> rfl) ?_
          refine aL 1 (by simp [go_sem, hwr1, hx1, hi0, hy, hwr2, hx] <;> rfl) ?_
          refine al_nil ?_
          refine awp_cond (by first | rfl | (simp [go_sem, hwr1, hx1, hi0, hy, hwr2, hx] <;> rfl)) (fun h16 => ?_) (fun h16 => ?_)
          ·have h2m := form_two hfm (.inl (of_decide_eq_true hA))
           have hy1 := get_d1 h2m
           have hin : inb b d k = b ++ [(d1 d.kids).text] := inb_yes hA h16
           have hbb : (b.length + 1) * 16 ≤ 140737488355328 := by omega
           have hb16 : b.length * 16 ≤ 140737488355328 := by omega
           refine awp_regDP tyOk tySz 9 (by kernel_rfl) (by decide) ?_
           refine ul_run 9 (by simp [go_sem, hwr1, hx1, hi0, hy, hwr2, hx, hy1, hin, hbb, hb16, allSz_str] <;> rfl) ?_
           refine ul_nil ?_
           refine aL 2 (by simp [go_sem, hwr1, hx1, hi0, hy, hwr2, hx, hy1, hin, hbb, hb16, allSz_str] <;> rfl) ?_
           refine al_nil ?_
           refine awp_seq (awp_reg ?_)
           refine aL 6 (by simp [go_sem, hwr1, hx1, hi0, hy, hwr2, hx, hy1, hin, hbb, hb16, allSz_str] <;> rfl) ?_
           refine aF call44 (ih x (kidsR_mem hxm) (inb b d k) _ (by exact hgl) (formed_kids hf (kidsR_mem hxm)) (by have := D.size_kid_lt (kidsR_mem hxm); have := inb_len b d k; omega)) (by simp [go_sem, hwr1, hx1, hi0, hy, hwr2, hx, hy1, hin, hbb, hb16, allSz_str] <;> rfl) (by simp [go_sem, hwr1, hx1, hi0, hy, hwr2, hx, hy1, hin, hbb, hb16, allSz_str]) ?_
           refine aL 1 (by simp [go_sem, hwr1, hx1, hi0, hy, hwr2, hx, hy1, hin, hbb, hb16, allSz_str] <;> rfl) ?_
           refine al_nil ?_
           refine awp_seq (aR (by simp [go_sem, hwr1, hx1, hi0, hy, hwr2, hx, hy1, hin, hbb, hb16, allSz_str] <;> rfl) ?_)
           refine awp_cond (by first | rfl | (simp [go_sem, hwr1, hx1, hi0, hy, hwr2, hx, hy1, hin, hbb, hb16, allSz_str] <;> rfl)) (fun h17 => ?_) (fun h17 => ?_)
           ·refine awp_seq ?_
            refine aR (by simp [go_sem, hwr1, hx1, hi0, hy, hwr2, hx, hy1, hin, hbb, hb16, allSz_str] <;> rfl) ?_
            refine awp_ret ?_
            refine inBlock_ret ?_
            refine then_ret ?_
            refine then_ret ?_
            refine inBlock_ret ?_
            refine then_ret ?_
            refine ends_ret (by simp [go_sem] <;> rfl) (by simp [go_sem]) ?_
            have hs : body1 ps b d = cexpr ps (inb b d k) x := by rw [hn, hst]; simp only [Bool.not_true, hwr1, hx1, hi0, hy, hwr2, hx, hy1, hin, hbb, hb16, allSz_str, h0, h1, h2, h3, h4, hky, h5, h6, h14, h15, h16, hin, h17, bA, bB, bC, bD, bE, bF, bG, bH, bI, bJ, Bool.false_eq_true, if_true, if_false]
            exact ⟨by simp [go_sem, hs, hwr1, hx1, hi0, hy, hwr2, hx, hy1, hin, hbb, hb16, allSz_str, h0, h1, h2, h3, h4, hky, h5, h6, h14, h15, h16, hin, h17], by simp [go_sem]⟩
           ·refine awp_skip ?_
            refine aR (by simp [go_sem, hwr1, hx1, hi0, hy, hwr2, hx, hy1, hin, hbb, hb16, allSz_str] <;> rfl) ?_
            exact next_intro (k + 1) σ.objs.length σ.toks.length 1 (⟨hlt, by rw [hn, hst]; simp only [h0, h1, h2, h3, h4, hky, h5, h6, h14, h15, h16, hin, h17, bA, bB, bC, bD, bE, bF, bG, bH, bI, bJ, Bool.false_eq_true, if_true, if_false]⟩) (by omega) ⟨by simp [go_sem, hwr1, hx1, hi0, hy, hwr2, hx, hy1, hin, hbb, hb16, allSz_str, hw], rfl, by simp, by simp, by simp [go_sem, hwr1, hx1, hi0, hy, hwr2, hx, hy1, hin, hbb, hb16, allSz_str, hw], fun ob h => .inl (by simpa [go_sem, hwr1, hx1, hi0, hy, hwr2, hx, hy1, hin, hbb, hb16, allSz_str, hw] using h), by simp [go_sem]⟩
          ·have hin : inb b d k = b := inb_other h16
           refine awp_skip ?_
           refine awp_seq (awp_reg ?_)
           refine aL 6 (by simp [go_sem, hwr1, hx1, hi0, hy, hwr2, hx, hin] <;> rfl) ?_
           refine aF call44 (ih x (kidsR_mem hxm) (inb b d k) _ (by exact hgl) (formed_kids hf (kidsR_mem hxm)) (by have := D.size_kid_lt (kidsR_mem hxm); have := inb_len b d k; omega)) (by simp [go_sem, hwr1, hx1, hi0, hy, hwr2, hx, hin] <;> rfl) (by simp [go_sem, hwr1, hx1, hi0, hy, hwr2, hx, hin]) ?_
           refine aL 1 (by simp [go_sem, hwr1, hx1, hi0, hy, hwr2, hx, hin] <;> rfl) ?_
           refine al_nil ?_
           refine awp_seq (aR (by simp [go_sem, hwr1, hx1, hi0, hy, hwr2, hx, hin] <;> rfl) ?_)
           refine awp_cond (by first | rfl | (simp [go_sem, hwr1, hx1, hi0, hy, hwr2, hx, hin] <;> rfl)) (fun h18 => ?_) (fun h18 => ?_)
           ·refine awp_seq ?_
            refine aR (by simp [go_sem, hwr1, hx1, hi0, hy, hwr2, hx, hin] <;> rfl) ?_
            refine awp_ret ?_
            refine inBlock_ret ?_
            refine then_ret ?_
            refine then_ret ?_
            refine inBlock_ret ?_
            refine then_ret ?_
            refine ends_ret (by simp [go_sem] <;> rfl) (by simp [go_sem]) ?_
            have hs : body1 ps b d = cexpr ps (inb b d k) x := by rw [hn, hst]; simp only [Bool.not_true, hwr1, hx1, hi0, hy, hwr2, hx, hin, h0, h1, h2, h3, h4, hky, h5, h6, h14, h15, h16, hin, h18, bA, bB, bC, bD, bE, bF, bG, bH, bI, bJ, Bool.false_eq_true, if_true, if_false]
            exact ⟨by simp [go_sem, hs, hwr1, hx1, hi0, hy, hwr2, hx, hin, h0, h1, h2, h3, h4, hky, h5, h6, h14, h15, h16, hin, h18], by simp [go_sem]⟩
           ·refine awp_skip ?_
            refine aR (by simp [go_sem, hwr1, hx1, hi0, hy, hwr2, hx, hin] <;> rfl) ?_
            exact next_intro (k + 1) σ.objs.length σ.toks.length 1 (⟨hlt, by rw [hn, hst]; simp only [h0, h1, h2, h3, h4, hky, h5, h6, h14, h15, h16, hin, h18, bA, bB, bC, bD, bE, bF, bG, bH, bI, bJ, Bool.false_eq_true, if_true, if_false]⟩) (by omega) ⟨by simp [go_sem, hwr1, hx1, hi0, hy, hwr2, hx, hin, hw], rfl, by simp, by simp, by simp [go_sem, hwr1, hx1, hi0, hy, hwr2, hx, hin, hw], fun ob h => .inl (by simpa [go_sem, hwr1, hx1, hi0, hy, hwr2, hx, hin, hw] using h), by simp [go_sem]⟩
         ·have hin : inb b d k = b := inb_no h15
          refine aK 2 76 true ?_
          refine aL 1 (by simp [go_sem, hwr1, hx1, hi0, hy, hwr2, hx, hin] <;> rfl) ?_
          refine al_nil ?_
          refine awp_cond (b := false) (by simp [go_sem, hwr1, hx1, hi0, hy, hwr2, hx, hin, h0, h1, h2, h3, h4, hky, h5, h6, h14, h15, hin]) (fun h => ?_) (fun h => ?_)
          ·cases h
          refine awp_skip ?_
          refine awp_seq (awp_reg ?_)
          refine aL 6 (by simp [go_sem, hwr1, hx1, hi0, hy, hwr2, hx, hin] <;> rfl) ?_
          refine aF call44 (ih x (kidsR_mem hxm) (inb b d k) _ (by exact hgl) (formed_kids hf (kidsR_mem hxm)) (by have := D.size_kid_lt (kidsR_mem hxm); have := inb_len b d k; omega)) (by simp [go_sem, hwr1, hx1, hi0, hy, hwr2, hx, hin] <;> rfl) (by simp [go_sem, hwr1, hx1, hi0, hy, hwr2, hx, hin]) ?_
          refine aL 1 (by simp [go_sem, hwr1, hx1, hi0, hy, hwr2, hx, hin] <;> rfl) ?_
          refine al_nil ?_
          refine awp_seq (aR (by simp [go_sem, hwr1, hx1, hi0, hy, hwr2, hx, hin] <;> rfl) ?_)
          refine awp_cond (by first | rfl | (simp [go_sem, hwr1, hx1, hi0, hy, hwr2, hx, hin] <;> rfl)) (fun h19 => ?_) (fun h19 => ?_)
          ·refine awp_seq ?_
           refine aR (by simp [go_sem, hwr1, hx1, hi0, hy, hwr2, hx, hin] <;> rfl) ?_
           refine awp_ret ?_
           refine inBlock_ret ?_
           refine then_ret ?_
           refine then_ret ?_
           refine inBlock_ret ?_
           refine then_ret ?_
           refine ends_ret (by simp [go_sem] <;> rfl) (by simp [go_sem]) ?_
           have hs : body1 ps b d = cexpr ps (inb b d k) x := by rw [hn, hst]; simp only [Bool.not_true, hwr1, hx1, hi0, hy, hwr2, hx, hin, h0, h1, h2, h3, h4, hky, h5, h6, h14, h15, hin, h19, bA, bB, bC, bD, bE, bF, bG, bH, bI, bJ, Bool.false_eq_true, if_true, if_false]
           exact ⟨by simp [go_sem, hs, hwr1, hx1, hi0, hy, hwr2, hx, hin, h0, h1, h2, h3, h4, hky, h5, h6, h14, h15, hin, h19], by simp [go_sem]⟩
          ·refine awp_skip ?_
           refine aR (by simp [go_sem, hwr1, hx1, hi0, hy, hwr2, hx, hin] <;> rfl) ?_
           exact next_intro (k + 1) σ.objs.length σ.toks.length 1 (⟨hlt, by rw [hn, hst]; simp only [h0, h1, h2, h3, h4, hky, h5, h6, h14, h15, hin, h19, bA, bB, bC, bD, bE, bF, bG, bH, bI, bJ, Bool.false_eq_true, if_true, if_false]⟩) (by omega) ⟨by simp [go_sem, hwr1, hx1, hi0, hy, hwr2, hx, hin, hw], rfl, by simp, by simp, by simp [go_sem, hwr1, hx1, hi0, hy, hwr2, hx, hin, hw], fun ob h => .inl (by simpa [go_sem, hwr1, hx1, hi0, hy, hwr2, hx, hin, hw] using h), by simp [go_sem]⟩
        ·have hke : k = (kidsR d).length := by simp at h14; omega
         subst hke
         refine awp_exit ?_
         refine then_exit ?_
         refine then_exit ?_
         refine inBlock_hit ?_
         refine awp_seq (aR (by simp [go_sem, hwr1, hx1, hi0, hy, hwr2] <;> rfl) ?_)
         refine awp_ret ?_
         refine ends_ret (by simp [go_sem] <;> rfl) (by simp [go_sem]) ?_
         have hs : body1 ps b d = 0 := by rw [hn, List.drop_length]; rfl
         exact ⟨by simp [go_sem, hs], by simp [go_sem]⟩
    ·refine awp_skip ?_
     refine awp_seq (awp_seq (awp_reg ?_))
     refine aL 1 (by simp [go_sem, hwr1] <;> rfl) ?_
     refine aF call87 ((c_Arity07 (word d)) _ (by exact hgl)) (by simp [go_sem, hwr1] <;> rfl) (by simp [go_sem, hwr1]) ?_
     refine aL 5 (by simp [go_sem, hwr1] <;> rfl) ?_
     refine al_nil ?_
     refine awp_seq (awp_reg ?_)
     refine aL 2 (by simp [go_sem, hwr1] <;> rfl) ?_
     refine al_splitT 57 (by first | rfl | (simp [go_sem, hwr1] <;> rfl)) (fun h20 => ?_) (fun h20 => ?_)
     ·refine aLG 6 57 true (by simp [go_sem, hwr1] <;> rfl) ?_
      refine aL 1 (by simp [go_sem, hwr1] <;> rfl) ?_
      refine al_nil ?_
      refine awp_cond (by first | rfl | (simp [go_sem, hwr1] <;> rfl)) (fun h21 => ?_) (fun h21 => ?_)
      ·refine awp_seq ?_
       refine aR (by simp [go_sem, hwr1] <;> rfl) ?_
       refine awp_ret ?_
       refine then_ret ?_
       refine ends_ret (by simp [go_sem] <;> rfl) (by simp [go_sem]) ?_
       have hs : body1 ps b d = 11 := by unfold body1; simp only [eCall, hwr1, h0, h1, h2, h3, h20, h21, bA, bB, bC, bD, bE, bF, bG, bH, bI, bJ, Bool.false_eq_true, if_true, if_false]
       exact ⟨by simp [go_sem, hs], by simp [go_sem]⟩
      ·refine awp_skip ?_
       refine awp_seq ?_
       have hgo : body1 ps b d = goB ps b d 0 (kidsR d) := by unfold body1; simp only [eCall, hwr1, h0, h1, h2, h3, h20, h21, bA, bB, bC, bD, bE, bF, bG, bH, bI, bJ, Bool.false_eq_true, if_true, if_false]
       refine awp_reg ?_
       refine aL 1 (by simp [go_sem, hwr1] <;> rfl) ?_
       refine aF call88 ((c_Kids d (form_two hfm)) _ (by exact hgl)) (by simp [go_sem, hwr1] <;> rfl) (by simp [go_sem, hwr1]) ?_
       refine aL 1 (by simp [go_sem, hwr1] <;> rfl) ?_
       refine al_nil ?_
       refine awp_seq (awp_seq (aR (by simp [go_sem, hwr1] <;> rfl) ?_))
       refine awp_block ?_
       refine awp_loop_headK σ.objs.length σ.toks.length 1 [0, 2, 4, 6, 7, 11] (fun k : Nat => [(12, .pv (.int .i64 ↑k))]) (fun k => σ) (fun k => k ≤ (kidsR d).length ∧ body1 ps b d = goB ps b d k ((kidsR d).drop k)) (fun k => (kidsR d).length - k) 0 (⟨Nat.zero_le _, by rw [hgo]; rfl⟩) ⟨by simp [go_sem, hwr1], rfl, by simp, by simp, by simp [go_sem, hwr1], fun ob h => .inl (by simpa [go_sem, hwr1] using h), by simp [go_sem]⟩ ?_
       rintro k ⟨hk, hn⟩
       refine awp_seq (awp_seq (aR (by simp [go_sem, hwr1] <;> rfl) ?_))
       refine awp_cond (by first | rfl | (simp [go_sem, hwr1] <;> rfl)) (fun h22 => ?_) (fun h22 => ?_)
       ·have hlt : k < (kidsR d).length := by simp at h22; omega
        have hw : IntKind.i64.wrap (↑k + 1) = (k : Int) + 1 := wrap_succ (by omega)
        obtain ⟨x, hx, hxm⟩ := get_lt hlt
        have hst := goB_step (ps := ps) (b := b) hx
        refine awp_skip ?_
        refine awp_seq (awp_block ?_)
        refine awp_seq (aR (by simp [go_sem, hwr1, hx] <;> rfl) ?_)
        refine awp_seq (awp_seq (awp_reg ?_))
        refine aL 3 (by simp [go_sem, hwr1, hx] <;> rfl) ?_
        refine al_splitT 76 (by first | rfl | (simp [go_sem, hwr1, hx] <;> rfl)) (fun h23 => ?_) (fun h23 => ?_)
        ·have hA := h23
         refine aLG 2 76 true (by simp [go_sem, hwr1, hx] <;> rfl) ?_
         refine aL 1 (by simp [go_sem, hwr1, hx] <;> rfl) ?_
         refine al_nil ?_
         refine awp_cond (by first | rfl | (simp [go_sem, hwr1, hx] <;> rfl)) (fun h24 => ?_) (fun h24 => ?_)
         ·have h2m := form_two hfm (.inl (of_decide_eq_true hA))
          have hy1 := get_d1 h2m
          have hin : inb b d k = b ++ [(d1 d.kids).text] := inb_yes hA h24
          have hbb : (b.length + 1) * 16 ≤ 140737488355328 := by omega
          have hb16 : b.length * 16 ≤ 140737488355328 := by omega
          refine awp_regDP tyOk tySz 9 (by kernel_rfl) (by decide) ?_
          refine ul_run 9 (by simp [go_sem, hwr1, hx, hy1, hin, hbb, hb16, allSz_str] <;> rfl) ?_
          refine ul_nil ?_
          refine aL 2 (by simp [go_sem, hwr1, hx, hy1, hin, hbb, hb16, allSz_str] <;> rfl) ?_
          refine al_nil ?_
          refine awp_seq (awp_reg ?_)
          refine aL 6 (by simp [go_sem, hwr1, hx, hy1, hin, hbb, hb16, allSz_str] <;> rfl) ?_
          refine aF call44 (ih x (kidsR_mem hxm) (inb b d k) _ (by exact hgl) (formed_kids hf (kidsR_mem hxm)) (by have := D.size_kid_lt (kidsR_mem hxm); have := inb_len b d k; omega)) (by simp [go_sem, hwr1, hx, hy1, hin, hbb, hb16, allSz_str] <;> rfl) (by simp [go_sem, hwr1, hx, hy1, hin, hbb, hb16, allSz_str]) ?_
          refine aL 1 (by simp [go_sem, hwr1, hx, hy1, hin, hbb, hb16, allSz_str] <;> rfl) ?_
          refine al_nil ?_
          refine awp_seq (aR (by simp [go_sem, hwr1, hx, hy1, hin, hbb, hb16, allSz_str] <;> rfl) ?_)
          refine awp_cond (by first | rfl | (simp [go_sem, hwr1, hx, hy1, hin, hbb, hb16, allSz_str] <;> rfl)) (fun h25 => ?_) (fun h25 => ?_)
          ·refine awp_seq ?_
           refine aR (by simp [go_sem, hwr1, hx, hy1, hin, hbb, hb16, allSz_str] <;> rfl) ?_
           refine awp_ret ?_
           refine inBlock_ret ?_
           refine then_ret ?_
           refine then_ret ?_
           refine inBlock_ret ?_
           refine then_ret ?_
           refine ends_ret (by simp [go_sem] <;> rfl) (by simp [go_sem]) ?_
           have hs : body1 ps b d = cexpr ps (inb b d k) x := by rw [hn, hst]; simp only [Bool.not_true, hwr1, hx, hy1, hin, hbb, hb16, allSz_str, h0, h1, h2, h3, h20, h21, h22, h23, h24, hin, h25, bA, bB, bC, bD, bE, bF, bG, bH, bI, bJ, Bool.false_eq_true, if_true, if_false]
           exact ⟨by simp [go_sem, hs, hwr1, hx, hy1, hin, hbb, hb16, allSz_str, h0, h1, h2, h3, h20, h21, h22, h23, h24, hin, h25], by simp [go_sem]⟩
          ·refine awp_skip ?_
           refine aR (by simp [go_sem, hwr1, hx, hy1, hin, hbb, hb16, allSz_str] <;> rfl) ?_
           exact next_intro (k + 1) σ.objs.length σ.toks.length 1 (⟨hlt, by rw [hn, hst]; simp only [h0, h1, h2, h3, h20, h21, h22, h23, h24, hin, h25, bA, bB, bC, bD, bE, bF, bG, bH, bI, bJ, Bool.false_eq_true, if_true, if_false]⟩) (by omega) ⟨by simp [go_sem, hwr1, hx, hy1, hin, hbb, hb16, allSz_str, hw], rfl, by simp, by simp, by simp [go_sem, hwr1, hx, hy1, hin, hbb, hb16, allSz_str, hw], fun ob h => .inl (by simpa [go_sem, hwr1, hx, hy1, hin, hbb, hb16, allSz_str, hw] using h), by simp [go_sem]⟩
         ·have hin : inb b d k = b := inb_other h24
          refine awp_skip ?_
          refine awp_seq (awp_reg ?_)
          refine aL 6 (by simp [go_sem, hwr1, hx, hin] <;> rfl) ?_
          refine aF call44 (ih x (kidsR_mem hxm) (inb b d k) _ (by exact hgl) (formed_kids hf (kidsR_mem hxm)) (by have := D.size_kid_lt (kidsR_mem hxm); have := inb_len b d k; omega)) (by simp [go_sem, hwr1, hx, hin] <;> rfl) (by simp [go_sem, hwr1, hx, hin]) ?_
          refine aL 1 (by simp [go_sem, hwr1, hx, hin] <;> rfl) ?_
          refine al_nil ?_
          refine awp_seq (aR (by simp [go_sem, hwr1, hx, hin] <;> rfl) ?_)
          refine awp_cond (by first | rfl | (simp [go_sem, hwr1, hx, hin] <;> rfl)) (fun h26 => ?_) (fun h26 => ?_)
          ·refine awp_seq ?_
           refine aR (by simp [go_sem, hwr1, hx, hin] <;> rfl) ?_
           refine awp_ret ?_
           refine inBlock_ret ?_
           refine then_ret ?_
           refine then_ret ?_
           refine inBlock_ret ?_
           refine then_ret ?_
           refine ends_ret (by simp [go_sem] <;> rfl) (by simp [go_sem]) ?_
           have hs : body1 ps b d = cexpr ps (inb b d k) x := by rw [hn, hst]; simp only [Bool.not_true, hwr1, hx, hin, h0, h1, h2, h3, h20, h21, h22, h23, h24, hin, h26, bA, bB, bC, bD, bE, bF, bG, bH, bI, bJ, Bool.false_eq_true, if_true, if_false]
           exact ⟨by simp [go_sem, hs, hwr1, hx, hin, h0, h1, h2, h3, h20, h21, h22, h23, h24, hin, h26], by simp [go_sem]⟩
          ·refine awp_skip ?_
           refine aR (by simp [go_sem, hwr1, hx, hin] <;> rfl) ?_
           exact next_intro (k + 1) σ.objs.length σ.toks.length 1 (⟨hlt, by rw [hn, hst]; simp only [h0, h1, h2, h3, h20, h21, h22, h23, h24, hin, h26, bA, bB, bC, bD, bE, bF, bG, bH, bI, bJ, Bool.false_eq_true, if_true, if_false]⟩) (by omega) ⟨by simp [go_sem, hwr1, hx, hin, hw], rfl, by simp, by simp, by simp [go_sem, hwr1, hx, hin, hw], fun ob h => .inl (by simpa [go_sem, hwr1, hx, hin, hw] using h), by simp [go_sem]⟩
        ·have hin : inb b d k = b := inb_no h23
         refine aK 2 76 true ?_
         refine aL 1 (by simp [go_sem, hwr1, hx, hin] <;> rfl) ?_
         refine al_nil ?_
         refine awp_cond (b := false) (by simp [go_sem, hwr1, hx, hin, h0, h1, h2, h3, h20, h21, h22, h23, hin]) (fun h => ?_) (fun h => ?_)
         ·cases h
         refine awp_skip ?_
         refine awp_seq (awp_reg ?_)
         refine aL 6 (by simp [go_sem, hwr1, hx, hin] <;> rfl) ?_
         refine aF call44 (ih x (kidsR_mem hxm) (inb b d k) _ (by exact hgl) (formed_kids hf (kidsR_mem hxm)) (by have := D.size_kid_lt (kidsR_mem hxm); have := inb_len b d k; omega)) (by simp [go_sem, hwr1, hx, hin] <;> rfl) (by simp [go_sem, hwr1, hx, hin]) ?_
         refine aL 1 (by simp [go_sem, hwr1, hx, hin] <;> rfl) ?_
         refine al_nil ?_
         refine awp_seq (aR (by simp [go_sem, hwr1, hx, hin] <;> rfl) ?_)
         refine awp_cond (by first | rfl | (simp [go_sem, hwr1, hx, hin] <;> rfl)) (fun h27 => ?_) (fun h27 => ?_)
         ·refine awp_seq ?_
          refine aR (by simp [go_sem, hwr1, hx, hin] <;> rfl) ?_
          refine awp_ret ?_
          refine inBlock_ret ?_
          refine then_ret ?_
          refine then_ret ?_
          refine inBlock_ret ?_
          refine then_ret ?_
          refine ends_ret (by simp [go_sem] <;> rfl) (by simp [go_sem]) ?_
          have hs : body1 ps b d = cexpr ps (inb b d k) x := by rw [hn, hst]; simp only [Bool.not_true, hwr1, hx, hin, h0, h1, h2, h3, h20, h21, h22, h23, hin, h27, bA, bB, bC, bD, bE, bF, bG, bH, bI, bJ, Bool.false_eq_true, if_true, if_false]
          exact ⟨by simp [go_sem, hs, hwr1, hx, hin, h0, h1, h2, h3, h20, h21, h22, h23, hin, h27], by simp [go_sem]⟩
         ·refine awp_skip ?_
          refine aR (by simp [go_sem, hwr1, hx, hin] <;> rfl) ?_
          exact next_intro (k + 1) σ.objs.length σ.toks.length 1 (⟨hlt, by rw [hn, hst]; simp only [h0, h1, h2, h3, h20, h21, h22, h23, hin, h27, bA, bB, bC, bD, bE, bF, bG, bH, bI, bJ, Bool.false_eq_true, if_true, if_false]⟩) (by omega) ⟨by simp [go_sem, hwr1, hx, hin, hw], rfl, by simp, by simp, by simp [go_sem, hwr1, hx, hin, hw], fun ob h => .inl (by simpa [go_sem, hwr1, hx, hin, hw] using h), by simp [go_sem]⟩
       ·have hke : k = (kidsR d).length := by simp at h22; omega
        subst hke
        refine awp_exit ?_
        refine then_exit ?_
        refine then_exit ?_
        refine inBlock_hit ?_
        refine awp_seq (aR (by simp [go_sem, hwr1] <;> rfl) ?_)
        refine awp_ret ?_
        refine ends_ret (by simp [go_sem] <;> rfl) (by simp [go_sem]) ?_
        have hs : body1 ps b d = 0 := by rw [hn, List.drop_length]; rfl
        exact ⟨by simp [go_sem, hs], by simp [go_sem]⟩
     ·refine aK 6 57 true ?_
      refine aL 1 (by simp [go_sem, hwr1] <;> rfl) ?_
      refine al_nil ?_
      refine awp_cond (b := false) (by simp [go_sem, hwr1, h0, h1, h2, h3, h20]) (fun h => ?_) (fun h => ?_)
      ·cases h
      refine awp_skip ?_
      refine awp_seq ?_
      have hgo : body1 ps b d = goB ps b d 0 (kidsR d) := by unfold body1; simp only [eCall, hwr1, h0, h1, h2, h3, h20, bA, bB, bC, bD, bE, bF, bG, bH, bI, bJ, Bool.false_eq_true, if_true, if_false]
      refine awp_reg ?_
      refine aL 1 (by simp [go_sem, hwr1] <;> rfl) ?_
      refine aF call88 ((c_Kids d (form_two hfm)) _ (by exact hgl)) (by simp [go_sem, hwr1] <;> rfl) (by simp [go_sem, hwr1]) ?_
      refine aL 1 (by simp [go_sem, hwr1] <;> rfl) ?_
      refine al_nil ?_
      refine awp_seq (awp_seq (aR (by simp [go_sem, hwr1] <;> rfl) ?_))
      refine awp_block ?_
      refine awp_loop_headK σ.objs.length σ.toks.length 1 [0, 2, 4, 6, 7, 11] (fun k : Nat => [(12, .pv (.int .i64 ↑k))]) (fun k => σ) (fun k => k ≤ (kidsR d).length ∧ body1 ps b d = goB ps b d k ((kidsR d).drop k)) (fun k => (kidsR d).length - k) 0 (⟨Nat.zero_le _, by rw [hgo]; rfl⟩) ⟨by simp [go_sem, hwr1], rfl, by simp, by simp, by simp [go_sem, hwr1], fun ob h => .inl (by simpa [go_sem, hwr1] using h), by simp [go_sem]⟩ ?_
      rintro k ⟨hk, hn⟩
      refine awp_seq (awp_seq (aR (by simp [go_sem, hwr1] <;> rfl) ?_))
      refine awp_cond (by first | rfl | (simp [go_sem, hwr1] <;> rfl)) (fun h28 => ?_) (fun h28 => ?_)
      ·have hlt : k < (kidsR d).length := by simp at h28; omega
       have hw : IntKind.i64.wrap (↑k + 1) = (k : Int) + 1 := wrap_succ (by omega)
       obtain ⟨x, hx, hxm⟩ := get_lt hlt
       have hst := goB_step (ps := ps) (b := b) hx
       refine awp_skip ?_
       refine awp_seq (awp_block ?_)
       refine awp_seq (aR (by simp [go_sem, hwr1, hx] <;> rfl) ?_)
       refine awp_seq (awp_seq (awp_reg ?_))
       refine aL 3 (by simp [go_sem, hwr1, hx] <;> rfl) ?_
       refine al_splitT 76 (by first | rfl | (simp [go_sem, hwr1, hx] <;> rfl)) (fun h29 => ?_) (fun h29 => ?_)
       ·have hA := h29
        refine aLG 2 76 true (by simp [go_sem, hwr1, hx] <;> rfl) ?_
        refine aL 1 (by simp [go_sem, hwr1, hx] <;> rfl) ?_
        refine al_nil ?_
        refine awp_cond (by first | rfl | (simp [go_sem, hwr1, hx] <;> rfl)) (fun h30 => ?_) (fun h30 => ?_)
        ·have h2m := form_two hfm (.inl (of_decide_eq_true hA))
         have hy1 := get_d1 h2m
         have hin : inb b d k = b ++ [(d1 d.kids).text] := inb_yes hA h30
         have hbb : (b.length + 1) * 16 ≤ 140737488355328 := by omega
         have hb16 : b.length * 16 ≤ 140737488355328 := by omega
         refine awp_regDP tyOk tySz 9 (by kernel_rfl) (by decide) ?_
         refine ul_run 9 (by simp [go_sem, hwr1, hx, hy1, hin, hbb, hb16, allSz_str] <;> rfl) ?_
         refine ul_nil ?_
         refine aL 2 (by simp [go_sem, hwr1, hx, hy1, hin, hbb, hb16, allSz_str] <;> rfl) ?_
         refine al_nil ?_
         refine awp_seq (awp_reg ?_)
         refine aL 6 (by simp [go_sem, hwr1, hx, hy1, hin, hbb, hb16, allSz_str] <;> rfl) ?_
         refine aF call44 (ih x (kidsR_mem hxm) (inb b d k) _ (by exact hgl) (formed_kids hf (kidsR_mem hxm)) (by have := D.size_kid_lt (kidsR_mem hxm); have := inb_len b d k; omega)) (by simp [go_sem, hwr1, hx, hy1, hin, hbb, hb16, allSz_str] <;> rfl) (by simp [go_sem, hwr1, hx, hy1, hin, hbb, hb16, allSz_str]) ?_
         refine aL 1 (by simp [go_sem, hwr1, hx, hy1, hin, hbb, hb16, allSz_str] <;> rfl) ?_
         refine al_nil ?_
         refine awp_seq (aR (by simp [go_sem, hwr1, hx, hy1, hin, hbb, hb16, allSz_str] <;> rfl) ?_)
         refine awp_cond (by first | rfl | (simp [go_sem, hwr1, hx, hy1, hin, hbb, hb16, allSz_str] <;> rfl)) (fun h31 => ?_) (fun h31 => ?_)
         ·refine awp_seq ?_
          refine aR (by simp [go_sem, hwr1, hx, hy1, hin, hbb, hb16, allSz_str] <;> rfl) ?_
          refine awp_ret ?_
          refine inBlock_ret ?_
          refine then_ret ?_
          refine then_ret ?_
          refine inBlock_ret ?_
          refine then_ret ?_
          refine ends_ret (by simp [go_sem] <;> rfl) (by simp [go_sem]) ?_
          have hs : body1 ps b d = cexpr ps (inb b d k) x := by rw [hn, hst]; simp only [Bool.not_true, hwr1, hx, hy1, hin, hbb, hb16, allSz_str, h0, h1, h2, h3, h20, h28, h29, h30, hin, h31, bA, bB, bC, bD, bE, bF, bG, bH, bI, bJ, Bool.false_eq_true, if_true, if_false]
          exact ⟨by simp [go_sem, hs, hwr1, hx, hy1, hin, hbb, hb16, allSz_str, h0, h1, h2, h3, h20, h28, h29, h30, hin, h31], by simp [go_sem]⟩
         ·refine awp_skip ?_
          refine aR (by simp [go_sem, hwr1, hx, hy1, hin, hbb, hb16, allSz_str] <;> rfl) ?_
          exact next_intro (k + 1) σ.objs.length σ.toks.length 1 (⟨hlt, by rw [hn, hst]; simp only [h0, h1, h2, h3, h20, h28, h29, h30, hin, h31, bA, bB, bC, bD, bE, bF, bG, bH, bI, bJ, Bool.false_eq_true, if_true, if_false]⟩) (by omega) ⟨by simp [go_sem, hwr1, hx, hy1, hin, hbb, hb16, allSz_str, hw], rfl, by simp, by simp, by simp [go_sem, hwr1, hx, hy1, hin, hbb, hb16, allSz_str, hw], fun ob h => .inl (by simpa [go_sem, hwr1, hx, hy1, hin, hbb, hb16, allSz_str, hw] using h), by simp [go_sem]⟩
        ·have hin : inb b d k = b := inb_other h30
         refine awp_skip ?_
         refine awp_seq (awp_reg ?_)
         refine aL 6 (by simp [go_sem, hwr1, hx, hin] <;> rfl) ?_
         refine aF call44 (ih x (kidsR_mem hxm) (inb b d k) _ (by exact hgl) (formed_kids hf (kidsR_mem hxm)) (by have := D.size_kid_lt (kidsR_mem hxm); have := inb_len b d k; omega)) (by simp [go_sem, hwr1, hx, hin] <;> rfl) (by simp [go_sem, hwr1, hx, hin]) ?_
         refine aL 1 (by simp [go_sem, hwr1, hx, hin] <;> rfl) ?_
         refine al_nil ?_
         refine awp_seq (aR (by simp [go_sem, hwr1, hx, hin] <;> rfl) ?_)
         refine awp_cond (by first | rfl | (simp [go_sem, hwr1, hx, hin] <;> rfl)) (fun h32 => ?_) (fun h32 => ?_)
         ·refine awp_seq ?_
          refine aR (by simp [go_sem, hwr1, hx, hin] <;> rfl) ?_
          refine awp_ret ?_
          refine inBlock_ret ?_
          refine then_ret ?_
          refine then_ret ?_
          refine inBlock_ret ?_
          refine then_ret ?_
          refine ends_ret (by simp [go_sem] <;> rfl) (by simp [go_sem]) ?_
          have hs : body1 ps b d = cexpr ps (inb b d k) x := by rw [hn, hst]; simp only [Bool.not_true, hwr1, hx, hin, h0, h1, h2, h3, h20, h28, h29, h30, hin, h32, bA, bB, bC, bD, bE, bF, bG, bH, bI, bJ, Bool.false_eq_true, if_true, if_false]
          exact ⟨by simp [go_sem, hs, hwr1, hx, hin, h0, h1, h2, h3, h20, h28, h29, h30, hin, h32], by simp [go_sem]⟩
         ·refine awp_skip ?_
          refine aR (by simp [go_sem, hwr1, hx, hin] <;> rfl) ?_
          exact next_intro (k + 1) σ.objs.length σ.toks.length 1 (⟨hlt, by rw [hn, hst]; simp only [h0, h1, h2, h3, h20, h28, h29, h30, hin, h32, bA, bB, bC, bD, bE, bF, bG, bH, bI, bJ, Bool.false_eq_true, if_true, if_false]⟩) (by omega) ⟨by simp [go_sem, hwr1, hx, hin, hw], rfl, by simp, by simp, by simp [go_sem, hwr1, hx, hin, hw], fun ob h => .inl (by simpa [go_sem, hwr1, hx, hin, hw] using h), by simp [go_sem]⟩
       ·have hin : inb b d k = b := inb_no h29
        refine aK 2 76 true ?_
        refine aL 1 (by simp [go_sem, hwr1, hx, hin] <;> rfl) ?_
        refine al_nil ?_
        refine awp_cond (b := false) (by simp [go_sem, hwr1, hx, hin, h0, h1, h2, h3, h20, h28, h29, hin]) (fun h => ?_) (fun h => ?_)
        ·cases h
        refine awp_skip ?_
        refine awp_seq (awp_reg ?_)
        refine aL 6 (by simp [go_sem, hwr1, hx, hin] <;> rfl) ?_
        refine aF call44 (ih x (kidsR_mem hxm) (inb b d k) _ (by exact hgl) (formed_kids hf (kidsR_mem hxm)) (by have := D.size_kid_lt (kidsR_mem hxm); have := inb_len b d k; omega)) (by simp [go_sem, hwr1, hx, hin] <;> rfl) (by simp [go_sem, hwr1, hx, hin]) ?_
        refine aL 1 (by simp [go_sem, hwr1, hx, hin] <;> rfl) ?_
        refine al_nil ?_
        refine awp_seq (aR (by simp [go_sem, hwr1, hx, hin] <;> rfl) ?_)
        refine awp_cond (by first | rfl | (simp [go_sem, hwr1, hx, hin] <;> rfl)) (fun h33 => ?_) (fun h33 => ?_)
        ·refine awp_seq ?_
         refine aR (by simp [go_sem, hwr1, hx, hin] <;> rfl) ?_
         refine awp_ret ?_
         refine inBlock_ret ?_
         refine then_ret ?_
         refine then_ret ?_
         refine inBlock_ret ?_
         refine then_ret ?_
         refine ends_ret (by simp [go_sem] <;> rfl) (by simp [go_sem]) ?_
         have hs : body1 ps b d = cexpr ps (inb b d k) x := by rw [hn, hst]; simp only [Bool.not_true, hwr1, hx, hin, h0, h1, h2, h3, h20, h28, h29, hin, h33, bA, bB, bC, bD, bE, bF, bG, bH, bI, bJ, Bool.false_eq_true, if_true, if_false]
         exact ⟨by simp [go_sem, hs, hwr1, hx, hin, h0, h1, h2, h3, h20, h28, h29, hin, h33], by simp [go_sem]⟩
        ·refine awp_skip ?_
         refine aR (by simp [go_sem, hwr1, hx, hin] <;> rfl) ?_
         exact next_intro (k + 1) σ.objs.length σ.toks.length 1 (⟨hlt, by rw [hn, hst]; simp only [h0, h1, h2, h3, h20, h28, h29, hin, h33, bA, bB, bC, bD, bE, bF, bG, bH, bI, bJ, Bool.false_eq_true, if_true, if_false]⟩) (by omega) ⟨by simp [go_sem, hwr1, hx, hin, hw], rfl, by simp, by simp, by simp [go_sem, hwr1, hx, hin, hw], fun ob h => .inl (by simpa [go_sem, hwr1, hx, hin, hw] using h), by simp [go_sem]⟩
      ·have hke : k = (kidsR d).length := by simp at h28; omega
       subst hke
       refine awp_exit ?_
       refine then_exit ?_
       refine then_exit ?_
       refine inBlock_hit ?_
       refine awp_seq (aR (by simp [go_sem, hwr1] <;> rfl) ?_)
       refine awp_ret ?_
       refine ends_ret (by simp [go_sem] <;> rfl) (by simp [go_sem]) ?_
       have hs : body1 ps b d = 0 := by rw [hn, List.drop_length]; rfl
       exact ⟨by simp [go_sem, hs], by simp [go_sem]⟩
  ·refine aK 5 21 true ?_
   refine aL 1 (by simp [go_sem, hwr1] <;> rfl) ?_
   refine al_nil ?_
   refine awp_cond (b := false) (by simp [go_sem, hwr1, h0, h1]) (fun h => ?_) (fun h => ?_)
   ·cases h
   refine awp_skip ?_
   refine awp_seq (awp_reg ?_)
   refine aL 1 (by simp [go_sem, hwr1] <;> rfl) ?_
   refine aF call82 ((c_Word d) _ (by exact hgl)) (by simp [go_sem, hwr1] <;> rfl) (by simp [go_sem, hwr1]) ?_
   refine aL 1 (by simp [go_sem, hwr1] <;> rfl) ?_
   refine al_nil ?_
   refine awp_seq (awp_seq (aR (by simp [go_sem, hwr1] <;> rfl) ?_))
   refine awp_cond (by first | rfl | (simp [go_sem, hwr1] <;> rfl)) (fun h34 => ?_) (fun h34 => ?_)
   ·have hwc : word d = sCall := of_decide_eq_true h34
    have h2l := form_two hfm (.inr hwc)
    obtain ⟨hlb, hlf⟩ := form_call hfm hf hwc
    have hx1 := get_d1 h2l
    refine awp_seq (awp_reg ?_)
    refine aL 5 (by simp [go_sem, hwr1, hx1] <;> rfl) ?_
    refine aF call39 ((c_Find l hll (d1 d.kids) (fun x hx => (hls x hx).1)) _ (by exact hgl)) (by simp [go_sem, hwr1, hx1] <;> rfl) (by simp [go_sem, hwr1, hx1]) ?_
    refine aL 1 (by simp [go_sem, hwr1, hx1] <;> rfl) ?_
    refine al_nil ?_
    refine awp_seq (awp_seq (aR (by simp [go_sem, hwr1, hx1] <;> rfl) ?_))
    refine awp_cond (by first | rfl | (simp [go_sem, hwr1, hx1] <;> rfl)) (fun h35 => ?_) (fun h35 => ?_)
    ·have hkn := H.neg hlb hlf (by simpa using h35)
     refine awp_seq (aR (by simp [go_sem, hwr1, hx1] <;> rfl) ?_)
     refine awp_ret ?_
     refine then_ret ?_
     refine then_ret ?_
     refine ends_ret (by simp [go_sem] <;> rfl) (by simp [go_sem]) ?_
     have hs : body1 ps b d = 5 := by unfold body1; simp only [eCall, hwr1, hx1, h0, h1, h34, h35, hkn, bA, bB, bC, bD, bE, bF, bG, bH, bI, bJ, Bool.false_eq_true, if_true, if_false]
     exact ⟨by simp [go_sem, hs], by simp [go_sem]⟩
    ·obtain ⟨hi0, y, hy, hky⟩ := H.pos hlb hlf (by simpa using h35)
     have hwr2 : IntKind.i64.wrap ((d.kids.length : Int) - 2) = (d.kids.length : Int) - 2 := wrap_id (by omega) (by omega)
     refine awp_skip ?_
     refine awp_seq (awp_regDP tyOk tySz 10 (by kernel_rfl) (by decide) ?_)
     refine ul_run 10 (by simp [go_sem, hwr1, hx1, hi0, hy, hwr2] <;> rfl) ?_
     refine ul_nil ?_
     refine aL 1 (by simp [go_sem, hwr1, hx1, hi0, hy, hwr2] <;> rfl) ?_
     refine al_nil ?_
     refine awp_cond (by first | rfl | (simp [go_sem, hwr1, hx1, hi0, hy, hwr2] <;> rfl)) (fun h36 => ?_) (fun h36 => ?_)
     ·refine awp_seq ?_
      refine aR (by simp [go_sem, hwr1, hx1, hi0, hy, hwr2] <;> rfl) ?_
      refine awp_ret ?_
      refine then_ret ?_
      refine ends_ret (by simp [go_sem] <;> rfl) (by simp [go_sem]) ?_
      have hs : body1 ps b d = 11 := by unfold body1; simp only [eCall, hwr1, hx1, hi0, hy, hwr2, h0, h1, h34, h35, hky, h36, bA, bB, bC, bD, bE, bF, bG, bH, bI, bJ, Bool.false_eq_true, if_true, if_false]
      exact ⟨by simp [go_sem, hs], by simp [go_sem]⟩
     ·refine awp_skip ?_
      refine awp_seq (awp_seq (awp_reg ?_))
      refine aL 1 (by simp [go_sem, hwr1, hx1, hi0, hy, hwr2] <;> rfl) ?_
      refine aF call87 ((c_Arity07 (word d)) _ (by exact hgl)) (by simp [go_sem, hwr1, hx1, hi0, hy, hwr2] <;> rfl) (by simp [go_sem, hwr1, hx1, hi0, hy, hwr2]) ?_
      refine aL 5 (by simp [go_sem, hwr1, hx1, hi0, hy, hwr2] <;> rfl) ?_
      refine al_nil ?_
      refine awp_seq (awp_reg ?_)
      refine aL 2 (by simp [go_sem, hwr1, hx1, hi0, hy, hwr2] <;> rfl) ?_
      refine al_splitT 57 (by first | rfl | (simp [go_sem, hwr1, hx1, hi0, hy, hwr2] <;> rfl)) (fun h37 => ?_) (fun h37 => ?_)
      ·refine aLG 6 57 true (by simp [go_sem, hwr1, hx1, hi0, hy, hwr2] <;> rfl) ?_
       refine aL 1 (by simp [go_sem, hwr1, hx1, hi0, hy, hwr2] <;> rfl) ?_
       refine al_nil ?_
       refine awp_cond (by first | rfl | (simp [go_sem, hwr1, hx1, hi0, hy, hwr2] <;> rfl)) (fun h38 => ?_) (fun h38 => ?_)
       ·refine awp_seq ?_
        refine aR (by simp [go_sem, hwr1, hx1, hi0, hy, hwr2] <;> rfl) ?_
        refine awp_ret ?_
        refine then_ret ?_
        refine ends_ret (by simp [go_sem] <;> rfl) (by simp [go_sem]) ?_
        have hs : body1 ps b d = 11 := by unfold body1; simp only [eCall, hwr1, hx1, hi0, hy, hwr2, h0, h1, h34, h35, hky, h36, h37, h38, bA, bB, bC, bD, bE, bF, bG, bH, bI, bJ, Bool.false_eq_true, if_true, if_false]
        exact ⟨by simp [go_sem, hs], by simp [go_sem]⟩
       ·refine awp_skip ?_
        refine awp_seq ?_
        have hgo : body1 ps b d = goB ps b d 0 (kidsR d) := by unfold body1; simp only [eCall, hwr1, hx1, hi0, hy, hwr2, h0, h1, h34, h35, hky, h36, h37, h38, bA, bB, bC, bD, bE, bF, bG, bH, bI, bJ, Bool.false_eq_true, if_true, if_false]
        refine awp_reg ?_
        refine aL 1 (by simp [go_sem, hwr1, hx1, hi0, hy, hwr2] <;> rfl) ?_
        refine aF call88 ((c_Kids d (form_two hfm)) _ (by exact hgl)) (by simp [go_sem, hwr1, hx1, hi0, hy, hwr2] <;> rfl) (by simp [go_sem, hwr1, hx1, hi0, hy, hwr2]) ?_
        refine aL 1 (by simp [go_sem, hwr1, hx1, hi0, hy, hwr2] <;> rfl) ?_
        refine al_nil ?_
        refine awp_seq (awp_seq (aR (by simp [go_sem, hwr1, hx1, hi0, hy, hwr2] <;> rfl) ?_))
        refine awp_block ?_
        refine awp_loop_headK σ.objs.length σ.toks.length 1 [0, 2, 4, 6, 7, 11] (fun k : Nat => [(12, .pv (.int .i64 ↑k))]) (fun k => σ) (fun k => k ≤ (kidsR d).length ∧ body1 ps b d = goB ps b d k ((kidsR d).drop k)) (fun k => (kidsR d).length - k) 0 (⟨Nat.zero_le _, by rw [hgo]; rfl⟩) ⟨by simp [go_sem, hwr1, hx1, hi0, hy, hwr2], rfl, by simp, by simp, by simp [go_sem, hwr1, hx1, hi0, hy, hwr2], fun ob h => .inl (by simpa [go_sem, hwr1, hx1, hi0, hy, hwr2] using h), by simp [go_sem]⟩ ?_
        rintro k ⟨hk, hn⟩
        refine awp_seq (awp_seq (aR (by simp [go_sem, hwr1, hx1, hi0, hy, hwr2] <;> rfl) ?_))
        refine awp_cond (by first | rfl | (simp [go_sem, hwr1, hx1, hi0, hy, hwr2] <;> rfl)) (fun h39 => ?_) (fun h39 => ?_)
        ·have hlt : k < (kidsR d).length := by simp at h39; omega
         have hw : IntKind.i64.wrap (↑k + 1) = (k : Int) + 1 := wrap_succ (by omega)
         obtain ⟨x, hx, hxm⟩ := get_lt hlt
         have hst := goB_step (ps := ps) (b := b) hx
         refine awp_skip ?_
         refine awp_seq (awp_block ?_)
         refine awp_seq (aR (by simp [go_sem, hwr1, hx1, hi0, hy, hwr2, hx] <;> rfl) ?_)
         refine awp_seq (awp_seq (awp_reg ?_))
         refine aL 3 (by simp [go_sem, hwr1, hx1, hi0, hy, hwr2, hx] <;> rfl) ?_
         refine al_splitT 76 (by first | rfl | (simp [go_sem, hwr1, hx1, hi0, hy, hwr2, hx] <;> rfl)) (fun h40 => ?_) (fun h40 => ?_)
         ·have hA := h40
          refine aLG 2 76 true (by simp [go_sem, hwr1, hx1, hi0, hy, hwr2, hx] <;> rfl) ?_
          refine aL 1 (by simp [go_sem, hwr1, hx1, hi0, hy, hwr2, hx] <;> rfl) ?_
          refine al_nil ?_
          refine awp_cond (by first | rfl | (simp [go_sem, hwr1, hx1, hi0, hy, hwr2, hx] <;> rfl)) (fun h41 => ?_) (fun h41 => ?_)
          ·have h2m := form_two hfm (.inl (of_decide_eq_true hA))
           have hy1 := get_d1 h2m
           have hin : inb b d k = b ++ [(d1 d.kids).text] := inb_yes hA h41
           have hbb : (b.length + 1) * 16 ≤ 140737488355328 := by omega
           have hb16 : b.length * 16 ≤ 140737488355328 := by omega
           refine awp_regDP tyOk tySz 9 (by kernel_rfl) (by decide) ?_
           refine ul_run 9 (by simp [go_sem, hwr1, hx1, hi0, hy, hwr2, hx, hy1, hin, hbb, hb16, allSz_str] <;> rfl) ?_
           refine ul_nil ?_
           refine aL 2 (by simp [go_sem, hwr1, hx1, hi0, hy, hwr2, hx, hy1, hin, hbb, hb16, allSz_str] <;> rfl) ?_
           refine al_nil ?_
           refine awp_seq (awp_reg ?_)
           refine aL 6 (by simp [go_sem, hwr1, hx1, hi0, hy, hwr2, hx, hy1, hin, hbb, hb16, allSz_str] <;> rfl) ?_
           refine aF call44 (ih x (kidsR_mem hxm) (inb b d k) _ (by exact hgl) (formed_kids hf (kidsR_mem hxm)) (by have := D.size_kid_lt (kidsR_mem hxm); have := inb_len b d k; omega)) (by simp [go_sem, hwr1, hx1, hi0, hy, hwr2, hx, hy1, hin, hbb, hb16, allSz_str] <;> rfl) (by simp [go_sem, hwr1, hx1, hi0, hy, hwr2, hx, hy1, hin, hbb, hb16, allSz_str]) ?_
           refine aL 1 (by simp [go_sem, hwr1, hx1, hi0, hy, hwr2, hx, hy1, hin, hbb, hb16, allSz_str] <;> rfl) ?_
           refine al_nil ?_
           refine awp_seq (aR (by simp [go_sem, hwr1, hx1, hi0, hy, hwr2, hx, hy1, hin, hbb, hb16, allSz_str] <;> rfl) ?_)
           refine awp_cond (by first | rfl | (simp [go_sem, hwr1, hx1, hi0, hy, hwr2, hx, hy1, hin, hbb, hb16, allSz_str] <;> rfl)) (fun h42 => ?_) (fun h42 => ?_)
           ·refine awp_seq ?_
            refine aR (by simp [go_sem, hwr1, hx1, hi0, hy, hwr2, hx, hy1, hin, hbb, hb16, allSz_str] <;> rfl) ?_
            refine awp_ret ?_
            refine inBlock_ret ?_
            refine then_ret ?_
            refine then_ret ?_
            refine inBlock_ret ?_
            refine then_ret ?_
            refine ends_ret (by simp [go_sem] <;> rfl) (by simp [go_sem]) ?_
            have hs : body1 ps b d = cexpr ps (inb b d k) x := by rw [hn, hst]; simp only [Bool.not_true, hwr1, hx1, hi0, hy, hwr2, hx, hy1, hin, hbb, hb16, allSz_str, h0, h1, h34, h35, hky, h36, h37, h38, h39, h40, h41, hin, h42, bA, bB, bC, bD, bE, bF, bG, bH, bI, bJ, Bool.false_eq_true, if_true, if_false]
            exact ⟨by simp [go_sem, hs, hwr1, hx1, hi0, hy, hwr2, hx, hy1, hin, hbb, hb16, allSz_str, h0, h1, h34, h35, hky, h36, h37, h38, h39, h40, h41, hin, h42], by simp [go_sem]⟩
           ·refine awp_skip ?_
            refine aR (by simp [go_sem, hwr1, hx1, hi0, hy, hwr2, hx, hy1, hin, hbb, hb16, allSz_str] <;> rfl) ?_
            exact next_intro (k + 1) σ.objs.length σ.toks.length 1 (⟨hlt, by rw [hn, hst]; simp only [h0, h1, h34, h35, hky, h36, h37, h38, h39, h40, h41, hin, h42, bA, bB, bC, bD, bE, bF, bG, bH, bI, bJ, Bool.false_eq_true, if_true, if_false]⟩) (by omega) ⟨by simp [go_sem, hwr1, hx1, hi0, hy, hwr2, hx, hy1, hin, hbb, hb16, allSz_str, hw], rfl, by simp, by simp, by simp [go_sem, hwr1, hx1, hi0, hy, hwr2, hx, hy1, hin, hbb, hb16, allSz_str, hw], fun ob h => .inl (by simpa [go_sem, hwr1, hx1, hi0, hy, hwr2, hx, hy1, hin, hbb, hb16, allSz_str, hw] using h), by simp [go_sem]⟩
          ·have hin : inb b d k = b := inb_other h41
           refine awp_skip ?_
           refine awp_seq (awp_reg ?_)
           refine aL 6 (by simp [go_sem, hwr1, hx1, hi0, hy, hwr2, hx, hin] <;> rfl) ?_
           refine aF call44 (ih x (kidsR_mem hxm) (inb b d k) _ (by exact hgl) (formed_kids hf (kidsR_mem hxm)) (by have := D.size_kid_lt (kidsR_mem hxm); have := inb_len b d k; omega)) (by simp [go_sem, hwr1, hx1, hi0, hy, hwr2, hx, hin] <;> rfl) (by simp [go_sem, hwr1, hx1, hi0, hy, hwr2, hx, hin]) ?_
           refine aL 1 (by simp [go_sem, hwr1, hx1, hi0, hy, hwr2, hx, hin] <;> rfl) ?_
           refine al_nil ?_
           refine awp_seq (aR (by simp [go_sem, hwr1, hx1, hi0, hy, hwr2, hx, hin] <;> rfl) ?_)
           refine awp_cond (by first | rfl | (simp [go_sem, hwr1, hx1, hi0, hy, hwr2, hx, hin] <;> rfl)) (fun h43 => ?_) (fun h43 => ?_)
           ·refine awp_seq ?_
            refine aR (by simp [go_sem, hwr1, hx1, hi0, hy, hwr2, hx, hin] <;> rfl) ?_
            refine awp_ret ?_
            refine inBlock_ret ?_
            refine then_ret ?_
            refine then_ret ?_
            refine inBlock_ret ?_
            refine then_ret ?_
            refine ends_ret (by simp [go_sem] <;> rfl) (by simp [go_sem]) ?_
            have hs : body1 ps b d = cexpr ps (inb b d k) x := by rw [hn, hst]; simp only [Bool.not_true, hwr1, hx1, hi0, hy, hwr2, hx, hin, h0, h1, h34, h35, hky, h36, h37, h38, h39, h40, h41, hin, h43, bA, bB, bC, bD, bE, bF, bG, bH, bI, bJ, Bool.false_eq_true, if_true, if_false]
            exact ⟨by simp [go_sem, hs, hwr1, hx1, hi0, hy, hwr2, hx, hin, h0, h1, h34, h35, hky, h36, h37, h38, h39, h40, h41, hin, h43], by simp [go_sem]⟩
           ·refine awp_skip ?_
            refine aR (by simp [go_sem, hwr1, hx1, hi0, hy, hwr2, hx, hin] <;> rfl) ?_
            exact next_intro (k + 1) σ.objs.length σ.toks.length 1 (⟨hlt, by rw [hn, hst]; simp only [h0, h1, h34, h35, hky, h36, h37, h38, h39, h40, h41, hin, h43, bA, bB, bC, bD, bE, bF, bG, bH, bI, bJ, Bool.false_eq_true, if_true, if_false]⟩) (by omega) ⟨by simp [go_sem, hwr1, hx1, hi0, hy, hwr2, hx, hin, hw], rfl, by simp, by simp, by simp [go_sem, hwr1, hx1, hi0, hy, hwr2, hx, hin, hw], fun ob h => .inl (by simpa [go_sem, hwr1, hx1, hi0, hy, hwr2, hx, hin, hw] using h), by simp [go_sem]⟩
         ·have hin : inb b d k = b := inb_no h40
          refine aK 2 76 true ?_
          refine aL 1 (by simp [go_sem, hwr1, hx1, hi0, hy, hwr2, hx, hin] <;> rfl) ?_
          refine al_nil ?_
          refine awp_cond (b := false) (by simp [go_sem, hwr1, hx1, hi0, hy, hwr2, hx, hin, h0, h1, h34, h35, hky, h36, h37, h38, h39, h40, hin]) (fun h => ?_) (fun h => ?_)
          ·cases h
          refine awp_skip ?_
          refine awp_seq (awp_reg ?_)
          refine aL 6 (by simp [go_sem, hwr1, hx1, hi0, hy, hwr2, hx, hin] <;> rfl) ?_
          refine aF call44 (ih x (kidsR_mem hxm) (inb b d k) _ (by exact hgl) (formed_kids hf (kidsR_mem hxm)) (by have := D.size_kid_lt (kidsR_mem hxm); have := inb_len b d k; omega)) (by simp [go_sem, hwr1, hx1, hi0, hy, hwr2, hx, hin] <;> rfl) (by simp [go_sem, hwr1, hx1, hi0, hy, hwr2, hx, hin]) ?_
          refine aL 1 (by simp [go_sem, hwr1, hx1, hi0, hy, hwr2, hx, hin] <;> rfl) ?_
          refine al_nil ?_
          refine awp_seq (aR (by simp [go_sem, hwr1, hx1, hi0, hy, hwr2, hx, hin] <;> rfl) ?_)
          refine awp_cond (by first | rfl | (simp [go_sem, hwr1, hx1, hi0, hy, hwr2, hx, hin] <;> rfl)) (fun h44 => ?_) (fun h44 => ?_)
          ·refine awp_seq ?_
           refine aR (by simp [go_sem, hwr1, hx1, hi0, hy, hwr2, hx, hin] <;> rfl) ?_
           refine awp_ret ?_
           refine inBlock_ret ?_
           refine then_ret ?_
           refine then_ret ?_
           refine inBlock_ret ?_
           refine then_ret ?_
           refine ends_ret (by simp [go_sem] <;> rfl) (by simp [go_sem]) ?_
           have hs : body1 ps b d = cexpr ps (inb b d k) x := by rw [hn, hst]; simp only [Bool.not_true, hwr1, hx1, hi0, hy, hwr2, hx, hin, h0, h1, h34, h35, hky, h36, h37, h38, h39, h40, hin, h44, bA, bB, bC, bD, bE, bF, bG, bH, bI, bJ, Bool.false_eq_true, if_true, if_false]
           exact ⟨by simp [go_sem, hs, hwr1, hx1, hi0, hy, hwr2, hx, hin, h0, h1, h34, h35, hky, h36, h37, h38, h39, h40, hin, h44], by simp [go_sem]⟩
          ·refine awp_skip ?_
           refine aR (by simp [go_sem, hwr1, hx1, hi0, hy, hwr2, hx, hin] <;> rfl) ?_
           exact next_intro (k + 1) σ.objs.length σ.toks.length 1 (⟨hlt, by rw [hn, hst]; simp only [h0, h1, h34, h35, hky, h36, h37, h38, h39, h40, hin, h44, bA, bB, bC, bD, bE, bF, bG, bH, bI, bJ, Bool.false_eq_true, if_true, if_false]⟩) (by omega) ⟨by simp [go_sem, hwr1, hx1, hi0, hy, hwr2, hx, hin, hw], rfl, by simp, by simp, by simp [go_sem, hwr1, hx1, hi0, hy, hwr2, hx, hin, hw], fun ob h => .inl (by simpa [go_sem, hwr1, hx1, hi0, hy, hwr2, hx, hin, hw] using h), by simp [go_sem]⟩
        ·have hke : k = (kidsR d).length := by simp at h39; omega
         subst hke
         refine awp_exit ?_
         refine then_exit ?_
         refine then_exit ?_
         refine inBlock_hit ?_
         refine awp_seq (aR (by simp [go_sem, hwr1, hx1, hi0, hy, hwr2] <;> rfl) ?_)
         refine awp_ret ?_
         refine ends_ret (by simp [go_sem] <;> rfl) (by simp [go_sem]) ?_
         have hs : body1 ps b d = 0 := by rw [hn, List.drop_length]; rfl
         exact ⟨by simp [go_sem, hs], by simp [go_sem]⟩
      ·refine aK 6 57 true ?_
       refine aL 1 (by simp [go_sem, hwr1, hx1, hi0, hy, hwr2] <;> rfl) ?_
       refine al_nil ?_
       refine awp_cond (b := false) (by simp [go_sem, hwr1, hx1, hi0, hy, hwr2, h0, h1, h34, h35, hky, h36, h37]) (fun h => ?_) (fun h => ?_)
       ·cases h
       refine awp_skip ?_
       refine awp_seq ?_
       have hgo : body1 ps b d = goB ps b d 0 (kidsR d) := by unfold body1; simp only [eCall, hwr1, hx1, hi0, hy, hwr2, h0, h1, h34, h35, hky, h36, h37, bA, bB, bC, bD, bE, bF, bG, bH, bI, bJ, Bool.false_eq_true, if_true, if_false]
       refine awp_reg ?_
       refine aL 1 (by simp [go_sem, hwr1, hx1, hi0, hy, hwr2] <;> rfl) ?_
       refine aF call88 ((c_Kids d (form_two hfm)) _ (by exact hgl)) (by simp [go_sem, hwr1, hx1, hi0, hy, hwr2] <;> rfl) (by simp [go_sem, hwr1, hx1, hi0, hy, hwr2]) ?_
       refine aL 1 (by simp [go_sem, hwr1, hx1, hi0, hy, hwr2] <;> rfl) ?_
       refine al_nil ?_
       refine awp_seq (awp_seq (aR (by simp [go_sem, hwr1, hx1, hi0, hy, hwr2] <;> rfl) ?_))
       refine awp_block ?_
       refine awp_loop_headK σ.objs.length σ.toks.length 1 [0, 2, 4, 6, 7, 11] (fun k : Nat => [(12, .pv (.int .i64 ↑k))]) (fun k => σ) (fun k => k ≤ (kidsR d).length ∧ body1 ps b d = goB ps b d k ((kidsR d).drop k)) (fun k => (kidsR d).length - k) 0 (⟨Nat.zero_le _, by rw [hgo]; rfl⟩) ⟨by simp [go_sem, hwr1, hx1, hi0, hy, hwr2], rfl, by simp, by simp, by simp [go_sem, hwr1, hx1, hi0, hy, hwr2], fun ob h => .inl (by simpa [go_sem, hwr1, hx1, hi0, hy, hwr2] using h), by simp [go_sem]⟩ ?_
       rintro k ⟨hk, hn⟩
       refine awp_seq (awp_seq (aR (by simp [go_sem, hwr1, hx1, hi0, hy, hwr2] <;> rfl) ?_))
       refine awp_cond (by first | rfl | (simp [go_sem, hwr1, hx1, hi0, hy, hwr2] <;> rfl)) (fun h45 => ?_) (fun h45 => ?_)
       ·have hlt : k < (kidsR d).length := by simp at h45; omega
        have hw : IntKind.i64.wrap (↑k + 1) = (k : Int) + 1 := wrap_succ (by omega)
        obtain ⟨x, hx, hxm⟩ := get_lt hlt
        have hst := goB_step (ps := ps) (b := b) hx
        refine awp_skip ?_
        refine awp_seq (awp_block ?_)
        refine awp_seq (aR (by simp [go_sem, hwr1, hx1, hi0, hy, hwr2, hx] <;> rfl) ?_)
        refine awp_seq (awp_seq (awp_reg ?_))
        refine aL 3 (by simp [go_sem, hwr1, hx1, hi0, hy, hwr2, hx] <;> rfl) ?_
        refine al_splitT 76 (by first | rfl | (simp [go_sem, hwr1, hx1, hi0, hy, hwr2, hx] <;> rfl)) (fun h46 => ?_) (fun h46 => ?_)
        ·have hA := h46
         refine aLG 2 76 true (by simp [go_sem, hwr1, hx1, hi0, hy, hwr2, hx] <;> rfl) ?_
         refine aL 1 (by simp [go_sem, hwr1, hx1, hi0, hy, hwr2, hx] <;> rfl) ?_
         refine al_nil ?_
         refine awp_cond (by first | rfl | (simp [go_sem, hwr1, hx1, hi0, hy, hwr2, hx] <;> rfl)) (fun h47 => ?_) (fun h47 => ?_)
         ·have h2m := form_two hfm (.inl (of_decide_eq_true hA))
          have hy1 := get_d1 h2m
          have hin : inb b d k = b ++ [(d1 d.kids).text] := inb_yes hA h47
          have hbb : (b.length + 1) * 16 ≤ 140737488355328 := by omega
          have hb16 : b.length * 16 ≤ 140737488355328 := by omega
          refine awp_regDP tyOk tySz 9 (by kernel_rfl) (by decide) ?_
          refine ul_run 9 (by simp [go_sem, hwr1, hx1, hi0, hy, hwr2, hx, hy1, hin, hbb, hb16, allSz_str] <;> rfl) ?_
          refine ul_nil ?_
          refine aL 2 (by simp [go_sem, hwr1, hx1, hi0, hy, hwr2, hx, hy1, hin, hbb, hb16, allSz_str] <;> rfl) ?_
          refine al_nil ?_
          refine awp_seq (awp_reg ?_)
          refine aL 6 (by simp [go_sem, hwr1, hx1, hi0, hy, hwr2, hx, hy1, hin, hbb, hb16, allSz_str] <;> rfl) ?_
          refine aF call44 (ih x (kidsR_mem hxm) (inb b d k) _ (by exact hgl) (formed_kids hf (kidsR_mem hxm)) (by have := D.size_kid_lt (kidsR_mem hxm); have := inb_len b d k; omega)) (by simp [go_sem, hwr1, hx1, hi0, hy, hwr2, hx, hy1, hin, hbb, hb16, allSz_str] <;> rfl) (by simp [go_sem, hwr1, hx1, hi0, hy, hwr2, hx, hy1, hin, hbb, hb16, allSz_str]) ?_
          refine aL 1 (by simp [go_sem, hwr1, hx1, hi0, hy, hwr2, hx, hy1, hin, hbb, hb16, allSz_str] <;> rfl) ?_
          refine al_nil ?_
          refine awp_seq (aR (by simp [go_sem, hwr1, hx1, hi0, hy, hwr2, hx, hy1, hin, hbb, hb16, allSz_str] <;> rfl) ?_)
          refine awp_cond (by first | rfl | (simp [go_sem, hwr1, hx1, hi0, hy, hwr2, hx, hy1, hin, hbb, hb16, allSz_str] <;> rfl)) (fun h48 => ?_) (fun h48 => ?_)
          ·refine awp_seq ?_
           refine aR (by simp [go_sem, hwr1, hx1, hi0, hy, hwr2, hx, hy1, hin, hbb, hb16, allSz_str] <;> rfl) ?_
           refine awp_ret ?_
           refine inBlock_ret ?_
           refine then_ret ?_
           refine then_ret ?_
           refine inBlock_ret ?_
           refine then_ret ?_
           refine ends_ret (by simp [go_sem] <;> rfl) (by simp [go_sem]) ?_
           have hs : body1 ps b d = cexpr ps (inb b d k) x := by rw [hn, hst]; simp only [Bool.not_true, hwr1, hx1, hi0, hy, hwr2, hx, hy1, hin, hbb, hb16, allSz_str, h0, h1, h34, h35, hky, h36, h37, h45, h46, h47, hin, h48, bA, bB, bC, bD, bE, bF, bG, bH, bI, bJ, Bool.false_eq_true, if_true, if_false]
           exact ⟨by simp [go_sem, hs, hwr1, hx1, hi0, hy, hwr2, hx, hy1, hin, hbb, hb16, allSz_str, h0, h1, h34, h35, hky, h36, h37, h45, h46, h47, hin, h48], by simp [go_sem]⟩
          ·refine awp_skip ?_
           refine aR (by simp [go_sem, hwr1, hx1, hi0, hy, hwr2, hx, hy1, hin, hbb, hb16, allSz_str] <;> rfl) ?_
           exact next_intro (k + 1) σ.objs.length σ.toks.length 1 (⟨hlt, by rw [hn, hst]; simp only [h0, h1, h34, h35, hky, h36, h37, h45, h46, h47, hin, h48, bA, bB, bC, bD, bE, bF, bG, bH, bI, bJ, Bool.false_eq_true, if_true, if_false]⟩) (by omega) ⟨by simp [go_sem, hwr1, hx1, hi0, hy, hwr2, hx, hy1, hin, hbb, hb16, allSz_str, hw], rfl, by simp, by simp, by simp [go_sem, hwr1, hx1, hi0, hy, hwr2, hx, hy1, hin, hbb, hb16, allSz_str, hw], fun ob h => .inl (by simpa [go_sem, hwr1, hx1, hi0, hy, hwr2, hx, hy1, hin, hbb, hb16, allSz_str, hw] using h), by simp [go_sem]⟩
         ·have hin : inb b d k = b := inb_other h47
          refine awp_skip ?_
          refine awp_seq (awp_reg ?_)
          refine aL 6 (by simp [go_sem, hwr1, hx1, hi0, hy, hwr2, hx, hin] <;> rfl) ?_
          refine aF call44 (ih x (kidsR_mem hxm) (inb b d k) _ (by exact hgl) (formed_kids hf (kidsR_mem hxm)) (by have := D.size_kid_lt (kidsR_mem hxm); have := inb_len b d k; omega)) (by simp [go_sem, hwr1, hx1, hi0, hy, hwr2, hx, hin] <;> rfl) (by simp [go_sem, hwr1, hx1, hi0, hy, hwr2, hx, hin]) ?_
          refine aL 1 (by simp [go_sem, hwr1, hx1, hi0, hy, hwr2, hx, hin] <;> rfl) ?_
          refine al_nil ?_
          refine awp_seq (aR (by simp [go_sem, hwr1, hx1, hi0, hy, hwr2, hx, hin] <;> rfl) ?_)
          refine awp_cond (by first | rfl | (simp [go_sem, hwr1, hx1, hi0, hy, hwr2, hx, hin] <;> rfl)) (fun h49 => ?_) (fun h49 => ?_)
          ·refine awp_seq ?_
           refine aR (by simp [go_sem, hwr1, hx1, hi0, hy, hwr2, hx, hin] <;> rfl) ?_
           refine awp_ret ?_
           refine inBlock_ret ?_
           refine then_ret ?_
           refine then_ret ?_
           refine inBlock_ret ?_
           refine then_ret ?_
           refine ends_ret (by simp [go_sem] <;> rfl) (by simp [go_sem]) ?_
           have hs : body1 ps b d = cexpr ps (inb b d k) x := by rw [hn, hst]; simp only [Bool.not_true, hwr1, hx1, hi0, hy, hwr2, hx, hin, h0, h1, h34, h35, hky, h36, h37, h45, h46, h47, hin, h49, bA, bB, bC, bD, bE, bF, bG, bH, bI, bJ, Bool.false_eq_true, if_true, if_false]
           exact ⟨by simp [go_sem, hs, hwr1, hx1, hi0, hy, hwr2, hx, hin, h0, h1, h34, h35, hky, h36, h37, h45, h46, h47, hin, h49], by simp [go_sem]⟩
          ·refine awp_skip ?_
           refine aR (by simp [go_sem, hwr1, hx1, hi0, hy, hwr2, hx, hin] <;> rfl) ?_
           exact next_intro (k + 1) σ.objs.length σ.toks.length 1 (⟨hlt, by rw [hn, hst]; simp only [h0, h1, h34, h35, hky, h36, h37, h45, h46, h47, hin, h49, bA, bB, bC, bD, bE, bF, bG, bH, bI, bJ, Bool.false_eq_true, if_true, if_false]⟩) (by omega) ⟨by simp [go_sem, hwr1, hx1, hi0, hy, hwr2, hx, hin, hw], rfl, by simp, by simp, by simp [go_sem, hwr1, hx1, hi0, hy, hwr2, hx, hin, hw], fun ob h => .inl (by simpa [go_sem, hwr1, hx1, hi0, hy, hwr2, hx, hin, hw] using h), by simp [go_sem]⟩
        ·have hin : inb b d k = b := inb_no h46
         refine aK 2 76 true ?_
         refine aL 1 (by simp [go_sem, hwr1, hx1, hi0, hy, hwr2, hx, hin] <;> rfl) ?_
         refine al_nil ?_
         refine awp_cond (b := false) (by simp [go_sem, hwr1, hx1, hi0, hy, hwr2, hx, hin, h0, h1, h34, h35, hky, h36, h37, h45, h46, hin]) (fun h => ?_) (fun h => ?_)
         ·cases h
         refine awp_skip ?_
         refine awp_seq (awp_reg ?_)
         refine aL 6 (by simp [go_sem, hwr1, hx1, hi0, hy, hwr2, hx, hin] <;> rfl) ?_
         refine aF call44 (ih x (kidsR_mem hxm) (inb b d k) _ (by exact hgl) (formed_kids hf (kidsR_mem hxm)) (by have := D.size_kid_lt (kidsR_mem hxm); have := inb_len b d k; omega)) (by simp [go_sem, hwr1, hx1, hi0, hy, hwr2, hx, hin] <;> rfl) (by simp [go_sem, hwr1, hx1, hi0, hy, hwr2, hx, hin]) ?_
         refine aL 1 (by simp [go_sem, hwr1, hx1, hi0, hy, hwr2, hx, hin] <;> rfl) ?_
         refine al_nil ?_
         refine awp_seq (aR (by simp [go_sem, hwr1, hx1, hi0, hy, hwr2, hx, hin] <;> rfl) ?_)
         refine awp_cond (by first | rfl | (simp [go_sem, hwr1, hx1, hi0, hy, hwr2, hx, hin] <;> rfl)) (fun h50 => ?_) (fun h50 => ?_)
         ·refine awp_seq ?_
          refine aR (by simp [go_sem, hwr1, hx1, hi0, hy, hwr2, hx, hin] <;> rfl) ?_
          refine awp_ret ?_
          refine inBlock_ret ?_
          refine then_ret ?_
          refine then_ret ?_
          refine inBlock_ret ?_
          refine then_ret ?_
          refine ends_ret (by simp [go_sem] <;> rfl) (by simp [go_sem]) ?_
          have hs : body1 ps b d = cexpr ps (inb b d k) x := by rw [hn, hst]; simp only [Bool.not_true, hwr1, hx1, hi0, hy, hwr2, hx, hin, h0, h1, h34, h35, hky, h36, h37, h45, h46, hin, h50, bA, bB, bC, bD, bE, bF, bG, bH, bI, bJ, Bool.false_eq_true, if_true, if_false]
          exact ⟨by simp [go_sem, hs, hwr1, hx1, hi0, hy, hwr2, hx, hin, h0, h1, h34, h35, hky, h36, h37, h45, h46, hin, h50], by simp [go_sem]⟩
         ·refine awp_skip ?_
          refine aR (by simp [go_sem, hwr1, hx1, hi0, hy, hwr2, hx, hin] <;> rfl) ?_
          exact next_intro (k + 1) σ.objs.length σ.toks.length 1 (⟨hlt, by rw [hn, hst]; simp only [h0, h1, h34, h35, hky, h36, h37, h45, h46, hin, h50, bA, bB, bC, bD, bE, bF, bG, bH, bI, bJ, Bool.false_eq_true, if_true, if_false]⟩) (by omega) ⟨by simp [go_sem, hwr1, hx1, hi0, hy, hwr2, hx, hin, hw], rfl, by simp, by simp, by simp [go_sem, hwr1, hx1, hi0, hy, hwr2, hx, hin, hw], fun ob h => .inl (by simpa [go_sem, hwr1, hx1, hi0, hy, hwr2, hx, hin, hw] using h), by simp [go_sem]⟩
       ·have hke : k = (kidsR d).length := by simp at h45; omega
        subst hke
        refine awp_exit ?_
        refine then_exit ?_
        refine then_exit ?_
        refine inBlock_hit ?_
        refine awp_seq (aR (by simp [go_sem, hwr1, hx1, hi0, hy, hwr2] <;> rfl) ?_)
        refine awp_ret ?_
        refine ends_ret (by simp [go_sem] <;> rfl) (by simp [go_sem]) ?_
        have hs : body1 ps b d = 0 := by rw [hn, List.drop_length]; rfl
        exact ⟨by simp [go_sem, hs], by simp [go_sem]⟩
   ·refine awp_skip ?_
    refine awp_seq (awp_seq (awp_reg ?_))
    refine aL 1 (by simp [go_sem, hwr1] <;> rfl) ?_
    refine aF call87 ((c_Arity07 (word d)) _ (by exact hgl)) (by simp [go_sem, hwr1] <;> rfl) (by simp [go_sem, hwr1]) ?_
    refine aL 5 (by simp [go_sem, hwr1] <;> rfl) ?_
    refine al_nil ?_
    refine awp_seq (awp_reg ?_)
    refine aL 2 (by simp [go_sem, hwr1] <;> rfl) ?_
    refine al_splitT 57 (by first | rfl | (simp [go_sem, hwr1] <;> rfl)) (fun h51 => ?_) (fun h51 => ?_)
    ·refine aLG 6 57 true (by simp [go_sem, hwr1] <;> rfl) ?_
     refine aL 1 (by simp [go_sem, hwr1] <;> rfl) ?_
     refine al_nil ?_
     refine awp_cond (by first | rfl | (simp [go_sem, hwr1] <;> rfl)) (fun h52 => ?_) (fun h52 => ?_)
     ·refine awp_seq ?_
      refine aR (by simp [go_sem, hwr1] <;> rfl) ?_
      refine awp_ret ?_
      refine then_ret ?_
      refine ends_ret (by simp [go_sem] <;> rfl) (by simp [go_sem]) ?_
      have hs : body1 ps b d = 11 := by unfold body1; simp only [eCall, hwr1, h0, h1, h34, h51, h52, bA, bB, bC, bD, bE, bF, bG, bH, bI, bJ, Bool.false_eq_true, if_true, if_false]
      exact ⟨by simp [go_sem, hs], by simp [go_sem]⟩
     ·refine awp_skip ?_
      refine awp_seq ?_
      have hgo : body1 ps b d = goB ps b d 0 (kidsR d) := by unfold body1; simp only [eCall, hwr1, h0, h1, h34, h51, h52, bA, bB, bC, bD, bE, bF, bG, bH, bI, bJ, Bool.false_eq_true, if_true, if_false]
      refine awp_reg ?_
      refine aL 1 (by simp [go_sem, hwr1] <;> rfl) ?_
      refine aF call88 ((c_Kids d (form_two hfm)) _ (by exact hgl)) (by simp [go_sem, hwr1] <;> rfl) (by simp [go_sem, hwr1]) ?_
      refine aL 1 (by simp [go_sem, hwr1] <;> rfl) ?_
      refine al_nil ?_
      refine awp_seq (awp_seq (aR (by simp [go_sem, hwr1] <;> rfl) ?_))
      refine awp_block ?_
      refine awp_loop_headK σ.objs.length σ.toks.length 1 [0, 2, 4, 6, 7, 11] (fun k : Nat => [(12, .pv (.int .i64 ↑k))]) (fun k => σ) (fun k => k ≤ (kidsR d).length ∧ body1 ps b d = goB ps b d k ((kidsR d).drop k)) (fun k => (kidsR d).length - k) 0 (⟨Nat.zero_le _, by rw [hgo]; rfl⟩) ⟨by simp [go_sem, hwr1], rfl, by simp, by simp, by simp [go_sem, hwr1], fun ob h => .inl (by simpa [go_sem, hwr1] using h), by simp [go_sem]⟩ ?_
      rintro k ⟨hk, hn⟩
      refine awp_seq (awp_seq (aR (by simp [go_sem, hwr1] <;> rfl) ?_))
      refine awp_cond (by first | rfl | (simp [go_sem, hwr1] <;> rfl)) (fun h53 => ?_) (fun h53 => ?_)
      ·have hlt : k < (kidsR d).length := by simp at h53; omega
       have hw : IntKind.i64.wrap (↑k + 1) = (k : Int) + 1 := wrap_succ (by omega)
       obtain ⟨x, hx, hxm⟩ := get_lt hlt
       have hst := goB_step (ps := ps) (b := b) hx
       refine awp_skip ?_
       refine awp_seq (awp_block ?_)
       refine awp_seq (aR (by simp [go_sem, hwr1, hx] <;> rfl) ?_)
       refine awp_seq (awp_seq (awp_reg ?_))
       refine aL 3 (by simp [go_sem, hwr1, hx] <;> rfl) ?_
       refine al_splitT 76 (by first | rfl | (simp [go_sem, hwr1, hx] <;> rfl)) (fun h54 => ?_) (fun h54 => ?_)
       ·have hA := h54
        refine aLG 2 76 true (by simp [go_sem, hwr1, hx] <;> rfl) ?_
        refine aL 1 (by simp [go_sem, hwr1, hx] <;> rfl) ?_
        refine al_nil ?_
        refine awp_cond (by first | rfl | (simp [go_sem, hwr1, hx] <;> rfl)) (fun h55 => ?_) (fun h55 => ?_)
        ·have h2m := form_two hfm (.inl (of_decide_eq_true hA))
         have hy1 := get_d1 h2m
         have hin : inb b d k = b ++ [(d1 d.kids).text] := inb_yes hA h55
         have hbb : (b.length + 1) * 16 ≤ 140737488355328 := by omega
         have hb16 : b.length * 16 ≤ 140737488355328 := by omega
         refine awp_regDP tyOk tySz 9 (by kernel_rfl) (by decide) ?_
         refine ul_run 9 (by simp [go_sem, hwr1, hx, hy1, hin, hbb, hb16, allSz_str] <;> rfl) ?_
         refine ul_nil ?_
         refine aL 2 (by simp [go_sem, hwr1, hx, hy1, hin, hbb, hb16, allSz_str] <;> rfl) ?_
         refine al_nil ?_
         refine awp_seq (awp_reg ?_)
         refine aL 6 (by simp [go_sem, hwr1, hx, hy1, hin, hbb, hb16, allSz_str] <;> rfl) ?_
         refine aF call44 (ih x (kidsR_mem hxm) (inb b d k) _ (by exact hgl) (formed_kids hf (kidsR_mem hxm)) (by have := D.size_kid_lt (kidsR_mem hxm); have := inb_len b d k; omega)) (by simp [go_sem, hwr1, hx, hy1, hin, hbb, hb16, allSz_str] <;> rfl) (by simp [go_sem, hwr1, hx, hy1, hin, hbb, hb16, allSz_str]) ?_
         refine aL 1 (by simp [go_sem, hwr1, hx, hy1, hin, hbb, hb16, allSz_str] <;> rfl) ?_
         refine al_nil ?_
         refine awp_seq (aR (by simp [go_sem, hwr1, hx, hy1, hin, hbb, hb16, allSz_str] <;> rfl) ?_)
         refine awp_cond (by first | rfl | (simp [go_sem, hwr1, hx, hy1, hin, hbb, hb16, allSz_str] <;> rfl)) (fun h56 => ?_) (fun h56 => ?_)
         ·refine awp_seq ?_
          refine aR (by simp [go_sem, hwr1, hx, hy1, hin, hbb, hb16, allSz_str] <;> rfl) ?_
          refine awp_ret ?_
          refine inBlock_ret ?_
          refine then_ret ?_
          refine then_ret ?_
          refine inBlock_ret ?_
          refine then_ret ?_
          refine ends_ret (by simp [go_sem] <;> rfl) (by simp [go_sem]) ?_
          have hs : body1 ps b d = cexpr ps (inb b d k) x := by rw [hn, hst]; simp only [Bool.not_true, hwr1, hx, hy1, hin, hbb, hb16, allSz_str, h0, h1, h34, h51, h52, h53, h54, h55, hin, h56, bA, bB, bC, bD, bE, bF, bG, bH, bI, bJ, Bool.false_eq_true, if_true, if_false]
          exact ⟨by simp [go_sem, hs, hwr1, hx, hy1, hin, hbb, hb16, allSz_str, h0, h1, h34, h51, h52, h53, h54, h55, hin, h56], by simp [go_sem]⟩
         ·refine awp_skip ?_
          refine aR (by simp [go_sem, hwr1, hx, hy1, hin, hbb, hb16, allSz_str] <;> rfl) ?_
          exact next_intro (k + 1) σ.objs.length σ.toks.length 1 (⟨hlt, by rw [hn, hst]; simp only [h0, h1, h34, h51, h52, h53, h54, h55, hin, h56, bA, bB, bC, bD, bE, bF, bG, bH, bI, bJ, Bool.false_eq_true, if_true, if_false]⟩) (by omega) ⟨by simp [go_sem, hwr1, hx, hy1, hin, hbb, hb16, allSz_str, hw], rfl, by simp, by simp, by simp [go_sem, hwr1, hx, hy1, hin, hbb, hb16, allSz_str, hw], fun ob h => .inl (by simpa [go_sem, hwr1, hx, hy1, hin, hbb, hb16, allSz_str, hw] using h), by simp [go_sem]⟩
        ·have hin : inb b d k = b := inb_other h55
         refine awp_skip ?_
         refine awp_seq (awp_reg ?_)
         refine aL 6 (by simp [go_sem, hwr1, hx, hin] <;> rfl) ?_
         refine aF call44 (ih x (kidsR_mem hxm) (inb b d k) _ (by exact hgl) (formed_kids hf (kidsR_mem hxm)) (by have := D.size_kid_lt (kidsR_mem hxm); have := inb_len b d k; omega)) (by simp [go_sem, hwr1, hx, hin] <;> rfl) (by simp [go_sem, hwr1, hx, hin]) ?_
         refine aL 1 (by simp [go_sem, hwr1, hx, hin] <;> rfl) ?_
         refine al_nil ?_
         refine awp_seq (aR (by simp [go_sem, hwr1, hx, hin] <;> rfl) ?_)
         refine awp_cond (by first | rfl | (simp [go_sem, hwr1, hx, hin] <;> rfl)) (fun h57 => ?_) (fun h57 => ?_)
         ·refine awp_seq ?_
          refine aR (by simp [go_sem, hwr1, hx, hin] <;> rfl) ?_
          refine awp_ret ?_
          refine inBlock_ret ?_
          refine then_ret ?_
          refine then_ret ?_
          refine inBlock_ret ?_
          refine then_ret ?_
          refine ends_ret (by simp [go_sem] <;> rfl) (by simp [go_sem]) ?_
          have hs : body1 ps b d = cexpr ps (inb b d k) x := by rw [hn, hst]; simp only [Bool.not_true, hwr1, hx, hin, h0, h1, h34, h51, h52, h53, h54, h55, hin, h57, bA, bB, bC, bD, bE, bF, bG, bH, bI, bJ, Bool.false_eq_true, if_true, if_false]
          exact ⟨by simp [go_sem, hs, hwr1, hx, hin, h0, h1, h34, h51, h52, h53, h54, h55, hin, h57], by simp [go_sem]⟩
         ·refine awp_skip ?_
          refine aR (by simp [go_sem, hwr1, hx, hin] <;> rfl) ?_
          exact next_intro (k + 1) σ.objs.length σ.toks.length 1 (⟨hlt, by rw [hn, hst]; simp only [h0, h1, h34, h51, h52, h53, h54, h55, hin, h57, bA, bB, bC, bD, bE, bF, bG, bH, bI, bJ, Bool.false_eq_true, if_true, if_false]⟩) (by omega) ⟨by simp [go_sem, hwr1, hx, hin, hw], rfl, by simp, by simp, by simp [go_sem, hwr1, hx, hin, hw], fun ob h => .inl (by simpa [go_sem, hwr1, hx, hin, hw] using h), by simp [go_sem]⟩
       ·have hin : inb b d k = b := inb_no h54
        refine aK 2 76 true ?_
        refine aL 1 (by simp [go_sem, hwr1, hx, hin] <;> rfl) ?_
        refine al_nil ?_
        refine awp_cond (b := false) (by simp [go_sem, hwr1, hx, hin, h0, h1, h34, h51, h52, h53, h54, hin]) (fun h => ?_) (fun h => ?_)
        ·cases h
        refine awp_skip ?_
        refine awp_seq (awp_reg ?_)
        refine aL 6 (by simp [go_sem, hwr1, hx, hin] <;> rfl) ?_
        refine aF call44 (ih x (kidsR_mem hxm) (inb b d k) _ (by exact hgl) (formed_kids hf (kidsR_mem hxm)) (by have := D.size_kid_lt (kidsR_mem hxm); have := inb_len b d k; omega)) (by simp [go_sem, hwr1, hx, hin] <;> rfl) (by simp [go_sem, hwr1, hx, hin]) ?_
        refine aL 1 (by simp [go_sem, hwr1, hx, hin] <;> rfl) ?_
        refine al_nil ?_
        refine awp_seq (aR (by simp [go_sem, hwr1, hx, hin] <;> rfl) ?_)
        refine awp_cond (by first | rfl | (simp [go_sem, hwr1, hx, hin] <;> rfl)) (fun h58 => ?_) (fun h58 => ?_)
        ·refine awp_seq ?_
         refine aR (by simp [go_sem, hwr1, hx, hin] <;> rfl) ?_
         refine awp_ret ?_
         refine inBlock_ret ?_
         refine then_ret ?_
         refine then_ret ?_
         refine inBlock_ret ?_
         refine then_ret ?_
         refine ends_ret (by simp [go_sem] <;> rfl) (by simp [go_sem]) ?_
         have hs : body1 ps b d = cexpr ps (inb b d k) x := by rw [hn, hst]; simp only [Bool.not_true, hwr1, hx, hin, h0, h1, h34, h51, h52, h53, h54, hin, h58, bA, bB, bC, bD, bE, bF, bG, bH, bI, bJ, Bool.false_eq_true, if_true, if_false]
         exact ⟨by simp [go_sem, hs, hwr1, hx, hin, h0, h1, h34, h51, h52, h53, h54, hin, h58], by simp [go_sem]⟩
        ·refine awp_skip ?_
         refine aR (by simp [go_sem, hwr1, hx, hin] <;> rfl) ?_
         exact next_intro (k + 1) σ.objs.length σ.toks.length 1 (⟨hlt, by rw [hn, hst]; simp only [h0, h1, h34, h51, h52, h53, h54, hin, h58, bA, bB, bC, bD, bE, bF, bG, bH, bI, bJ, Bool.false_eq_true, if_true, if_false]⟩) (by omega) ⟨by simp [go_sem, hwr1, hx, hin, hw], rfl, by simp, by simp, by simp [go_sem, hwr1, hx, hin, hw], fun ob h => .inl (by simpa [go_sem, hwr1, hx, hin, hw] using h), by simp [go_sem]⟩
      ·have hke : k = (kidsR d).length := by simp at h53; omega
       subst hke
       refine awp_exit ?_
       refine then_exit ?_
       refine then_exit ?_
       refine inBlock_hit ?_
       refine awp_seq (aR (by simp [go_sem, hwr1] <;> rfl) ?_)
       refine awp_ret ?_
       refine ends_ret (by simp [go_sem] <;> rfl) (by simp [go_sem]) ?_
       have hs : body1 ps b d = 0 := by rw [hn, List.drop_length]; rfl
       exact ⟨by simp [go_sem, hs], by simp [go_sem]⟩
    ·refine aK 6 57 true ?_
     refine aL 1 (by simp [go_sem, hwr1] <;> rfl) ?_
     refine al_nil ?_
     refine awp_cond (b := false) (by simp [go_sem, hwr1, h0, h1, h34, h51]) (fun h => ?_) (fun h => ?_)
     ·cases h
     refine awp_skip ?_
     refine awp_seq ?_
     have hgo : body1 ps b d = goB ps b d 0 (kidsR d) := by unfold body1; simp only [eCall, hwr1, h0, h1, h34, h51, bA, bB, bC, bD, bE, bF, bG, bH, bI, bJ, Bool.false_eq_true, if_true, if_false]
     refine awp_reg ?_
     refine aL 1 (by simp [go_sem, hwr1] <;> rfl) ?_
     refine aF call88 ((c_Kids d (form_two hfm)) _ (by exact hgl)) (by simp [go_sem, hwr1] <;> rfl) (by simp [go_sem, hwr1]) ?_
     refine aL 1 (by simp [go_sem, hwr1] <;> rfl) ?_
     refine al_nil ?_
     refine awp_seq (awp_seq (aR (by simp [go_sem, hwr1] <;> rfl) ?_))
     refine awp_block ?_
     refine awp_loop_headK σ.objs.length σ.toks.length 1 [0, 2, 4, 6, 7, 11] (fun k : Nat => [(12, .pv (.int .i64 ↑k))]) (fun k => σ) (fun k => k ≤ (kidsR d).length ∧ body1 ps b d = goB ps b d k ((kidsR d).drop k)) (fun k => (kidsR d).length - k) 0 (⟨Nat.zero_le _, by rw [hgo]; rfl⟩) ⟨by simp [go_sem, hwr1], rfl, by simp, by simp, by simp [go_sem, hwr1], fun ob h => .inl (by simpa [go_sem, hwr1] using h), by simp [go_sem]⟩ ?_
     rintro k ⟨hk, hn⟩
     refine awp_seq (awp_seq (aR (by simp [go_sem, hwr1] <;> rfl) ?_))
     refine awp_cond (by first | rfl | (simp [go_sem, hwr1] <;> rfl)) (fun h59 => ?_) (fun h59 => ?_)
     ·have hlt : k < (kidsR d).length := by simp at h59; omega
      have hw : IntKind.i64.wrap (↑k + 1) = (k : Int) + 1 := wrap_succ (by omega)
      obtain ⟨x, hx, hxm⟩ := get_lt hlt
      have hst := goB_step (ps := ps) (b := b) hx
      refine awp_skip ?_
      refine awp_seq (awp_block ?_)
      refine awp_seq (aR (by simp [go_sem, hwr1, hx] <;> rfl) ?_)
      refine awp_seq (awp_seq (awp_reg ?_))
      refine aL 3 (by simp [go_sem, hwr1, hx] <;> rfl) ?_
      refine al_splitT 76 (by first | rfl | (simp [go_sem, hwr1, hx] <;> rfl)) (fun h60 => ?_) (fun h60 => ?_)
      ·have hA := h60
       refine aLG 2 76 true (by simp [go_sem, hwr1, hx] <;> rfl) ?_
       refine aL 1 (by simp [go_sem, hwr1, hx] <;> rfl) ?_
       refine al_nil ?_
       refine awp_cond (by first | rfl | (simp [go_sem, hwr1, hx] <;> rfl)) (fun h61 => ?_) (fun h61 => ?_)
       ·have h2m := form_two hfm (.inl (of_decide_eq_true hA))
        have hy1 := get_d1 h2m
        have hin : inb b d k = b ++ [(d1 d.kids).text] := inb_yes hA h61
        have hbb : (b.length + 1) * 16 ≤ 140737488355328 := by omega
        have hb16 : b.length * 16 ≤ 140737488355328 := by omega
        refine awp_regDP tyOk tySz 9 (by kernel_rfl) (by decide) ?_
        refine ul_run 9 (by simp [go_sem, hwr1, hx, hy1, hin, hbb, hb16, allSz_str] <;> rfl) ?_
        refine ul_nil ?_
        refine aL 2 (by simp [go_sem, hwr1, hx, hy1, hin, hbb, hb16, allSz_str] <;> rfl) ?_
        refine al_nil ?_
        refine awp_seq (awp_reg ?_)
        refine aL 6 (by simp [go_sem, hwr1, hx, hy1, hin, hbb, hb16, allSz_str] <;> rfl) ?_
        refine aF call44 (ih x (kidsR_mem hxm) (inb b d k) _ (by exact hgl) (formed_kids hf (kidsR_mem hxm)) (by have := D.size_kid_lt (kidsR_mem hxm); have := inb_len b d k; omega)) (by simp [go_sem, hwr1, hx, hy1, hin, hbb, hb16, allSz_str] <;> rfl) (by simp [go_sem, hwr1, hx, hy1, hin, hbb, hb16, allSz_str]) ?_
        refine aL 1 (by simp [go_sem, hwr1, hx, hy1, hin, hbb, hb16, allSz_str] <;> rfl) ?_
        refine al_nil ?_
        refine awp_seq (aR (by simp [go_sem, hwr1, hx, hy1, hin, hbb, hb16, allSz_str] <;> rfl) ?_)
        refine awp_cond (by first | rfl | (simp [go_sem, hwr1, hx, hy1, hin, hbb, hb16, allSz_str] <;> rfl)) (fun h62 => ?_) (fun h62 => ?_)
        ·refine awp_seq ?_
         refine aR (by simp [go_sem, hwr1, hx, hy1, hin, hbb, hb16, allSz_str] <;> rfl) ?_
         refine awp_ret ?_
         refine inBlock_ret ?_
         refine then_ret ?_
         refine then_ret ?_
         refine inBlock_ret ?_
         refine then_ret ?_
         refine ends_ret (by simp [go_sem] <;> rfl) (by simp [go_sem]) ?_
         have hs : body1 ps b d = cexpr ps (inb b d k) x := by rw [hn, hst]; simp only [Bool.not_true, hwr1, hx, hy1, hin, hbb, hb16, allSz_str, h0, h1, h34, h51, h59, h60, h61, hin, h62, bA, bB, bC, bD, bE, bF, bG, bH, bI, bJ, Bool.false_eq_true, if_true, if_false]
         exact ⟨by simp [go_sem, hs, hwr1, hx, hy1, hin, hbb, hb16, allSz_str, h0, h1, h34, h51, h59, h60, h61, hin, h62], by simp [go_sem]⟩
        ·refine awp_skip ?_
         refine aR (by simp [go_sem, hwr1, hx, hy1, hin, hbb, hb16, allSz_str] <;> rfl) ?_
         exact next_intro (k + 1) σ.objs.length σ.toks.length 1 (⟨hlt, by rw [hn, hst]; simp only [h0, h1, h34, h51, h59, h60, h61, hin, h62, bA, bB, bC, bD, bE, bF, bG, bH, bI, bJ, Bool.false_eq_true, if_true, if_false]⟩) (by omega) ⟨by simp [go_sem, hwr1, hx, hy1, hin, hbb, hb16, allSz_str, hw], rfl, by simp, by simp, by simp [go_sem, hwr1, hx, hy1, hin, hbb, hb16, allSz_str, hw], fun ob h => .inl (by simpa [go_sem, hwr1, hx, hy1, hin, hbb, hb16, allSz_str, hw] using h), by simp [go_sem]⟩
       ·have hin : inb b d k = b := inb_other h61
        refine awp_skip ?_
        refine awp_seq (awp_reg ?_)
        refine aL 6 (by simp [go_sem, hwr1, hx, hin] <;> rfl) ?_
        refine aF call44 (ih x (kidsR_mem hxm) (inb b d k) _ (by exact hgl) (formed_kids hf (kidsR_mem hxm)) (by have := D.size_kid_lt (kidsR_mem hxm); have := inb_len b d k; omega)) (by simp [go_sem, hwr1, hx, hin] <;> rfl) (by simp [go_sem, hwr1, hx, hin]) ?_
        refine aL 1 (by simp [go_sem, hwr1, hx, hin] <;> rfl) ?_
        refine al_nil ?_
        refine awp_seq (aR (by simp [go_sem, hwr1, hx, hin] <;> rfl) ?_)
        refine awp_cond (by first | rfl | (simp [go_sem, hwr1, hx, hin] <;> rfl)) (fun h63 => ?_) (fun h63 => ?_)
        ·refine awp_seq ?_
         refine aR (by simp [go_sem, hwr1, hx, hin] <;> rfl) ?_
         refine awp_ret ?_
         refine inBlock_ret ?_
         refine then_ret ?_
         refine then_ret ?_
         refine inBlock_ret ?_
         refine then_ret ?_
         refine ends_ret (by simp [go_sem] <;> rfl) (by simp [go_sem]) ?_
         have hs : body1 ps b d = cexpr ps (inb b d k) x := by rw [hn, hst]; simp only [Bool.not_true, hwr1, hx, hin, h0, h1, h34, h51, h59, h60, h61, hin, h63, bA, bB, bC, bD, bE, bF, bG, bH, bI, bJ, Bool.false_eq_true, if_true, if_false]
         exact ⟨by simp [go_sem, hs, hwr1, hx, hin, h0, h1, h34, h51, h59, h60, h61, hin, h63], by simp [go_sem]⟩
        ·refine awp_skip ?_
         refine aR (by simp [go_sem, hwr1, hx, hin] <;> rfl) ?_
         exact next_intro (k + 1) σ.objs.length σ.toks.length 1 (⟨hlt, by rw [hn, hst]; simp only [h0, h1, h34, h51, h59, h60, h61, hin, h63, bA, bB, bC, bD, bE, bF, bG, bH, bI, bJ, Bool.false_eq_true, if_true, if_false]⟩) (by omega) ⟨by simp [go_sem, hwr1, hx, hin, hw], rfl, by simp, by simp, by simp [go_sem, hwr1, hx, hin, hw], fun ob h => .inl (by simpa [go_sem, hwr1, hx, hin, hw] using h), by simp [go_sem]⟩
      ·have hin : inb b d k = b := inb_no h60
       refine aK 2 76 true ?_
       refine aL 1 (by simp [go_sem, hwr1, hx, hin] <;> rfl) ?_
       refine al_nil ?_
       refine awp_cond (b := false) (by simp [go_sem, hwr1, hx, hin, h0, h1, h34, h51, h59, h60, hin]) (fun h => ?_) (fun h => ?_)
       ·cases h
       refine awp_skip ?_
       refine awp_seq (awp_reg ?_)
       refine aL 6 (by simp [go_sem, hwr1, hx, hin] <;> rfl) ?_
       refine aF call44 (ih x (kidsR_mem hxm) (inb b d k) _ (by exact hgl) (formed_kids hf (kidsR_mem hxm)) (by have := D.size_kid_lt (kidsR_mem hxm); have := inb_len b d k; omega)) (by simp [go_sem, hwr1, hx, hin] <;> rfl) (by simp [go_sem, hwr1, hx, hin]) ?_
       refine aL 1 (by simp [go_sem, hwr1, hx, hin] <;> rfl) ?_
       refine al_nil ?_
       refine awp_seq (aR (by simp [go_sem, hwr1, hx, hin] <;> rfl) ?_)
       refine awp_cond (by first | rfl | (simp [go_sem, hwr1, hx, hin] <;> rfl)) (fun h64 => ?_) (fun h64 => ?_)
       ·refine awp_seq ?_
        refine aR (by simp [go_sem, hwr1, hx, hin] <;> rfl) ?_
        refine awp_ret ?_
        refine inBlock_ret ?_
        refine then_ret ?_
        refine then_ret ?_
        refine inBlock_ret ?_
        refine then_ret ?_
        refine ends_ret (by simp [go_sem] <;> rfl) (by simp [go_sem]) ?_
        have hs : body1 ps b d = cexpr ps (inb b d k) x := by rw [hn, hst]; simp only [Bool.not_true, hwr1, hx, hin, h0, h1, h34, h51, h59, h60, hin, h64, bA, bB, bC, bD, bE, bF, bG, bH, bI, bJ, Bool.false_eq_true, if_true, if_false]
        exact ⟨by simp [go_sem, hs, hwr1, hx, hin, h0, h1, h34, h51, h59, h60, hin, h64], by simp [go_sem]⟩
       ·refine awp_skip ?_
        refine aR (by simp [go_sem, hwr1, hx, hin] <;> rfl) ?_
        exact next_intro (k + 1) σ.objs.length σ.toks.length 1 (⟨hlt, by rw [hn, hst]; simp only [h0, h1, h34, h51, h59, h60, hin, h64, bA, bB, bC, bD, bE, bF, bG, bH, bI, bJ, Bool.false_eq_true, if_true, if_false]⟩) (by omega) ⟨by simp [go_sem, hwr1, hx, hin, hw], rfl, by simp, by simp, by simp [go_sem, hwr1, hx, hin, hw], fun ob h => .inl (by simpa [go_sem, hwr1, hx, hin, hw] using h), by simp [go_sem]⟩
     ·have hke : k = (kidsR d).length := by simp at h59; omega
      subst hke
      refine awp_exit ?_
      refine then_exit ?_
      refine then_exit ?_
      refine inBlock_hit ?_
      refine awp_seq (aR (by simp [go_sem, hwr1] <;> rfl) ?_)
      refine awp_ret ?_
      refine ends_ret (by simp [go_sem] <;> rfl) (by simp [go_sem]) ?_
      have hs : body1 ps b d = 0 := by rw [hn, List.drop_length]; rfl
      exact ⟨by simp [go_sem, hs], by simp [go_sem]⟩

end Go.Proofs.YtienmmfjjffjaaaGreatDoor

/- The specification: Check. -/
namespace Go.Proofs.YtienmmfjjffjaaaGreatDoor
open Go Go.Aw
variable {kr : ResO}
theorem look_seen17 {s : St} {o : Nat} {ps : List (D × Int)} (ho : s.σ.objs[o]? = some (.map (sK ps) (sV ps))) (x : ByteArray) :
    lookAV ty s 70 (.map o) (.pv (.str x)) false = some (.pv (.bool (ps.any fun p => decide (x = keyS p.1)))) := look_str rfl rfl rfl rfl rfl rfl rfl ho x
theorem put_seen17 {s : St} {o : Nat} {ps : List (D × Int)} (ho : s.σ.objs[o]? = some (.map (sK ps) (sV ps))) (x : ByteArray) (hn : (ps.any fun p => decide (x = keyS p.1)) = false) :
    putAV ty s 70 (.map o) (.pv (.str x)) (.pv (.bool true)) = some { s.σ with objs := s.σ.objs.set o (.map (sK ps ++ [.str x]) (sV ps ++ [.bool true])) } := put_str rfl rfl rfl rfl ho x hn

set_option maxHeartbeats 1000000 in
theorem c_refCheck (p : D) (hp : p.size ≤ 900000000) : Pur Tryz.prog (GL kr) 10 [.pv (enc p)] (.tuple [.pv (.slice ((rdefs p).map encDf)), .pv (.int .i64 (fcheck p))]) := by
 have hkl := D.kids_length_lt p
 refine pur_of fun σ hgl => ?_
 refine acalls_of tyOk Tryz.func10 rfl (by simp [Tryz.f10]) ?_
 refine awp_seq (aR (by simp [go_sem] <;> rfl) ?_)
 refine awp_seq (awp_seq (awp_reg ?_))
 refine aL 1 (by simp [go_sem] <;> rfl) ?_
 refine aF call29 ((c_Check01 p (by omega)) _ (by exact hgl)) (by simp [go_sem] <;> rfl) (by simp [go_sem]) ?_
 refine aL 1 (by simp [go_sem] <;> rfl) ?_
 refine al_nil ?_
 refine awp_seq (aR (by simp [go_sem] <;> rfl) ?_)
 refine awp_cond (by first | rfl | (simp [go_sem] <;> rfl)) (fun h0 => ?_) (fun h0 => ?_)
 ·refine awp_seq ?_
  refine aR (by simp [go_sem] <;> rfl) ?_
  refine awp_ret ?_
  refine then_ret ?_
  refine ends_ret (by simp [go_sem] <;> rfl) (by simp [go_sem]) ?_
  have hh : heads p = (dcheck p, []) := by unfold heads; simp only [Bool.not_true, h0, bA, bB, bC, bD, bE, bF, bG, bH, bI, bJ, Bool.false_eq_true, if_true, if_false]
  have hs : fcheck p = dcheck p := by unfold fcheck; rw [hh]; simp only [h0, if_true]
  have hr : rdefs p = [] := by unfold rdefs; rw [hs]; simp only [h0, if_true]
  exact ⟨by simp [go_sem, hs, hr], by simp [go_sem]⟩
 ·refine awp_skip ?_
  refine awp_seq (awp_seq (awp_reg ?_))
  refine aL 4 (by simp [go_sem] <;> rfl) ?_
  refine al_splitT 21 (by first | rfl | (simp [go_sem] <;> rfl)) (fun h1 => ?_) (fun h1 => ?_)
  ·refine aK 4 21 false ?_
   refine aL 1 (by simp [go_sem] <;> rfl) ?_
   refine al_nil ?_
   refine awp_cond (b := true) (by simp [go_sem, h0, h1]) (fun h => ?_) (fun h => ?_)
   rotate_left
   ·cases h
   refine awp_seq (aR (by simp [go_sem] <;> rfl) ?_)
   refine awp_ret ?_
   refine then_ret ?_
   refine ends_ret (by simp [go_sem] <;> rfl) (by simp [go_sem]) ?_
   have hh : heads p = (4, []) := by unfold heads; simp only [Bool.not_true, h0, h1, bA, bB, bC, bD, bE, bF, bG, bH, bI, bJ, Bool.false_eq_true, if_true, if_false]
   have hs : fcheck p = 4 := by unfold fcheck; rw [hh]; rfl
   have hr : rdefs p = [] := by unfold rdefs; rw [hs]; rfl
   exact ⟨by simp [go_sem, hs, hr], by simp [go_sem]⟩
  ·refine aLG 4 21 false (by simp [go_sem] <;> rfl) ?_
   refine aL 1 (by simp [go_sem] <;> rfl) ?_
   refine al_nil ?_
   refine awp_cond (by first | rfl | (simp [go_sem] <;> rfl)) (fun h2 => ?_) (fun h2 => ?_)
   ·refine awp_seq ?_
    refine aR (by simp [go_sem] <;> rfl) ?_
    refine awp_ret ?_
    refine then_ret ?_
    refine ends_ret (by simp [go_sem] <;> rfl) (by simp [go_sem]) ?_
    have hh : heads p = (4, []) := by unfold heads; simp only [Bool.not_true, h0, h1, h2, bA, bB, bC, bD, bE, bF, bG, bH, bI, bJ, Bool.false_eq_true, if_true, if_false]
    have hs : fcheck p = 4 := by unfold fcheck; rw [hh]; rfl
    have hr : rdefs p = [] := by unfold rdefs; rw [hs]; rfl
    exact ⟨by simp [go_sem, hs, hr], by simp [go_sem]⟩
   ·refine awp_skip ?_
    refine awp_seq (awp_seq (aR (by simp [go_sem] <;> rfl) ?_))
    refine awp_cond (by first | rfl | (simp [go_sem] <;> rfl)) (fun h3 => ?_) (fun h3 => ?_)
    ·refine awp_seq ?_
     refine aR (by simp [go_sem] <;> rfl) ?_
     refine awp_ret ?_
     refine then_ret ?_
     refine ends_ret (by simp [go_sem] <;> rfl) (by simp [go_sem]) ?_
     have hh : heads p = (3, []) := by unfold heads; simp only [Bool.not_true, h0, h1, h2, h3, bA, bB, bC, bD, bE, bF, bG, bH, bI, bJ, Bool.false_eq_true, if_true, if_false]
     have hs : fcheck p = 3 := by unfold fcheck; rw [hh]; rfl
     have hr : rdefs p = [] := by unfold rdefs; rw [hs]; rfl
     exact ⟨by simp [go_sem, hs, hr], by simp [go_sem]⟩
    ·refine awp_skip ?_
     refine awp_seq (aR (by simp [go_sem] <;> rfl) ?_)
     refine awp_seq (aR (by simp [go_sem] <;> rfl) ?_)
     refine awp_seq (awp_seq (aR (by simp [go_sem] <;> rfl) ?_))
     have hhd : heads p = headsGo [] p.kids := by unfold heads; simp only [Bool.not_true, h0, h1, h2, h3, bA, bB, bC, bD, bE, bF, bG, bH, bI, bJ, Bool.false_eq_true, if_true, if_false]
     have hfp : formed p = true := dcheck_formed (by simpa using h0)
     refine awp_adopt' 5 41 9 (by simp [go_sem] <;> rfl) ?_
     refine awp_block ?_
     refine awp_loop_headK (σ.objs.length + 1) (σ.toks.length + 1) 1 [1, 2, 3, 6] (fun k : Nat => [(5, .acc ((dfK p.kids k).map encDf) σ.toks.length), (7, .pv (.int .i64 ↑k))]) (fun k => withS σ (hps p.kids (k)) 41 (k)) (fun k => k ≤ p.kids.length ∧ headsGo [] p.kids = headsGo (hps p.kids k) (p.kids.drop k) ∧ LabOk (hps p.kids k)) (fun k => p.kids.length - k) 0 (⟨Nat.zero_le _, rfl, fun q hq => by simp [hps] at hq⟩) ⟨by show withS σ (hps p.kids (0)) 41 (0) = _; rw [hps_zero]; simp [withS, sK, sV, go_sem, List.take_of_length_le], rfl, by simp, by simp, by simp [go_sem, dfK_zero], fun ob h => withS_mem h, by simp [go_sem]⟩ ?_
     rintro k ⟨hk, hn, hlo⟩
     refine awp_seq (awp_seq (aR (by simp [go_sem] <;> rfl) ?_))
     refine awp_cond (by first | rfl | (simp [go_sem] <;> rfl)) (fun h4 => ?_) (fun h4 => ?_)
     ·have hlt : k < p.kids.length := by simp at h4; omega
      have hw : IntKind.i64.wrap (↑k + 1) = (k : Int) + 1 := wrap_succ (by omega)
      obtain ⟨x, hx, hxm⟩ := get_lt hlt
      have hst := headsGo_step (ps := hps p.kids k) hx
      refine awp_skip ?_
      refine awp_seq (awp_block ?_)
      refine awp_seq (aR (by simp [go_sem, hx] <;> rfl) ?_)
      refine awp_seq (awp_seq (awp_reg ?_))
      refine aL 4 (by simp [go_sem, hx] <;> rfl) ?_
      refine al_splitT 47 (by first | rfl | (simp [go_sem, hx] <;> rfl)) (fun h5 => ?_) (fun h5 => ?_)
      ·have hc : chead (hps p.kids k) x = (4, hps p.kids k) := chead_none (kidsOf_no1 h5)
       refine aK 4 47 false ?_
       refine aL 2 (by simp [go_sem, hx] <;> rfl) ?_
       refine aK 6 53 false ?_
       refine aL 2 (by simp [go_sem, hx] <;> rfl) ?_
       refine aK 7 61 false ?_
       refine aL 1 (by simp [go_sem, hx] <;> rfl) ?_
       refine al_nil ?_
       refine awp_cond (b := true) (by simp [go_sem, hx, h0, h1, h2, h3, h4, h5]) (fun h => ?_) (fun h => ?_)
       rotate_left
       ·cases h
       refine awp_seq (aR (by simp [go_sem, hx] <;> rfl) ?_)
       refine awp_ret ?_
       refine then_ret ?_
       refine inBlock_ret ?_
       refine then_ret ?_
       refine then_ret ?_
       refine inBlock_ret ?_
       refine then_ret ?_
       refine ends_ret (by simp [go_sem] <;> rfl) (by simp [go_sem]) ?_
       have hh : heads p = (4, hps p.kids k) := by rw [hhd, hn, hst, hc]; rfl
       have hs : fcheck p = 4 := by unfold fcheck; rw [hh]; rfl
       have hr : rdefs p = [] := by unfold rdefs; rw [hs]; rfl
       exact ⟨by simp [go_sem, hs, hr], by simp [go_sem, withS]⟩
      ·refine aLG 4 47 false (by simp [go_sem, hx] <;> rfl) ?_
       refine aL 2 (by simp [go_sem, hx] <;> rfl) ?_
       refine al_splitT 53 (by first | rfl | (simp [go_sem, hx] <;> rfl)) (fun h6 => ?_) (fun h6 => ?_)
       ·have hc : chead (hps p.kids k) x = (4, hps p.kids k) := chead_none (kidsOf_no2 h6)
        refine aK 6 53 false ?_
        refine aL 2 (by simp [go_sem, hx] <;> rfl) ?_
        refine aK 7 61 false ?_
        refine aL 1 (by simp [go_sem, hx] <;> rfl) ?_
        refine al_nil ?_
        refine awp_cond (b := true) (by simp [go_sem, hx, h0, h1, h2, h3, h4, h5, h6]) (fun h => ?_) (fun h => ?_)
        rotate_left
        ·cases h
        refine awp_seq (aR (by simp [go_sem, hx] <;> rfl) ?_)
        refine awp_ret ?_
        refine then_ret ?_
        refine inBlock_ret ?_
        refine then_ret ?_
        refine then_ret ?_
        refine inBlock_ret ?_
        refine then_ret ?_
        refine ends_ret (by simp [go_sem] <;> rfl) (by simp [go_sem]) ?_
        have hh : heads p = (4, hps p.kids k) := by rw [hhd, hn, hst, hc]; rfl
        have hs : fcheck p = 4 := by unfold fcheck; rw [hh]; rfl
        have hr : rdefs p = [] := by unfold rdefs; rw [hs]; rfl
        exact ⟨by simp [go_sem, hs, hr], by simp [go_sem, withS]⟩
       ·obtain ⟨x0, x1, x2, hkk, hkd⟩ := kidsOf_yes h5 h6
        have hcs := chead_some (ps := hps p.kids k) hkd
        have hfx := formed_kids hfp hxm
        have hf0 : formed x0 = true := formed_kids hfx (by rw [hkk]; simp)
        have hf1 : formed x1 = true := formed_kids hfx (by rw [hkk]; simp)
        have hrl := rlabel_eq hf0
        have hlk := fun (s : St) (x : ByteArray) (ho : s.σ.objs[σ.objs.length]? = some (.map (sK (hps p.kids k)) (sV (hps p.kids k)))) => look_seen17 ho x
        have hsx := D.size_kid_lt hxm
        have hs0 := D.size_kid_lt (d := x) (k := x0) (by rw [hkk]; simp)
        have hs1 := D.size_kid_lt (d := x) (k := x1) (by rw [hkk]; simp)
        have hs2 := D.size_kid_lt (d := x) (k := x2) (by rw [hkk]; simp)
        refine aLG 4 53 false (by simp [go_sem, hx, hkk, hlk, withS_get] <;> rfl) ?_
        refine al_fnG 53 false false (by simp [go_sem]) rfl (by simp [go_sem]) rfl rfl (by simp [go_sem, hx, hkk, hlk, withS_get] <;> rfl) call41 ((c_Label x0) _ (by exact hgl)) (by simp [go_sem, hx, hkk, hlk, withS_get] <;> rfl) (by simp [go_sem, hx, hkk, hlk, withS_get]) rfl rfl ?_
        refine aLG 1 53 false (by simp [go_sem, hx, hkk, hlk, withS_get, hrl] <;> rfl) ?_
        refine aL 2 (by simp [go_sem, hx, hkk, hlk, withS_get, hrl] <;> rfl) ?_
        refine al_splitT 61 (by first | rfl | (simp [go_sem, hx, hkk, hlk, withS_get, hrl] <;> rfl)) (fun h7 => ?_) (fun h7 => ?_)
        ·have hc : chead (hps p.kids k) x = (4, hps p.kids k) := by rw [hcs, if_pos h7]
         refine aK 7 61 false ?_
         refine aL 1 (by simp [go_sem, hx, hkk, hlk, withS_get, hrl] <;> rfl) ?_
         refine al_nil ?_
         refine awp_cond (b := true) (by simp [go_sem, hx, hkk, hlk, withS_get, hrl, h0, h1, h2, h3, h4, h5, h6, h7]) (fun h => ?_) (fun h => ?_)
         rotate_left
         ·cases h
         refine awp_seq (aR (by simp [go_sem, hx, hkk, hlk, withS_get, hrl] <;> rfl) ?_)
         refine awp_ret ?_
         refine then_ret ?_
         refine inBlock_ret ?_
         refine then_ret ?_
         refine then_ret ?_
         refine inBlock_ret ?_
         refine then_ret ?_
         refine ends_ret (by simp [go_sem] <;> rfl) (by simp [go_sem]) ?_
         have hh : heads p = (4, hps p.kids k) := by rw [hhd, hn, hst, hc]; rfl
         have hs : fcheck p = 4 := by unfold fcheck; rw [hh]; rfl
         have hr : rdefs p = [] := by unfold rdefs; rw [hs]; rfl
         exact ⟨by simp [go_sem, hs, hr], by simp [go_sem, withS]⟩
        ·have hlb : isLabel x0 = true := by simpa using h7
         obtain ⟨hr0, hr1⟩ := label_range hlb hf0
         have hsk := seen_kpar hlo hlb hf0
         refine aLG 5 61 false (by simp [go_sem, hx, hkk, hlk, withS_get, hrl, hsk] <;> rfl) ?_
         refine al_fnG 61 false false (by simp [go_sem]) rfl (by simp [go_sem]) rfl rfl (by simp [go_sem, hx, hkk, hlk, withS_get, hrl, hsk] <;> rfl) call42 ((c_key x0 (by omega) (by omega)) _ (by exact hgl)) (by simp [go_sem, hx, hkk, hlk, withS_get, hrl, hsk] <;> rfl) (by simp [go_sem, hx, hkk, hlk, withS_get, hrl, hsk]) rfl rfl ?_
         refine aLG 1 61 false (by simp [go_sem, hx, hkk, hlk, withS_get, hrl, hsk] <;> rfl) ?_
         refine aL 1 (by simp [go_sem, hx, hkk, hlk, withS_get, hrl, hsk] <;> rfl) ?_
         refine al_nil ?_
         refine awp_cond (by first | rfl | (simp [go_sem, hx, hkk, hlk, withS_get, hrl, hsk] <;> rfl)) (fun h8 => ?_) (fun h8 => ?_)
         ·have hc : chead (hps p.kids k) x = (4, hps p.kids k) := by rw [hcs, if_neg (by rw [hlb]; decide), if_pos h8]
          refine awp_seq (aR (by simp [go_sem, hx, hkk, hlk, withS_get, hrl, hsk] <;> rfl) ?_)
          refine awp_ret ?_
          refine then_ret ?_
          refine inBlock_ret ?_
          refine then_ret ?_
          refine then_ret ?_
          refine inBlock_ret ?_
          refine then_ret ?_
          refine ends_ret (by simp [go_sem] <;> rfl) (by simp [go_sem]) ?_
          have hh : heads p = (4, hps p.kids k) := by rw [hhd, hn, hst, hc]; rfl
          have hs : fcheck p = 4 := by unfold fcheck; rw [hh]; rfl
          have hr : rdefs p = [] := by unfold rdefs; rw [hs]; rfl
          exact ⟨by simp [go_sem, hs, hr], by simp [go_sem, withS]⟩
         ·have hnk : (kpar (hps p.kids k) x0).2 = false := h8
          have hnn0 : ¬ (kpar (hps p.kids k) x0).2 = true := by rw [hnk]; decide
          have hpt := fun (s : St) (ho : s.σ.objs[σ.objs.length]? = some (.map (sK (hps p.kids k)) (sV (hps p.kids k)))) => put_seen17 ho (keyS x0) (by rw [hsk]; exact hnk)
          refine awp_skip ?_
          refine awp_seq (awp_reg ?_)
          refine aL 4 (by simp [go_sem, hx, hkk, hlk, withS_get, hrl, hsk, hpt] <;> rfl) ?_
          refine aF call43 ((c_refNames x1 (by omega) hf1) _ (by exact hgl)) (by simp [go_sem, hx, hkk, hlk, withS_get, hrl, hsk, hpt] <;> rfl) (by simp [go_sem, hx, hkk, hlk, withS_get, hrl, hsk, hpt]) ?_
          refine aL 5 (by simp [go_sem, hx, hkk, hlk, withS_get, hrl, hsk, hpt] <;> rfl) ?_
          refine al_nil ?_
          refine awp_seq (awp_seq (aR (by simp [go_sem, hx, hkk, hlk, withS_get, hrl, hsk, hpt] <;> rfl) ?_))
          refine awp_cond (by first | rfl | (simp [go_sem, hx, hkk, hlk, withS_get, hrl, hsk, hpt] <;> rfl)) (fun h9 => ?_) (fun h9 => ?_)
          ·have hnn : names x1 = none := by simpa using h9
           have hc : chead (hps p.kids k) x = (4, hps p.kids k) := by rw [hcs, if_neg (by rw [hlb]; decide), if_neg hnn0, hnn]
           refine awp_seq (aR (by simp [go_sem, hx, hkk, hlk, withS_get, hrl, hsk, hpt] <;> rfl) ?_)
           refine awp_ret ?_
           refine then_ret ?_
           refine inBlock_ret ?_
           refine then_ret ?_
           refine then_ret ?_
           refine inBlock_ret ?_
           refine then_ret ?_
           refine ends_ret (by simp [go_sem] <;> rfl) (by simp [go_sem]) ?_
           have hh : heads p = (4, hps p.kids k) := by rw [hhd, hn, hst, hc]; rfl
           have hs : fcheck p = 4 := by unfold fcheck; rw [hh]; rfl
           have hr : rdefs p = [] := by unfold rdefs; rw [hs]; rfl
           exact ⟨by simp [go_sem, hs, hr], by simp [go_sem, withS]⟩
          ·obtain ⟨ns, hns⟩ : ∃ ns, names x1 = some ns := Option.isSome_iff_exists.1 (by simpa using h9)
           refine awp_skip ?_
           refine awp_seq (awp_seq (aR (by simp [go_sem, hx, hkk, hlk, withS_get, hrl, hsk, hpt, hns, encN] <;> rfl) ?_))
           refine awp_cond (by first | rfl | (simp [go_sem, hx, hkk, hlk, withS_get, hrl, hsk, hpt, hns, encN] <;> rfl)) (fun h10 => ?_) (fun h10 => ?_)
           ·have hc : chead (hps p.kids k) x = (3, hps p.kids k) := by rw [hcs, if_neg (by rw [hlb]; decide), if_neg hnn0, hns]; simp only [h10, if_true]
            refine awp_seq (aR (by simp [go_sem, hx, hkk, hlk, withS_get, hrl, hsk, hpt, hns, encN] <;> rfl) ?_)
            refine awp_ret ?_
            refine then_ret ?_
            refine inBlock_ret ?_
            refine then_ret ?_
            refine then_ret ?_
            refine inBlock_ret ?_
            refine then_ret ?_
            refine ends_ret (by simp [go_sem] <;> rfl) (by simp [go_sem]) ?_
            have hh : heads p = (3, hps p.kids k) := by rw [hhd, hn, hst, hc]; rfl
            have hs : fcheck p = 3 := by unfold fcheck; rw [hh]; rfl
            have hr : rdefs p = [] := by unfold rdefs; rw [hs]; rfl
            exact ⟨by simp [go_sem, hs, hr], by simp [go_sem, withS]⟩
           ·have hc0 : chead (hps p.kids k) x = (0, kset (hps p.kids k) x0 ns.length) := by rw [hcs, if_neg (by rw [hlb]; decide), if_neg hnn0, hns]; simp only [h10, Bool.false_eq_true, if_false]
            have hpn := hps_next hx
            have hpk : hps p.kids (k + 1) = hps p.kids k ++ [(x0, (ns.length : Int))] := by rw [hpn, hc0]; exact kset_new hnk
            have hdn := dfK_next hx
            rw [toDf_of hkk hns] at hdn
            have hdl := dfK_len hk
            have hbb : (k + 1) * 136 ≤ 140737488355328 := by omega
            refine awp_skip ?_
            refine awp_seq (awp_reg ?_)
            refine aL 5 (by simp [go_sem, hx, hkk, hlk, withS_get, hrl, hsk, hpt, hns, encN, hdl, hbb, withS_tok, agg_df] <;> rfl) ?_
            refine aF call42 ((c_key x0 (by omega) (by omega)) _ (by exact hgl)) (by simp [go_sem, hx, hkk, hlk, withS_get, hrl, hsk, hpt, hns, encN, hdl, hbb, withS_tok, agg_df] <;> rfl) (by simp [go_sem, hx, hkk, hlk, withS_get, hrl, hsk, hpt, hns, encN, hdl, hbb, withS_tok, agg_df]) ?_
            refine aL 1 (by simp [go_sem, hx, hkk, hlk, withS_get, hrl, hsk, hpt, hns, encN, hdl, hbb, withS_tok, agg_df] <;> rfl) ?_
            refine al_nil ?_
            refine awp_regDP tyOk tySz 12 (by kernel_rfl) (by decide) ?_
            refine ul_run 12 (by simp [go_sem, hx, hkk, hlk, withS_get, hrl, hsk, hpt, hns, encN, hdl, hbb, withS_tok, agg_df] <;> rfl) ?_
            refine ul_nil ?_
            refine aL 2 (by simp [go_sem, hx, hkk, hlk, withS_get, hrl, hsk, hpt, hns, encN, hdl, hbb, withS_tok, agg_df] <;> rfl) ?_
            refine al_nil ?_
            refine aR (by simp [go_sem, hx, hkk, hlk, withS_get, hrl, hsk, hpt, hns, encN, hdl, hbb, withS_tok, agg_df] <;> rfl) ?_
            exact next_intro (k + 1) (σ.objs.length + 1) (σ.toks.length + 1) 1 (⟨hlt, by rw [hn, hst, hpn, hc0]; rfl, by rw [hpn, hc0]; exact hlo.kset hlb hf0 hnk⟩) (by omega) ⟨by show withS σ (hps p.kids (k + 1)) 41 (k + 1) = Store.cut _ _ _; rw [hpk]; simp [withS, sK_snoc, sV_snoc, go_sem, List.take_of_length_le], rfl, by simp, by simp, by simp [go_sem, hx, hkk, hlk, withS_get, hrl, hsk, hpt, hns, encN, hdl, hbb, withS_tok, agg_df, hw, hdn], fun ob h => withS_mem h, by simp [go_sem]⟩
     ·have hke : k = p.kids.length := by simp at h4; omega
      subst hke
      have hh : heads p = (0, hps p.kids p.kids.length) := by rw [hhd, hn, List.drop_length]; rfl
      have hh0 : (heads p).1 = 0 := by rw [hh]
      have hdl : ∀ x, x ∈ p.kids.map toDf → x.lab.size ≤ 1000000000 ∧ x.ps.length ≤ 1000000000 := dfs_small hh0 (by omega)
      refine awp_exit ?_
      refine then_exit ?_
      refine then_exit ?_
      refine inBlock_hit ?_
      refine awp_seq (awp_seq (aR (by simp [go_sem, dfK_all] <;> rfl) ?_))
      refine awp_block ?_
      refine awp_loop_headK (σ.objs.length + 1) (σ.toks.length + 1) 1 [2, 3, 5] (fun k : Nat => [(11, .pv (.int .i64 ↑k))]) (fun k => withS σ (hps p.kids (p.kids.length)) 41 (p.kids.length)) (fun k => k ≤ p.kids.length ∧ bodies (heads p).2 p.kids = bodies (heads p).2 (p.kids.drop k)) (fun k => p.kids.length - k) 0 (⟨Nat.zero_le _, rfl⟩) ⟨by show withS σ (hps p.kids (p.kids.length)) 41 (p.kids.length) = Store.cut _ _ _; rw [withS_cut], rfl, by simp, by simp, by simp [go_sem, dfK_all], fun ob h => withS_mem h, by simp [go_sem]⟩ ?_
      rintro k ⟨hk, hn⟩
      refine awp_seq (awp_seq (aR (by simp [go_sem, dfK_all] <;> rfl) ?_))
      refine awp_cond (by first | rfl | (simp [go_sem, dfK_all] <;> rfl)) (fun h11 => ?_) (fun h11 => ?_)
      ·have hlt : k < p.kids.length := by simp at h11; omega
       have hw : IntKind.i64.wrap (↑k + 1) = (k : Int) + 1 := wrap_succ (by omega)
       obtain ⟨x, hx, hxm⟩ := get_lt hlt
       have hst := bodies_step (ps := (heads p).2) hx
       obtain ⟨x0, x1, x2, ns, hkk, hk3, hlab, hns, hn8⟩ := def_ok hh0 hxm
       have htd := toDf_of hkk hns
       have hd1 : d1 x.kids = x1 := by rw [hkk]; rfl
       have hd2 : d2 x.kids = x2 := by rw [hkk]; rfl
       have hnl : nlist (names x1) = ns := by rw [hns]; rfl
       have hf2 : formed x2 = true := formed_kids (formed_kids hfp hxm) (by rw [hkk]; simp)
       have hsx := D.size_kid_lt hxm
       have hs0 := D.size_kid_lt (d := x) (k := x0) (by rw [hkk]; simp)
       have hs1 := D.size_kid_lt (d := x) (k := x1) (by rw [hkk]; simp)
       have hs2 := D.size_kid_lt (d := x) (k := x2) (by rw [hkk]; simp)
       refine awp_skip ?_
       refine awp_seq (awp_block ?_)
       refine awp_seq (awp_regDP tyOk tySz 11 (by kernel_rfl) (by decide) ?_)
       refine ul_run 11 (by simp [go_sem, dfK_all, hx, htd] <;> rfl) ?_
       refine ul_nil ?_
       refine aF call44 (c_body (p.kids.map toDf) (heads p).2 (lp_of hh0) (by simp; omega) hdl x2 ns _ (by exact hgl) hf2 (by omega)) (by simp [go_sem, dfK_all, hx, htd] <;> rfl) (by simp [go_sem, dfK_all, hx, htd]) ?_
       refine aL 1 (by simp [go_sem, dfK_all, hx, htd] <;> rfl) ?_
       refine al_nil ?_
       refine awp_seq (aR (by simp [go_sem, dfK_all, hx, htd] <;> rfl) ?_)
       refine awp_cond (by first | rfl | (simp [go_sem, dfK_all, hx, htd] <;> rfl)) (fun h12 => ?_) (fun h12 => ?_)
       ·refine awp_seq ?_
        refine aR (by simp [go_sem, dfK_all, hx, htd] <;> rfl) ?_
        refine awp_ret ?_
        refine inBlock_ret ?_
        refine then_ret ?_
        refine then_ret ?_
        refine inBlock_ret ?_
        refine then_ret ?_
        refine ends_ret (by simp [go_sem] <;> rfl) (by simp [go_sem]) ?_
        have hs : fcheck p = cexpr (heads p).2 ns x2 := by rw [show fcheck p = bodies (heads p).2 p.kids by unfold fcheck; rw [if_neg (by rw [hh0]; decide)], hn, hst, hd1, hd2, hnl]; simp only [h12, bA, bB, bC, bD, bE, bF, bG, bH, bI, bJ, Bool.false_eq_true, if_true, if_false]
        have hr : rdefs p = [] := by unfold rdefs; rw [hs, if_pos h12]
        exact ⟨by simp [go_sem, hs, hr], by simp [go_sem, withS]⟩
       ·refine awp_skip ?_
        refine aR (by simp [go_sem, dfK_all, hx, htd] <;> rfl) ?_
        exact next_intro (k + 1) (σ.objs.length + 1) (σ.toks.length + 1) 1 (⟨hlt, by rw [hn, hst, hd1, hd2, hnl]; simp only [h0, h1, h2, h3, h11, h12, bA, bB, bC, bD, bE, bF, bG, bH, bI, bJ, Bool.false_eq_true, if_true, if_false]⟩) (by omega) ⟨by show withS σ (hps p.kids (p.kids.length)) 41 (p.kids.length) = Store.cut _ _ _; rw [withS_cut], rfl, by simp, by simp, by simp [go_sem, dfK_all, hx, htd, hw], fun ob h => withS_mem h, by simp [go_sem]⟩
      ·have hke : k = p.kids.length := by simp at h11; omega
       subst hke
       refine awp_exit ?_
       refine then_exit ?_
       refine then_exit ?_
       refine inBlock_hit ?_
       refine awp_seq (aR (by simp [go_sem, dfK_all] <;> rfl) ?_)
       refine awp_ret ?_
       refine ends_ret (by simp [go_sem] <;> rfl) (by simp [go_sem]) ?_
       have hs : fcheck p = 0 := by rw [show fcheck p = bodies (heads p).2 p.kids by unfold fcheck; rw [if_neg (by rw [hh0]; decide)], hn, List.drop_length]; rfl
       have hr : rdefs p = p.kids.map toDf := by unfold rdefs; rw [hs]; rfl
       exact ⟨by simp [go_sem, hs, hr], by simp [go_sem, withS]⟩

end Go.Proofs.YtienmmfjjffjaaaGreatDoor

/- Main, Labels, Def, Calls, Same. -/
namespace Go.Proofs.YtienmmfjjffjaaaGreatDoor
open Go Go.Aw
variable {kr : ResO}
end Go.Proofs.YtienmmfjjffjaaaGreatDoor

/- The specification: Calls, Reach. -/
namespace Go.Proofs.YtienmmfjjffjaaaGreatDoor
open Go Go.Aw
variable {kr : ResO}
set_option maxHeartbeats 1000000 in
theorem c_refCalls (d : D) (hg : GoodE d) (hd : d.size ≤ 1000000000) : Pur Tryz.prog (GL kr) 40 [.pv (enc d)] (.pv (.slice ((callsOf d).map enc))) := by
 have hel := exprsL_len d
 have hfl := fsize_le d
 refine pur_of fun σ hgl => ?_
 refine acalls_of tyOk Tryz.func40 rfl (by simp [Tryz.f40]) ?_
 refine awp_seq (aR (by simp [go_sem] <;> rfl) ?_)
 refine awp_seq (aR (by simp [go_sem] <;> rfl) ?_)
 refine awp_seq (awp_reg ?_)
 refine aL 1 (by simp [go_sem] <;> rfl) ?_
 refine aF call52 ((c_exprs d hg hd) _ (by exact hgl)) (by simp [go_sem] <;> rfl) (by simp [go_sem]) ?_
 refine aL 1 (by simp [go_sem] <;> rfl) ?_
 refine al_nil ?_
 refine awp_seq (awp_seq (aR (by simp [go_sem] <;> rfl) ?_))
 refine awp_adopt' 3 24 4 (by simp [go_sem] <;> rfl) ?_
 refine awp_block ?_
 refine awp_loop_headK σ.objs.length (σ.toks.length + 1) 1 [2, 4] (fun k : Nat => [(3, .acc ((crK d k).map enc) σ.toks.length), (5, .pv (.int .i64 ↑k))]) (fun k => { σ with toks := σ.toks ++ [⟨(crK d k).length, 24, 4⟩] }) (fun k => k ≤ (exprsL d).length) (fun k => (exprsL d).length - k) 0 (Nat.zero_le _) ⟨by simp [go_sem, crK_zero], rfl, by simp, by simp, by simp [go_sem, crK_zero], fun ob h => .inl (by simpa [go_sem, crK_zero] using h), by simp [go_sem]⟩ ?_
 intro k hk
 refine awp_seq (awp_seq (aR (by simp [go_sem] <;> rfl) ?_))
 refine awp_cond (by first | rfl | (simp [go_sem] <;> rfl)) (fun h0 => ?_) (fun h0 => ?_)
 ·have hlt : k < (exprsL d).length := by simp at h0; omega
  have hw : IntKind.i64.wrap (↑k + 1) = (k : Int) + 1 := wrap_succ (by omega)
  obtain ⟨x, hx, hxm⟩ := get_lt hlt
  obtain ⟨hgx, hsx⟩ := exprsL_mem hg hxm
  have hcl := crK_len d k
  have hbb : ((crK d k).length + 1) * 56 ≤ 140737488355328 := by omega
  refine awp_skip ?_
  refine awp_seq (awp_block ?_)
  refine awp_seq (awp_reg ?_)
  refine aL 4 (by simp [go_sem, hx] <;> rfl) ?_
  refine aF call82 ((c_Word x) _ (by exact hgl)) (by simp [go_sem, hx] <;> rfl) (by simp [go_sem, hx]) ?_
  refine aL 2 (by simp [go_sem, hx] <;> rfl) ?_
  refine al_splitT 20 (by first | rfl | (simp [go_sem, hx] <;> rfl)) (fun h1 => ?_) (fun h1 => ?_)
  ·have hic : isCall x = true := by rw [← hgx.isCall]; exact h1
   have h2l := (hgx.label hic).1
   have hx1 := get_d1 h2l
   refine aLG 8 20 true (by simp [go_sem, hx, hx1] <;> rfl) ?_
   refine al_fnG 20 true true (by simp [go_sem]) rfl (by simp [go_sem]) rfl rfl (by simp [go_sem, hx, hx1] <;> rfl) call81 ((c_has (crK d k) (by omega) (d1 x.kids) (fun y hy => by have := crK_size hg k y hy; omega)) _ (by exact hgl)) (by simp [go_sem, hx, hx1] <;> rfl) (by simp [go_sem, hx, hx1]) rfl rfl ?_
   refine aLG 1 20 true (by simp [go_sem, hx, hx1] <;> rfl) ?_
   refine aL 1 (by simp [go_sem, hx, hx1] <;> rfl) ?_
   refine al_nil ?_
   refine awp_cond (by first | rfl | (simp [go_sem, hx, hx1] <;> rfl)) (fun h2 => ?_) (fun h2 => ?_)
   ·have hcs : crK d (k + 1) = crK d k ++ [d1 x.kids] := by rw [crK_next hx]; exact cstep_yes hic h2
    refine aR (by simp [go_sem, hx, hx1, hbb] <;> rfl) ?_
    refine aR (by simp [go_sem, hx, hx1, hbb] <;> rfl) ?_
    exact next_intro (k + 1) σ.objs.length (σ.toks.length + 1) 1 (hlt) (by omega) ⟨by simp [go_sem, hx, hx1, hbb, hw, hcs], rfl, by simp, by simp, by simp [go_sem, hx, hx1, hbb, hw, hcs], fun ob h => .inl (by simpa [go_sem, hx, hx1, hbb, hw, hcs] using h), by simp [go_sem]⟩
   ·have hcs : crK d (k + 1) = crK d k := by rw [crK_next hx]; exact cstep_seen h2
    refine awp_skip ?_
    refine aR (by simp [go_sem, hx, hx1] <;> rfl) ?_
    exact next_intro (k + 1) σ.objs.length (σ.toks.length + 1) 1 (hlt) (by omega) ⟨by simp [go_sem, hx, hx1, hw, hcs], rfl, by simp, by simp, by simp [go_sem, hx, hx1, hw, hcs], fun ob h => .inl (by simpa [go_sem, hx, hx1, hw, hcs] using h), by simp [go_sem]⟩
  ·have hic : isCall x = false := by rw [← hgx.isCall]; exact h1
   have hcs : crK d (k + 1) = crK d k := by rw [crK_next hx]; exact cstep_no hic
   refine aK 10 20 true ?_
   refine aL 1 (by simp [go_sem, hx] <;> rfl) ?_
   refine al_nil ?_
   refine awp_cond (b := false) (by simp [go_sem, hx, h0, h1]) (fun h => ?_) (fun h => ?_)
   ·cases h
   refine awp_skip ?_
   refine aR (by simp [go_sem, hx] <;> rfl) ?_
   exact next_intro (k + 1) σ.objs.length (σ.toks.length + 1) 1 (hlt) (by omega) ⟨by simp [go_sem, hx, hw, hcs], rfl, by simp, by simp, by simp [go_sem, hx, hw, hcs], fun ob h => .inl (by simpa [go_sem, hx, hw, hcs] using h), by simp [go_sem]⟩
 ·have hke : k = (exprsL d).length := by simp at h0; omega
  subst hke
  have hca := crK_calls hg
  refine awp_exit ?_
  refine then_exit ?_
  refine then_exit ?_
  refine inBlock_hit ?_
  refine awp_seq (aR (by simp [go_sem, hca] <;> rfl) ?_)
  refine awp_ret ?_
  refine ends_ret (by simp [go_sem, hca] <;> rfl) (by simp [go_sem]) ?_
  exact ⟨by simp [go_sem, hca], by simp [go_sem]⟩

set_option maxHeartbeats 1000000 in
theorem c_refReach (p : D) (R : Right p) : Pur Tryz.prog (GL kr) 38 [.pv (.slice ((rdefs p).map encDf))] (.pv (.slice (((reach p).map D.head).map enc))) := by
 have hsz := R.sz
 have hkl := D.kids_length_lt p
 obtain ⟨y0, hpk, hr0, hth⟩ := R.first
 have hrl := R.len
 refine pur_of fun σ hgl => ?_
 refine acalls_of tyOk Tryz.func38 rfl (by simp [Tryz.f38]) ?_
 refine awp_seq (aR (by simp [go_sem] <;> rfl) ?_)
 refine awp_seq (aR (by simp [go_sem, hpk, hth] <;> rfl) ?_)
 refine awp_seq (awp_seq (aR (by simp [go_sem, hpk, hth] <;> rfl) ?_))
 refine awp_adopt' 3 24 4 (by simp [go_sem] <;> rfl) ?_
 refine awp_block ?_
 refine awp_loop_headK σ.objs.length (σ.toks.length + 1) 0 [0, 2] (fun k : Nat => [(3, .acc (((rst p k).1.map D.head).map enc) σ.toks.length), (4, .pv (.int .i64 ↑k))]) (fun k => { σ with toks := σ.toks ++ [⟨(rst p k).1.length, 24, 4⟩] }) (fun k => k ≤ (rst p k).1.length) (fun k => p.kids.length - k) 0 (Nat.zero_le _) ⟨by simp [go_sem, hpk, hth, hr0, hth], rfl, by simp, by simp, by simp [go_sem, hpk, hth, hr0, hth], fun ob h => .inl (by simpa [go_sem, hpk, hth, hr0, hth] using h), by simp [go_sem]⟩ ?_
 intro k hk
 refine awp_seq (awp_seq (aR (by simp [go_sem, hpk, hth] <;> rfl) ?_))
 refine awp_cond (by first | rfl | (simp [go_sem, hpk, hth] <;> rfl)) (fun h0 => ?_) (fun h0 => ?_)
 ·have hlt : k < (rst p k).1.length := by simpa using h0
  have hkl2 := (rst_inv R k).len
  have hw : IntKind.i64.wrap (↑k + 1) = (k : Int) + 1 := wrap_succ (by omega)
  obtain ⟨x, hx, hxm⟩ := get_lt hlt
  have hxp := (rst_inv R k).mem x hxm
  obtain ⟨x0, x1, x2, ns, hkk, hns, htd, hxh, _, hd2, _⟩ := R.df hxp
  have hgx := R.good hxp
  rw [hd2] at hgx
  have hsx := D.size_kid_lt hxp
  have hsx2 := D.size_kid_lt (d := x) (k := x2) (by rw [hkk]; simp)
  obtain ⟨hfi0, hfi⟩ := R.findI hxp
  have hnx := rst_next hx
  rw [hd2] at hnx
  have hcl : (callsOf x2).length ≤ x2.size := by have := callsD_len x2 ([], []); simp only [List.length_nil, Nat.zero_add] at this; exact this
  have hkn := fun f hf => R.known (f := f) hxp (by rw [hd2]; exact hf)
  have hclab := callsOf_lab hgx
  refine awp_skip ?_
  refine awp_seq (awp_block ?_)
  refine awp_seq (awp_reg ?_)
  refine aL 6 (by simp [go_sem, hpk, hth, hx, hfi0, hfi, htd] <;> rfl) ?_
  refine aF call39 ((c_Find (rdefs p) (by omega) x.head (fun y hy => by have := (R.small y hy).1; omega)) _ (by exact hgl)) (by simp [go_sem, hpk, hth, hx, hfi0, hfi, htd] <;> rfl) (by simp [go_sem, hpk, hth, hx, hfi0, hfi, htd]) ?_
  refine aL 3 (by simp [go_sem, hpk, hth, hx, hfi0, hfi, htd] <;> rfl) ?_
  refine aF call40 ((c_refCalls x2 hgx (by omega)) _ (by exact hgl)) (by simp [go_sem, hpk, hth, hx, hfi0, hfi, htd] <;> rfl) (by simp [go_sem, hpk, hth, hx, hfi0, hfi, htd]) ?_
  refine aL 1 (by simp [go_sem, hpk, hth, hx, hfi0, hfi, htd] <;> rfl) ?_
  refine al_nil ?_
  refine awp_seq (aR (by simp [go_sem, hpk, hth, hx, hfi0, hfi, htd] <;> rfl) ?_)
  refine awp_block ?_
  refine awp_loop_headK σ.objs.length (σ.toks.length + 1) 0 [0, 2, 4, 5] (fun j : Nat => [(3, .acc (((rin p (rst p k) (callsOf x2) j).1.map D.head).map enc) σ.toks.length), (6, .pv (.int .i64 ↑j))]) (fun j => { σ with toks := σ.toks ++ [⟨(rin p (rst p k) (callsOf x2) j).1.length, 24, 4⟩] }) (fun j => j ≤ (callsOf x2).length) (fun j => (callsOf x2).length - j) 0 (Nat.zero_le _) ⟨by simp [go_sem, hpk, hth, hx, hfi0, hfi, htd, rin_zero], rfl, by simp, by simp, by simp [go_sem, hpk, hth, hx, hfi0, hfi, htd, rin_zero], fun ob h => .inl (by simpa [go_sem, hpk, hth, hx, hfi0, hfi, htd, rin_zero] using h), by simp [go_sem]⟩ ?_
  intro j hk
  refine awp_seq (awp_seq (aR (by simp [go_sem, hpk, hth, hx, hfi0, hfi, htd] <;> rfl) ?_))
  refine awp_cond (by first | rfl | (simp [go_sem, hpk, hth, hx, hfi0, hfi, htd] <;> rfl)) (fun h1 => ?_) (fun h1 => ?_)
  ·have hlt : j < (callsOf x2).length := by simp at h1; omega
   have hw : IntKind.i64.wrap (↑j + 1) = (j : Int) + 1 := wrap_succ (by omega)
   obtain ⟨y, hy, hym⟩ := get_lt hlt
   obtain ⟨e, he, hqe, hge⟩ := hkn y hym
   obtain ⟨hyl, hyf⟩ := hclab y hym
   have hri := rin_inv (rst_inv R k) hkn j
   have hrll := hri.len
   have hbb : ((rin p (rst p k) (callsOf x2) j).1.length + 1) * 56 ≤ 140737488355328 := by omega
   have hany := R.any_head hri hyl hyf
   have hel := R.label he
   have heh : e.head = y := (label_eq hyl hel.1 hyf hel.2 hqe).symm
   refine awp_skip ?_
   refine awp_seq (awp_block ?_)
   refine awp_seq (awp_reg ?_)
   refine aL 5 (by simp [go_sem, hpk, hth, hx, hfi0, hfi, htd, hy, hany, hbb] <;> rfl) ?_
   refine aF call81 ((c_has ((rin p (rst p k) (callsOf x2) j).1.map D.head) (by rw [List.length_map]; omega) y (fun z hz => by obtain ⟨w, hw, rfl⟩ := List.mem_map.1 hz; have := R.head_size (hri.mem w hw); omega)) _ (by exact hgl)) (by simp [go_sem, hpk, hth, hx, hfi0, hfi, htd, hy, hany, hbb] <;> rfl) (by simp [go_sem, hpk, hth, hx, hfi0, hfi, htd, hy, hany, hbb]) ?_
   refine aL 1 (by simp [go_sem, hpk, hth, hx, hfi0, hfi, htd, hy, hany, hbb] <;> rfl) ?_
   refine al_nil ?_
   refine awp_cond (by first | rfl | (simp [go_sem, hpk, hth, hx, hfi0, hfi, htd, hy, hany, hbb] <;> rfl)) (fun h2 => ?_) (fun h2 => ?_)
   ·have hrn : rin p (rst p k) (callsOf x2) (j + 1) = ((rin p (rst p k) (callsOf x2) j).1 ++ [e], kset (rin p (rst p k) (callsOf x2) j).2 y true) := by rw [rin_next hy]; exact reachStep_new (by simpa using h2) hge
    refine aR (by simp [go_sem, hpk, hth, hx, hfi0, hfi, htd, hy, hany, hbb, heh] <;> rfl) ?_
    refine aR (by simp [go_sem, hpk, hth, hx, hfi0, hfi, htd, hy, hany, hbb, heh] <;> rfl) ?_
    exact next_intro (j + 1) σ.objs.length (σ.toks.length + 1) 0 (hlt) (by omega) ⟨by simp [go_sem, hpk, hth, hx, hfi0, hfi, htd, hy, hany, hbb, heh, hw, hrn], rfl, by simp, by simp, by simp [go_sem, hpk, hth, hx, hfi0, hfi, htd, hy, hany, hbb, heh, hw, hrn], fun ob h => .inl (by simpa [go_sem, hpk, hth, hx, hfi0, hfi, htd, hy, hany, hbb, heh, hw, hrn] using h), by simp [go_sem]⟩
   ·have hrn : rin p (rst p k) (callsOf x2) (j + 1) = (rin p (rst p k) (callsOf x2) j) := by rw [rin_next hy]; exact reachStep_old (by simpa using h2)
    refine awp_skip ?_
    refine aR (by simp [go_sem, hpk, hth, hx, hfi0, hfi, htd, hy, hany, hbb] <;> rfl) ?_
    exact next_intro (j + 1) σ.objs.length (σ.toks.length + 1) 0 (hlt) (by omega) ⟨by simp [go_sem, hpk, hth, hx, hfi0, hfi, htd, hy, hany, hbb, hw, hrn], rfl, by simp, by simp, by simp [go_sem, hpk, hth, hx, hfi0, hfi, htd, hy, hany, hbb, hw, hrn], fun ob h => .inl (by simpa [go_sem, hpk, hth, hx, hfi0, hfi, htd, hy, hany, hbb, hw, hrn] using h), by simp [go_sem]⟩
  ·have hke : j = (callsOf x2).length := by simp at h1; omega
   subst hke
   have hout : rst p (k + 1) = rin p (rst p k) (callsOf x2) (callsOf x2).length := by rw [hnx, rin_all]
   refine awp_exit ?_
   refine then_exit ?_
   refine then_exit ?_
   refine inBlock_hit ?_
   refine aR (by simp [go_sem, hpk, hth, hx, hfi0, hfi, htd] <;> rfl) ?_
   exact next_intro (k + 1) σ.objs.length (σ.toks.length + 1) 0 (by have := rst_len hx; omega) (by have := (rst_inv R k).len; omega) ⟨by simp [go_sem, hpk, hth, hx, hfi0, hfi, htd, hw, hout], rfl, by simp, by simp, by simp [go_sem, hpk, hth, hx, hfi0, hfi, htd, hw, hout], fun ob h => .inl (by simpa [go_sem, hpk, hth, hx, hfi0, hfi, htd, hw, hout] using h), by simp [go_sem]⟩
 ·have hke : (rst p k).1.length ≤ k := by simpa using h0
  have hfin := reach_done hke (by have := (rst_inv R k).len; omega)
  refine awp_exit ?_
  refine then_exit ?_
  refine then_exit ?_
  refine inBlock_hit ?_
  refine awp_seq (aR (by simp [go_sem, hpk, hth] <;> rfl) ?_)
  refine awp_ret ?_
  refine ends_ret (by simp [go_sem] <;> rfl) (by simp [go_sem]) ?_
  exact ⟨by simp [go_sem, hfin], by simp [go_sem]⟩

end Go.Proofs.YtienmmfjjffjaaaGreatDoor

/- The table for runs that are told whole. -/
namespace Go.Proofs.YtienmmfjjffjaaaGreatDoor
open Go Go.Aw
variable {kr : ResO}
def dm : FuncId → Nat → Nat × List Nat × Bool
  | 3, 12 => (24, [], false)
  | 4, 1 => (6, [], false)
  | 4, 6 => (11, [], false)
  | 5, 13 => (6, [], false)
  | 5, 16 => (7, [], false)
  | 7, 1 => (6, [], false)
  | 8, 1 => (6, [], false)
  | 8, 17 => (24, [], false)
  | 10, 22 => (12, [], true)
  | 10, 26 => (11, [], true)
  | 12, 4 => (12, [], false)
  | 15, 6 => (10, [], true)
  | 16, 5 => (30, [], false)
  | 17, 6 => (8, [], true)
  | 18, 6 => (8, [], true)
  | 23, 5 => (20, [], false)
  | 24, 7 => (11, [], false)
  | 27, 2 => (4, [], false)
  | 28, 6 => (7, [], false)
  | 31, 14 => (7, [], false)
  | 32, 15 => (14, [], false)
  | 32, 20 => (9, [], false)
  | 33, 13 => (11, [], false)
  | 33, 15 => (5, [], false)
  | 33, 16 => (12, [], true)
  | 34, 14 => (15, [], true)
  | 36, 7 => (6, [], false)
  | 39, 4 => (6, [], true)
  | 44, 10 => (10, [], true)
  | 44, 21 => (9, [], true)
  | 47, 27 => (12, [], false)
  | 54, 6 => (7, [], false)
  | 61, 12 => (8, [], true)
  | 63, 6 => (22, [], false)
  | 76, 10 => (10, [], false)
  | 79, 2 => (13, [], true)
  | 79, 6 => (12, [], false)
  | 81, 4 => (5, [], true)
  | 89, 4 => (13, [], false)
  | 89, 10 => (10, [], false)
  | 94, 3 => (13, [], false)
  | 99, 1 => (5, [], false)
  | 100, 5 => (8, [], false)
  | 100, 7 => (16, [], false)
  | 102, 5 => (7, [], false)
  | 103, 4 => (5, [], true)
  | 113, 1 => (5, [], true)
  | 120, 10 => (11, [], true)
  | 121, 5 => (9, [], false)
  | 122, 4 => (5, [], true)
  | 122, 11 => (13, [], false)
  | 122, 13 => (13, [], false)
  | 129, 6 => (6, [], true)
  | 135, 7 => (13, [], true)
  | 135, 8 => (13, [], true)
  | 135, 9 => (13, [], true)
  | 135, 10 => (13, [], true)
  | 135, 17 => (13, [], true)
  | 135, 18 => (13, [], true)
  | 135, 23 => (13, [], true)
  | 137, 0 => (9, [], true)
  | 137, 1 => (8, [], true)
  | 137, 8 => (19, [], true)
  | 138, 3 => (9, [], true)
  | 138, 5 => (14, [], true)
  | 138, 16 => (9, [], false)
  | 138, 18 => (25, [], true)
  | 138, 19 => (7, [], false)
  | 148, 2 => (19, [], true)
  | 148, 4 => (9, [], true)
  | _, _ => (0, [], false)
def shT : FuncId → List Tmp
  | 120 => [13]
  | _ => []
def caL : List Nat := [2, 3, 4, 5, 6, 7, 8, 9, 10, 11, 12, 13, 14, 15, 16, 17, 18, 19, 20, 21, 22, 23, 24, 25, 26, 27, 28, 29, 30, 31, 32, 33, 34, 35, 36, 37, 38, 39, 40, 41, 42, 43, 44, 45, 46, 47, 48, 49, 50, 51, 52, 53, 54, 55, 56, 57, 58, 59, 60, 61, 62, 63, 64, 65, 66, 67, 68, 69, 70, 71, 72, 73, 74, 75, 76, 77, 78, 79, 80, 81, 82, 83, 84, 85, 86, 87, 88, 89, 90, 91, 92, 93, 94, 95, 96, 97, 98, 99, 100, 101, 102, 103, 104, 105, 106, 107, 108, 109, 110, 111, 112, 113, 114, 115, 116, 117, 118, 119, 120, 121, 122, 123, 124, 125, 126, 127, 128, 129, 130, 131, 132, 133, 134, 135, 136, 137, 138, 139, 140, 141, 142, 143, 144, 145, 146, 147, 148, 149, 150, 151, 152, 153]
theorem caOk : ∀ f, caL.contains f = true → Callable Tryz.prog f := by
  intro f h
  simp only [caL, List.contains_eq_mem, List.mem_cons, List.not_mem_nil, or_false, decide_eq_true_eq] at h
  rcases h with rfl | rfl | rfl | rfl | rfl | rfl | rfl | rfl | rfl | rfl | rfl | rfl | rfl | rfl | rfl | rfl | rfl | rfl | rfl | rfl | rfl | rfl | rfl | rfl | rfl | rfl | rfl | rfl | rfl | rfl | rfl | rfl | rfl | rfl | rfl | rfl | rfl | rfl | rfl | rfl | rfl | rfl | rfl | rfl | rfl | rfl | rfl | rfl | rfl | rfl | rfl | rfl | rfl | rfl | rfl | rfl | rfl | rfl | rfl | rfl | rfl | rfl | rfl | rfl | rfl | rfl | rfl | rfl | rfl | rfl | rfl | rfl | rfl | rfl | rfl | rfl | rfl | rfl | rfl | rfl | rfl | rfl | rfl | rfl | rfl | rfl | rfl | rfl | rfl | rfl | rfl | rfl | rfl | rfl | rfl | rfl | rfl | rfl | rfl | rfl | rfl | rfl | rfl | rfl | rfl | rfl | rfl | rfl | rfl | rfl | rfl | rfl | rfl | rfl | rfl | rfl | rfl | rfl | rfl | rfl | rfl | rfl | rfl | rfl | rfl | rfl | rfl | rfl | rfl | rfl | rfl | rfl | rfl | rfl | rfl | rfl | rfl | rfl | rfl | rfl | rfl | rfl | rfl | rfl | rfl | rfl | rfl | rfl | rfl | rfl | rfl | rfl
  · exact call2
  · exact call3
  · exact call4
  · exact call5
  · exact call6
  · exact call7
  · exact call8
  · exact call9
  · exact call10
  · exact call11
  · exact call12
  · exact call13
  · exact call14
  · exact call15
  · exact call16
  · exact call17
  · exact call18
  · exact call19
  · exact call20
  · exact call21
  · exact call22
  · exact call23
  · exact call24
  · exact call25
  · exact call26
  · exact call27
  · exact call28
  · exact call29
  · exact call30
  · exact call31
  · exact call32
  · exact call33
  · exact call34
  · exact call35
  · exact call36
  · exact call37
  · exact call38
  · exact call39
  · exact call40
  · exact call41
  · exact call42
  · exact call43
  · exact call44
  · exact call45
  · exact call46
  · exact call47
  · exact call48
  · exact call49
  · exact call50
  · exact call51
  · exact call52
  · exact call53
  · exact call54
  · exact call55
  · exact call56
  · exact call57
  · exact call58
  · exact call59
  · exact call60
  · exact call61
  · exact call62
  · exact call63
  · exact call64
  · exact call65
  · exact call66
  · exact call67
  · exact call68
  · exact call69
  · exact call70
  · exact call71
  · exact call72
  · exact call73
  · exact call74
  · exact call75
  · exact call76
  · exact call77
  · exact call78
  · exact call79
  · exact call80
  · exact call81
  · exact call82
  · exact call83
  · exact call84
  · exact call85
  · exact call86
  · exact call87
  · exact call88
  · exact call89
  · exact call90
  · exact call91
  · exact call92
  · exact call93
  · exact call94
  · exact call95
  · exact call96
  · exact call97
  · exact call98
  · exact call99
  · exact call100
  · exact call101
  · exact call102
  · exact call103
  · exact call104
  · exact call105
  · exact call106
  · exact call107
  · exact call108
  · exact call109
  · exact call110
  · exact call111
  · exact call112
  · exact call113
  · exact call114
  · exact call115
  · exact call116
  · exact call117
  · exact call118
  · exact call119
  · exact call120
  · exact call121
  · exact call122
  · exact call123
  · exact call124
  · exact call125
  · exact call126
  · exact call127
  · exact call128
  · exact call129
  · exact call130
  · exact call131
  · exact call132
  · exact call133
  · exact call134
  · exact call135
  · exact call136
  · exact call137
  · exact call138
  · exact call139
  · exact call140
  · exact call141
  · exact call142
  · exact call143
  · exact call144
  · exact call145
  · exact call146
  · exact call147
  · exact call148
  · exact call149
  · exact call150
  · exact call151
  · exact call152
  · exact call153
def orcT (f : FuncId) (args : List AV) : Option AV := match Nat.beq f 124, args with
  | true, [.pv (.int .u8 c)] => some (.pv (.bool (letter c)))
  | _, _ => none
theorem orcOk : ∀ f args r, orcT f args = some r → Pur Tryz.prog (GL kr) f args r := by
  intro f args r h
  unfold orcT at h
  split at h
  · rename_i c hf
    have := Nat.eq_of_beq_eq_true hf
    subst this
    cases h
    exact c_pagodaref01_Letter c
  · cases h
noncomputable def cfg : Cfg := ⟨Tryz.prog, ty, shT, dm, caL.contains, orcT⟩
theorem cfgOk : CfgOk cfg (GL kr) := ⟨tyOk, tySz, caOk, orcOk⟩
def exD : D := dlist [dlist [dsym ⟨#[102]⟩, dlist [dsym ⟨#[120]⟩], dlist [dsym ⟨#[105, 102]⟩, dlist [dsym ⟨#[61]⟩, dsym ⟨#[120]⟩, dlist [dsym ⟨#[113, 117, 111, 116, 101]⟩, dlist []]], dnum 0, dlist [dsym ⟨#[43]⟩, dnum 1, dlist [dsym ⟨#[99, 97, 108, 108]⟩, dsym ⟨#[102]⟩, dlist [dsym ⟨#[114, 101, 115, 116]⟩, dsym ⟨#[120]⟩]]]]]]
theorem c_example : PurAt Tryz.prog ⟨(GL kr), [], []⟩ 51 [] (.pv (enc exD)) := purAt_eval (n := 100000) cfgOk (by kernel_rfl)
end Go.Proofs.YtienmmfjjffjaaaGreatDoor

/- The example, alive. -/
namespace Go.Proofs.YtienmmfjjffjaaaGreatDoor
open Go Go.Aw
variable {kr : ResO}
def exC : D := dlist [dlist [dnum 0, dlist [dsym ⟨#[120]⟩], dlist [dsym ⟨#[105, 102]⟩, dlist [dsym ⟨#[61]⟩, dsym ⟨#[120]⟩, dlist [dsym ⟨#[113, 117, 111, 116, 101]⟩, dlist []]], dnum 0, dlist [dsym ⟨#[43]⟩, dnum 1, dlist [dsym ⟨#[99, 97, 108, 108]⟩, dnum 0, dlist [dsym ⟨#[114, 101, 115, 116]⟩, dsym ⟨#[120]⟩]]]]]]
theorem ex_size : exD.size ≤ 100 := Nat.le_of_ble_eq_true (by kernel_rfl)
theorem ex_check : fcheck exD = 0 := by kernel_rfl
theorem ex_Size : fSize exD = (10, 0) := by kernel_rfl
theorem ex_canon : fcanon exD = (exC, 0) := by kernel_rfl
theorem ex_reach : fReach exD = ([dsym ⟨#[102]⟩], 0) := by kernel_rfl
theorem ex_none : fcheck (dlist []) = 4 := by kernel_rfl
theorem ex_kids : ∃ c0 r, exC.kids = [c0] ∧ c0.kids = dnum 0 :: r := ⟨_, _, rfl, rfl⟩
set_option maxHeartbeats 1000000 in
theorem c_alive_of (σ : Store) (hgl : σ.gl = (GL kr)) (x c c0 z u : D) (l : List D) (y : D) (hE : PurAt Tryz.prog σ 51 [] (.pv (enc x))) (hes : x.size ≤ 100) (h1 : fcheck x = 0) (h2 : fSize x = (10, 0)) (h3 : fcanon x = (c, 0)) (h4 : fReach x = ([y], 0)) (hc1 : c.kids = [c0]) (hc3 : c0.kids[0]? = some u) (hu : u.size ≤ 100) (hN : Pur Tryz.prog (GL kr) 26 [.pv (.int .i64 0)] (.pv (enc u))) (hc4 : deq u u = true) (hz : enc z = .agg [.int .i64 3, .int .i64 0, .str ⟨#[]⟩, .slice []]) (hzs : z.size ≤ 100) (h5 : fcheck z = 4) : PurAt Tryz.prog σ 16 [] (.pv (.bool true)) := by
 refine purAt_of ?_
 refine acalls_of tyOk Tryz.func16 rfl (by simp [Tryz.f16]) ?_
 refine awp_seq (aR (by simp [go_sem, h1, h2, h3, h4, h5, hc1, hc3, hc4] <;> rfl) ?_)
 refine awp_seq (awp_reg ?_)
 refine aF call51 (hE) (by simp [go_sem, h1, h2, h3, h4, h5, hc1, hc3, hc4] <;> rfl) (by simp [go_sem, h1, h2, h3, h4, h5, hc1, hc3, hc4]) ?_
 refine aL 2 (by simp [go_sem, h1, h2, h3, h4, h5, hc1, hc3, hc4] <;> rfl) ?_
 refine al_nil ?_
 refine awp_seq (awp_reg ?_)
 refine aL 1 (by simp [go_sem, h1, h2, h3, h4, h5, hc1, hc3, hc4] <;> rfl) ?_
 refine aF call14 ((c_flat_Size x (by omega)) _ (by exact hgl)) (by simp [go_sem, h1, h2, h3, h4, h5, hc1, hc3, hc4] <;> rfl) (by simp [go_sem, h1, h2, h3, h4, h5, hc1, hc3, hc4]) ?_
 refine aL 5 (by simp [go_sem, h1, h2, h3, h4, h5, hc1, hc3, hc4] <;> rfl) ?_
 refine al_nil ?_
 refine awp_seq (awp_reg ?_)
 refine aL 1 (by simp [go_sem, h1, h2, h3, h4, h5, hc1, hc3, hc4] <;> rfl) ?_
 refine aF call21 ((c_flat_Canon x (by omega)) _ (by exact hgl)) (by simp [go_sem, h1, h2, h3, h4, h5, hc1, hc3, hc4] <;> rfl) (by simp [go_sem, h1, h2, h3, h4, h5, hc1, hc3, hc4]) ?_
 refine aL 6 (by simp [go_sem, h1, h2, h3, h4, h5, hc1, hc3, hc4] <;> rfl) ?_
 refine al_nil ?_
 refine awp_seq (awp_reg ?_)
 refine aL 1 (by simp [go_sem, h1, h2, h3, h4, h5, hc1, hc3, hc4] <;> rfl) ?_
 refine aF call25 ((c_flat_Reach x (by omega)) _ (by exact hgl)) (by simp [go_sem, h1, h2, h3, h4, h5, hc1, hc3, hc4] <;> rfl) (by simp [go_sem, h1, h2, h3, h4, h5, hc1, hc3, hc4]) ?_
 refine aL 5 (by simp [go_sem, h1, h2, h3, h4, h5, hc1, hc3, hc4] <;> rfl) ?_
 refine al_nil ?_
 refine awp_seq (awp_regDC tyOk tySz 30 (drawOk_of (by kernel_rfl)) (by decide) ?_)
 refine ul_run 1 (by simp [go_sem, h1, h2, h3, h4, h5, hc1, hc3, hc4] <;> rfl) ?_
 refine ul_fn (by first | (intro _ _ hh; exact hh) | simp [go_sem]) rfl rfl rfl rfl (by simp [go_sem, h1, h2, h3, h4, h5, hc1, hc3, hc4] <;> rfl) call11 ((c_flat_Check x (by omega)) _ (by exact hgl)) (by simp [go_sem, h1, h2, h3, h4, h5, hc1, hc3, hc4] <;> rfl) (by simp [go_sem, h1, h2, h3, h4, h5, hc1, hc3, hc4]) rfl rfl ?_
 refine ul_run 2 (by simp [go_sem, h1, h2, h3, h4, h5, hc1, hc3, hc4] <;> rfl) ?_
 refine ul_splitT 27 (by first | rfl | (simp [go_sem, h1, h2, h3, h4, h5, hc1, hc3, hc4] <;> rfl)) (fun h20 => ?_) (fun h20 => ?_)
 ·refine ul_runG 2 27 true true (by simp [go_sem]) rfl (by simp [go_sem]) rfl rfl (by simp [go_sem, h1, h2, h3, h4, h5, hc1, hc3, hc4] <;> rfl) ?_
  refine ul_run 2 (by simp [go_sem, h1, h2, h3, h4, h5, hc1, hc3, hc4] <;> rfl) ?_
  refine ul_splitT 31 (by first | rfl | (simp [go_sem, h1, h2, h3, h4, h5, hc1, hc3, hc4] <;> rfl)) (fun h21 => ?_) (fun h21 => ?_)
  ·refine ul_runG 2 31 true true (by simp [go_sem]) rfl (by simp [go_sem]) rfl rfl (by simp [go_sem, h1, h2, h3, h4, h5, hc1, hc3, hc4] <;> rfl) ?_
   refine ul_run 2 (by simp [go_sem, h1, h2, h3, h4, h5, hc1, hc3, hc4] <;> rfl) ?_
   refine ul_splitT 35 (by first | rfl | (simp [go_sem, h1, h2, h3, h4, h5, hc1, hc3, hc4] <;> rfl)) (fun h22 => ?_) (fun h22 => ?_)
   ·refine ul_runG 2 35 true true (by simp [go_sem]) rfl (by simp [go_sem]) rfl rfl (by simp [go_sem, h1, h2, h3, h4, h5, hc1, hc3, hc4] <;> rfl) ?_
    refine ul_run 2 (by simp [go_sem, h1, h2, h3, h4, h5, hc1, hc3, hc4] <;> rfl) ?_
    refine ul_splitT 39 (by first | rfl | (simp [go_sem, h1, h2, h3, h4, h5, hc1, hc3, hc4] <;> rfl)) (fun h23 => ?_) (fun h23 => ?_)
    ·refine ul_runG 4 39 true true (by simp [go_sem]) rfl (by simp [go_sem]) rfl rfl (by simp [go_sem, h1, h2, h3, h4, h5, hc1, hc3, hc4] <;> rfl) ?_
     refine ul_run 2 (by simp [go_sem, h1, h2, h3, h4, h5, hc1, hc3, hc4] <;> rfl) ?_
     refine ul_splitT 45 (by first | rfl | (simp [go_sem, h1, h2, h3, h4, h5, hc1, hc3, hc4] <;> rfl)) (fun h24 => ?_) (fun h24 => ?_)
     ·refine ul_runG 7 45 true true (by simp [go_sem]) rfl (by simp [go_sem]) rfl rfl (by simp [go_sem, h1, h2, h3, h4, h5, hc1, hc3, hc4] <;> rfl) ?_
      refine ul_fnG 45 true true (by simp [go_sem]) rfl (by first | (intro _ _ hh; exact hh) | simp [go_sem]) (by simp [go_sem]) rfl rfl rfl (by simp [go_sem, h1, h2, h3, h4, h5, hc1, hc3, hc4] <;> rfl) call26 ((hN) _ (by exact hgl)) (by simp [go_sem, h1, h2, h3, h4, h5, hc1, hc3, hc4] <;> rfl) (by simp [go_sem, h1, h2, h3, h4, h5, hc1, hc3, hc4]) rfl rfl ?_
      refine ul_nil ?_
      refine al_fnG 45 true true (by simp [go_sem]) rfl (by simp [go_sem]) rfl rfl (by simp [go_sem, h1, h2, h3, h4, h5, hc1, hc3, hc4] <;> rfl) call15 ((c_Same u (by omega) u) _ (by exact hgl)) (by simp [go_sem, h1, h2, h3, h4, h5, hc1, hc3, hc4] <;> rfl) (by simp [go_sem, h1, h2, h3, h4, h5, hc1, hc3, hc4]) rfl rfl ?_
      refine aL 2 (by simp [go_sem, h1, h2, h3, h4, h5, hc1, hc3, hc4] <;> rfl) ?_
      refine al_splitT 56 (by first | rfl | (simp [go_sem, h1, h2, h3, h4, h5, hc1, hc3, hc4] <;> rfl)) (fun h25 => ?_) (fun h25 => ?_)
      ·refine aLG 2 56 true (by simp [go_sem, h1, h2, h3, h4, h5, hc1, hc3, hc4] <;> rfl) ?_
       refine aL 2 (by simp [go_sem, h1, h2, h3, h4, h5, hc1, hc3, hc4] <;> rfl) ?_
       refine al_splitT 60 (by first | rfl | (simp [go_sem, h1, h2, h3, h4, h5, hc1, hc3, hc4] <;> rfl)) (fun h26 => ?_) (fun h26 => ?_)
       ·refine aLG 3 60 true (by simp [go_sem, h1, h2, h3, h4, h5, hc1, hc3, hc4] <;> rfl) ?_
        refine aL 2 (by simp [go_sem, h1, h2, h3, h4, h5, hc1, hc3, hc4] <;> rfl) ?_
        refine al_splitT 65 (by first | rfl | (simp [go_sem, h1, h2, h3, h4, h5, hc1, hc3, hc4] <;> rfl)) (fun h27 => ?_) (fun h27 => ?_)
        ·refine aLG 1 65 true (by simp [go_sem, h1, h2, h3, h4, h5, hc1, hc3, hc4] <;> rfl) ?_
         refine al_fnG 65 true true (by simp [go_sem]) rfl (by simp [go_sem]) rfl rfl (by simp [go_sem, h1, h2, h3, h4, h5, hc1, hc3, hc4] <;> rfl) call11 ((c_flat_Check z (by omega)) _ (by exact hgl)) (by simp [go_sem, h1, h2, h3, h4, h5, hc1, hc3, hc4] <;> rfl) (by simp [go_sem, h1, h2, h3, h4, h5, hc1, hc3, hc4, hz]) rfl rfl ?_
         refine aLG 1 65 true (by simp [go_sem, h1, h2, h3, h4, h5, hc1, hc3, hc4] <;> rfl) ?_
         refine aL 2 (by simp [go_sem, h1, h2, h3, h4, h5, hc1, hc3, hc4] <;> rfl) ?_
         refine al_nil ?_
         refine awp_ret ?_
         refine ends_ret (by simp [go_sem] <;> rfl) (by simp [go_sem]) ?_
         exact ⟨by simp [go_sem], by simp [go_sem]⟩
        ·cases h27
       ·cases h26
      ·cases h25
     ·cases h24
    ·cases h23
   ·cases h22
  ·cases h21
 ·cases h20

theorem c_alive (σ : Store) (hσ : σ = ⟨(GL kr), [], []⟩) : PurAt Tryz.prog σ 16 [] (.pv (.bool true)) := by
  obtain ⟨c0, r, hc1, hc2⟩ := ex_kids
  subst hσ
  exact c_alive_of _ rfl exD exC c0 (dlist []) (dnum 0) [] _ c_example ex_size ex_check ex_Size ex_canon ex_reach hc1 (by rw [hc2]; rfl) (Nat.le_of_ble_eq_true rfl) (c_pagodaref01_Num 0) (deq_refl _) (enc_list []) (Nat.le_of_ble_eq_true rfl) ex_none

end Go.Proofs.YtienmmfjjffjaaaGreatDoor

/- FlatChecks. -/
namespace Go.Proofs.YtienmmfjjffjaaaGreatDoor
open Go Go.Aw
variable {kr : ResO}
end Go.Proofs.YtienmmfjjffjaaaGreatDoor

/- FlatDefs. -/
namespace Go.Proofs.YtienmmfjjffjaaaGreatDoor
open Go Go.Aw
variable {kr : ResO}
end Go.Proofs.YtienmmfjjffjaaaGreatDoor

/- The specification: other labels, programs as data, Canon. -/
namespace Go.Proofs.YtienmmfjjffjaaaGreatDoor
open Go Go.Aw
variable {kr : ResO}
set_option maxHeartbeats 1000000 in
theorem c_relabelled (ls : List D) (hl : ls.length ≤ 1000000000) (hls : ∀ y, y ∈ ls → y.size ≤ 1000000000) (d : D) : ∀ (hg : GoodE d) (hd : d.size ≤ 1000000000), Pur Tryz.prog (GL kr) 61 [.pv (enc d), .pv (.slice (ls.map enc))] (.pv (enc (rexpr (labF ls) id false d))) := by
 induction d using D.ind with
 | _ kind num text kids ih =>
 generalize hD : D.mk kind num text kids = d at *
 have hk : d.kids = kids := by rw [← hD]; rfl
 clear hD
 subst hk
 have hkl := D.kids_length_lt d
 intro hg hd
 refine pur_of fun σ hgl => ?_
 refine acalls_of tyOk Tryz.func61 rfl (by simp [Tryz.f61]) ?_
 refine awp_seq (aR (by simp [go_sem] <;> rfl) ?_)
 refine awp_seq (awp_seq (awp_reg ?_))
 refine aL 4 (by simp [go_sem] <;> rfl) ?_
 refine al_splitT 12 (by first | rfl | (simp [go_sem] <;> rfl)) (fun h0 => ?_) (fun h0 => ?_)
 ·refine aK 3 12 false ?_
  refine aL 1 (by simp [go_sem] <;> rfl) ?_
  refine al_nil ?_
  refine awp_cond (b := true) (by simp [go_sem, h0]) (fun h => ?_) (fun h => ?_)
  rotate_left
  ·cases h
  refine awp_seq (aR (by simp [go_sem] <;> rfl) ?_)
  refine awp_ret ?_
  refine then_ret ?_
  refine ends_ret (by simp [go_sem] <;> rfl) (by simp [go_sem]) ?_
  have hs : rexpr (labF ls) id false d = d := rexpr_leaf hg (by first | exact .inl (by simpa using h0) | exact .inr (of_decide_eq_true h0))
  exact ⟨by simp [go_sem, hs], by simp [go_sem]⟩
 ·have hk3 : d.kind = 3 := by simpa using h0
  refine aLG 1 12 false (by simp [go_sem] <;> rfl) ?_
  refine al_fnG 12 false false (by simp [go_sem]) rfl (by simp [go_sem]) rfl rfl (by simp [go_sem] <;> rfl) call82 ((c_Word d) _ (by exact hgl)) (by simp [go_sem] <;> rfl) (by simp [go_sem]) rfl rfl ?_
  refine aLG 1 12 false (by simp [go_sem] <;> rfl) ?_
  refine aL 1 (by simp [go_sem] <;> rfl) ?_
  refine al_nil ?_
  refine awp_cond (by first | rfl | (simp [go_sem] <;> rfl)) (fun h1 => ?_) (fun h1 => ?_)
  ·refine awp_seq ?_
   refine aR (by simp [go_sem] <;> rfl) ?_
   refine awp_ret ?_
   refine then_ret ?_
   refine ends_ret (by simp [go_sem] <;> rfl) (by simp [go_sem]) ?_
   have hs : rexpr (labF ls) id false d = d := rexpr_leaf hg (by first | exact .inl (by simpa using h1) | exact .inr (of_decide_eq_true h1))
   exact ⟨by simp [go_sem, hs], by simp [go_sem]⟩
  ·have hq : decide (word d = sQuote) = false := h1
   have hsp := rexpr_list (lab := labF ls) hg hk3 hq
   refine awp_skip ?_
   refine awp_seq (aR (by simp [go_sem] <;> rfl) ?_)
   refine awp_seq (awp_seq (aR (by simp [go_sem] <;> rfl) ?_))
   refine awp_adopt' 5 24 4 (by simp [go_sem] <;> rfl) ?_
   refine awp_block ?_
   refine awp_loop_headK σ.objs.length (σ.toks.length + 1) 2 [1, 2, 4] (fun k : Nat => [(5, .acc ((outR (labF ls) d k).map enc) σ.toks.length), (6, .pv (.int .i64 ↑k))]) (fun k => { σ with toks := σ.toks ++ [⟨k, 24, 4⟩] }) (fun k => k ≤ d.kids.length) (fun k => d.kids.length - k) 0 (Nat.zero_le _) ⟨by simp [go_sem, outR_zero], rfl, by simp, by simp, by simp [go_sem, outR_zero], fun ob h => .inl (by simpa [go_sem, outR_zero] using h), by simp [go_sem]⟩ ?_
   intro k hk
   refine awp_seq (awp_seq (aR (by simp [go_sem] <;> rfl) ?_))
   refine awp_cond (by first | rfl | (simp [go_sem] <;> rfl)) (fun h2 => ?_) (fun h2 => ?_)
   ·have hlt : k < d.kids.length := by simp at h2; omega
    have hw : IntKind.i64.wrap (↑k + 1) = (k : Int) + 1 := wrap_succ (by omega)
    obtain ⟨x, hx, hxm⟩ := get_lt hlt
    have hon := outR_next (lab := labF ls) hx
    have hol := outR_len (lab := labF ls) hk
    have hbb : (k + 1) * 56 ≤ 140737488355328 := by omega
    refine awp_skip ?_
    refine awp_seq (awp_block ?_)
    refine awp_seq (aR (by simp [go_sem, hx, hol, hbb] <;> rfl) ?_)
    refine awp_seq (awp_seq (awp_reg ?_))
    refine aL 3 (by simp [go_sem, hx, hol, hbb] <;> rfl) ?_
    refine al_splitT 32 (by first | rfl | (simp [go_sem, hx, hol, hbb] <;> rfl)) (fun h3 => ?_) (fun h3 => ?_)
    ·have hk1 : k = 1 := by have := h3; simp only [beq_iff_eq] at this; omega
     have hx1 : d.kids[1]? = some x := by rw [← hk1]; exact hx
     refine aLG 1 32 true (by simp [go_sem, hx, hol, hbb, hx1] <;> rfl) ?_
     refine al_fnG 32 true true (by simp [go_sem]) rfl (by simp [go_sem]) rfl rfl (by simp [go_sem, hx, hol, hbb, hx1] <;> rfl) call82 ((c_Word d) _ (by exact hgl)) (by simp [go_sem, hx, hol, hbb, hx1] <;> rfl) (by simp [go_sem, hx, hol, hbb, hx1]) rfl rfl ?_
     refine aLG 1 32 true (by simp [go_sem, hx, hol, hbb, hx1] <;> rfl) ?_
     refine aL 1 (by simp [go_sem, hx, hol, hbb, hx1] <;> rfl) ?_
     refine al_nil ?_
     refine awp_cond (by first | rfl | (simp [go_sem, hx, hol, hbb, hx1] <;> rfl)) (fun h4 => ?_) (fun h4 => ?_)
     ·have hwc : word d = sCall := of_decide_eq_true h4
      have hrel : relI (labF ls) d k x = labK ls x ls.length := by unfold relI; rw [if_neg (by omega), if_pos ⟨hk1, hwc⟩]; rfl
      refine awp_seq (aR (by simp [go_sem, hx, hol, hbb, hx1] <;> rfl) ?_)
      refine awp_block ?_
      refine awp_loop_headKL σ.objs.length (σ.toks.length + 1) 3 [1, 2, 4, 5, 6, 7] (fun n : Nat => [(8, .pv (.int .i64 ↑n))]) (fun n : Nat => [[.pv (.int .i64 d.kind), .pv (.int .i64 d.num), .pv (.str d.text), .pv (.slice (d.kids.map enc))], [.pv (.int .i64 0), .pv (.int .i64 0), .pv (.str ⟨#[]⟩), .pv .nils], [.pv (.int .i64 (labK ls x n).kind), .pv (.int .i64 (labK ls x n).num), .pv (.str (labK ls x n).text), .pv (.slice ((labK ls x n).kids.map enc))]]) (fun n => { σ with toks := σ.toks ++ [⟨k, 24, 4⟩] }) (fun n => n ≤ ls.length) (fun n => ls.length - n) 0 (Nat.zero_le _) ⟨by simp [go_sem, hx, hol, hbb, hx1, labK], by simp [go_sem, hx, hol, hbb, hx1, labK], by simp, by simp, by simp [go_sem, hx, hol, hbb, hx1, labK], fun ob h => .inl (by simpa [go_sem, hx, hol, hbb, hx1, labK] using h), by simp [go_sem]⟩ ?_
      intro n hk
      refine awp_seq (awp_seq (aR (by simp [go_sem, hx, hol, hbb, hx1] <;> rfl) ?_))
      refine awp_cond (by first | rfl | (simp [go_sem, hx, hol, hbb, hx1] <;> rfl)) (fun h5 => ?_) (fun h5 => ?_)
      ·have hlt : n < ls.length := by simp at h5; omega
       have hw : IntKind.i64.wrap (↑n + 1) = (n : Int) + 1 := wrap_succ (by omega)
       obtain ⟨z, hz, hzm⟩ := get_lt hlt
       refine awp_skip ?_
       refine awp_seq (awp_block ?_)
       refine awp_seq (awp_regDP tyOk tySz 8 (by kernel_rfl) (by decide) ?_)
       refine ul_run 8 (by simp [go_sem, hx, hol, hbb, hx1, hz] <;> rfl) ?_
       refine ul_nil ?_
       refine aF call15 ((c_Same z (hls z hzm) x) _ (by exact hgl)) (by simp [go_sem, hx, hol, hbb, hx1, hz] <;> rfl) (by simp [go_sem, hx, hol, hbb, hx1, hz]) ?_
       refine al_nil ?_
       refine awp_cond (by first | rfl | (simp [go_sem, hx, hol, hbb, hx1, hz] <;> rfl)) (fun h6 => ?_) (fun h6 => ?_)
       ·have hln := labK_yes hz h6
        refine awp_reg ?_
        refine aL 1 (by simp [go_sem, hx, hol, hbb, hx1, hz] <;> rfl) ?_
        refine aF call26 ((c_pagodaref01_Num n) _ (by exact hgl)) (by simp [go_sem, hx, hol, hbb, hx1, hz] <;> rfl) (by simp [go_sem, hx, hol, hbb, hx1, hz]) ?_
        refine aL 1 (by simp [go_sem, hx, hol, hbb, hx1, hz] <;> rfl) ?_
        refine al_nil ?_
        refine aR (by simp [go_sem, hx, hol, hbb, hx1, hz] <;> rfl) ?_
        exact next_intro (n + 1) σ.objs.length (σ.toks.length + 1) 3 (hlt) (by omega) ⟨by simp [go_sem, hx, hol, hbb, hx1, hz, hw, hln], by simp [go_sem, hx, hol, hbb, hx1, hz, hw, hln], by simp, by simp, by simp [go_sem, hx, hol, hbb, hx1, hz, hw, hln], fun ob h => .inl (by simpa [go_sem, hx, hol, hbb, hx1, hz, hw, hln] using h), by simp [go_sem]⟩
       ·have hln := labK_no hz h6
        refine awp_skip ?_
        refine aR (by simp [go_sem, hx, hol, hbb, hx1, hz] <;> rfl) ?_
        exact next_intro (n + 1) σ.objs.length (σ.toks.length + 1) 3 (hlt) (by omega) ⟨by simp [go_sem, hx, hol, hbb, hx1, hz, hw, hln], by simp [go_sem, hx, hol, hbb, hx1, hz, hw, hln], by simp, by simp, by simp [go_sem, hx, hol, hbb, hx1, hz, hw, hln], fun ob h => .inl (by simpa [go_sem, hx, hol, hbb, hx1, hz, hw, hln] using h), by simp [go_sem]⟩
      ·have hke : n = ls.length := by simp at h5; omega
       subst hke
       refine awp_exit ?_
       refine then_exit ?_
       refine then_exit ?_
       refine inBlock_hit ?_
       refine aR (by simp [go_sem, hx, hol, hbb, hx1] <;> rfl) ?_
       refine aR (by simp [go_sem, hx, hol, hbb, hx1] <;> rfl) ?_
       exact next_intro (k + 1) σ.objs.length (σ.toks.length + 1) 2 (hlt) (by omega) ⟨by simp [go_sem, hx, hol, hbb, hx1, hw, hon, hrel], rfl, by simp, by simp, by simp [go_sem, hx, hol, hbb, hx1, hw, hon, hrel], fun ob h => .inl (by simpa [go_sem, hx, hol, hbb, hx1, hw, hon, hrel] using h), by simp [go_sem]⟩
     ·have hwc : ¬ word d = sCall := of_decide_eq_false h4
      refine awp_seq (aR (by simp [go_sem, hx, hol, hbb, hx1] <;> rfl) ?_)
      refine awp_cond (by first | rfl | (simp [go_sem, hx, hol, hbb, hx1] <;> rfl)) (fun h7 => ?_) (fun h7 => ?_)
      ·have hk0 : 0 < k := by simpa using h7
       obtain ⟨k1, hkk⟩ : ∃ k1, k = k1 + 1 := ⟨k - 1, by omega⟩
       have hgx : GoodE x := hg.kid (i := k1) hk3 hq (by rw [← hkk]; exact hx) (fun h => by first | exact hwc h.2 | exact hk1 (by omega))
       have hrel : relI (labF ls) d k x = rexpr (labF ls) id false x := by unfold relI; rw [if_neg (by omega), if_neg (fun h => by first | exact hwc h.2 | exact hk1 h.1)]
       refine awp_reg ?_
       refine aL 2 (by simp [go_sem, hx, hol, hbb, hx1] <;> rfl) ?_
       refine aF call61 ((ih x hxm hgx (by have := D.size_kid_lt hxm; omega)) _ (by exact hgl)) (by simp [go_sem, hx, hol, hbb, hx1] <;> rfl) (by simp [go_sem, hx, hol, hbb, hx1]) ?_
       refine aL 1 (by simp [go_sem, hx, hol, hbb, hx1] <;> rfl) ?_
       refine al_nil ?_
       refine aR (by simp [go_sem, hx, hol, hbb, hx1] <;> rfl) ?_
       refine aR (by simp [go_sem, hx, hol, hbb, hx1] <;> rfl) ?_
       exact next_intro (k + 1) σ.objs.length (σ.toks.length + 1) 2 (hlt) (by omega) ⟨by simp [go_sem, hx, hol, hbb, hx1, hw, hon, hrel], rfl, by simp, by simp, by simp [go_sem, hx, hol, hbb, hx1, hw, hon, hrel], fun ob h => .inl (by simpa [go_sem, hx, hol, hbb, hx1, hw, hon, hrel] using h), by simp [go_sem]⟩
      ·have hk0 : k = 0 := by have := h7; simp at this; omega
       have hrel : relI (labF ls) d k x = x := by unfold relI; rw [if_pos hk0]
       refine awp_skip ?_
       refine aR (by simp [go_sem, hx, hol, hbb, hx1] <;> rfl) ?_
       refine aR (by simp [go_sem, hx, hol, hbb, hx1] <;> rfl) ?_
       exact next_intro (k + 1) σ.objs.length (σ.toks.length + 1) 2 (hlt) (by omega) ⟨by simp [go_sem, hx, hol, hbb, hx1, hw, hon, hrel], rfl, by simp, by simp, by simp [go_sem, hx, hol, hbb, hx1, hw, hon, hrel], fun ob h => .inl (by simpa [go_sem, hx, hol, hbb, hx1, hw, hon, hrel] using h), by simp [go_sem]⟩
    ·have hk1 : k ≠ 1 := by have := h3; simp only [beq_eq_false_iff_ne] at this; omega
     refine aK 3 32 true ?_
     refine aL 1 (by simp [go_sem, hx, hol, hbb] <;> rfl) ?_
     refine al_nil ?_
     refine awp_cond (b := false) (by simp [go_sem, hx, hol, hbb, h0, h1, h2, h3]) (fun h => ?_) (fun h => ?_)
     ·cases h
     refine awp_seq (aR (by simp [go_sem, hx, hol, hbb] <;> rfl) ?_)
     refine awp_cond (by first | rfl | (simp [go_sem, hx, hol, hbb] <;> rfl)) (fun h8 => ?_) (fun h8 => ?_)
     ·have hk0 : 0 < k := by simpa using h8
      obtain ⟨k1, hkk⟩ : ∃ k1, k = k1 + 1 := ⟨k - 1, by omega⟩
      have hgx : GoodE x := hg.kid (i := k1) hk3 hq (by rw [← hkk]; exact hx) (fun h => by first | exact hwc h.2 | exact hk1 (by omega))
      have hrel : relI (labF ls) d k x = rexpr (labF ls) id false x := by unfold relI; rw [if_neg (by omega), if_neg (fun h => by first | exact hwc h.2 | exact hk1 h.1)]
      refine awp_reg ?_
      refine aL 2 (by simp [go_sem, hx, hol, hbb] <;> rfl) ?_
      refine aF call61 ((ih x hxm hgx (by have := D.size_kid_lt hxm; omega)) _ (by exact hgl)) (by simp [go_sem, hx, hol, hbb] <;> rfl) (by simp [go_sem, hx, hol, hbb]) ?_
      refine aL 1 (by simp [go_sem, hx, hol, hbb] <;> rfl) ?_
      refine al_nil ?_
      refine aR (by simp [go_sem, hx, hol, hbb] <;> rfl) ?_
      refine aR (by simp [go_sem, hx, hol, hbb] <;> rfl) ?_
      exact next_intro (k + 1) σ.objs.length (σ.toks.length + 1) 2 (hlt) (by omega) ⟨by simp [go_sem, hx, hol, hbb, hw, hon, hrel], rfl, by simp, by simp, by simp [go_sem, hx, hol, hbb, hw, hon, hrel], fun ob h => .inl (by simpa [go_sem, hx, hol, hbb, hw, hon, hrel] using h), by simp [go_sem]⟩
     ·have hk0 : k = 0 := by have := h8; simp at this; omega
      have hrel : relI (labF ls) d k x = x := by unfold relI; rw [if_pos hk0]
      refine awp_skip ?_
      refine aR (by simp [go_sem, hx, hol, hbb] <;> rfl) ?_
      refine aR (by simp [go_sem, hx, hol, hbb] <;> rfl) ?_
      exact next_intro (k + 1) σ.objs.length (σ.toks.length + 1) 2 (hlt) (by omega) ⟨by simp [go_sem, hx, hol, hbb, hw, hon, hrel], rfl, by simp, by simp, by simp [go_sem, hx, hol, hbb, hw, hon, hrel], fun ob h => .inl (by simpa [go_sem, hx, hol, hbb, hw, hon, hrel] using h), by simp [go_sem]⟩
   ·have hke : k = d.kids.length := by simp at h2; omega
    subst hke
    have hoa := outR_all (lab := labF ls) (d := d)
    refine awp_exit ?_
    refine then_exit ?_
    refine then_exit ?_
    refine inBlock_hit ?_
    refine awp_seq (awp_reg ?_)
    refine aL 1 (by simp [go_sem] <;> rfl) ?_
    refine aF call59 ((c_List01 (outR (labF ls) d d.kids.length) (by rw [outR_len (Nat.le_refl _)]; omega)) _ (by exact hgl)) (by simp [go_sem] <;> rfl) (by simp [go_sem]) ?_
    refine aL 1 (by simp [go_sem] <;> rfl) ?_
    refine al_nil ?_
    refine awp_ret ?_
    refine ends_ret (by simp [go_sem] <;> rfl) (by simp [go_sem]) ?_
    exact ⟨by rw [hsp, ← hoa]; simp [go_sem], by simp [go_sem]⟩

set_option maxHeartbeats 1000000 in
theorem c_refCanon (p : D) (R : Right p) : Pur Tryz.prog (GL kr) 24 [.pv (.slice ((rdefs p).map encDf))] (.pv (.slice ((refCanon p).map encDf))) := by
 have hsz := R.sz
 have hkl := D.kids_length_lt p
 have hrl := R.len
 have hll := R.reach_len
 have hrn : ((reach p).map D.head).length = (reach p).length := List.length_map _
 refine pur_of fun σ hgl => ?_
 refine acalls_of tyOk Tryz.func24 rfl (by simp [Tryz.f24]) ?_
 refine awp_seq (aR (by simp [go_sem] <;> rfl) ?_)
 refine awp_seq (awp_reg ?_)
 refine aL 1 (by simp [go_sem] <;> rfl) ?_
 refine aF call38 ((c_refReach p R) _ (by exact hgl)) (by simp [go_sem] <;> rfl) (by simp [go_sem]) ?_
 refine aL 1 (by simp [go_sem] <;> rfl) ?_
 refine al_nil ?_
 refine awp_seq (aR (by simp [go_sem] <;> rfl) ?_)
 refine awp_seq (awp_seq (aR (by simp [go_sem] <;> rfl) ?_))
 refine awp_adopt' 4 41 9 (by simp [go_sem] <;> rfl) ?_
 refine awp_block ?_
 refine awp_loop_headK σ.objs.length (σ.toks.length + 1) 0 [0, 2, 3] (fun k : Nat => [(4, .acc ((canK p k).map encDf) σ.toks.length), (5, .pv (.int .i64 ↑k))]) (fun k => { σ with toks := σ.toks ++ [⟨k, 41, 9⟩] }) (fun k => k ≤ (reach p).length) (fun k => (reach p).length - k) 0 (Nat.zero_le _) ⟨by simp [go_sem, canK_zero], rfl, by simp, by simp, by simp [go_sem, canK_zero], fun ob h => .inl (by simpa [go_sem, canK_zero] using h), by simp [go_sem]⟩ ?_
 intro k hk
 refine awp_seq (awp_seq (aR (by simp [go_sem] <;> rfl) ?_))
 refine awp_cond (by first | rfl | (simp [go_sem] <;> rfl)) (fun h0 => ?_) (fun h0 => ?_)
 ·have hlt : k < (reach p).length := by simp at h0; omega
  have hw : IntKind.i64.wrap (↑k + 1) = (k : Int) + 1 := wrap_succ (by omega)
  obtain ⟨x, hx, hxm⟩ := get_lt hlt
  have hxp := (rst_inv R _).mem x hxm
  obtain ⟨x0, x1, x2, ns, hkk, hns, htd, hxh, _, hd2, _⟩ := R.df hxp
  have hgx := R.good hxp
  rw [hd2] at hgx
  have hsx := D.size_kid_lt hxp
  have hsx2 := D.size_kid_lt (d := x) (k := x2) (by rw [hkk]; simp)
  obtain ⟨hfi0, hfi⟩ := R.findI hxp
  have hcn := canK_next hx
  rw [htd] at hcn
  have hcl := canK_len hk
  have hbb : (k + 1) * 136 ≤ 140737488355328 := by omega
  refine awp_skip ?_
  refine awp_seq (awp_block ?_)
  refine awp_seq (awp_reg ?_)
  refine aL 6 (by simp [go_sem, hx, hfi0, hfi, htd, hcl, hbb, agg_df] <;> rfl) ?_
  refine aF call39 ((c_Find (rdefs p) (by omega) x.head (fun y hy => by have := (R.small y hy).1; omega)) _ (by exact hgl)) (by simp [go_sem, hx, hfi0, hfi, htd, hcl, hbb, agg_df] <;> rfl) (by simp [go_sem, hx, hfi0, hfi, htd, hcl, hbb, agg_df]) ?_
  refine aL 4 (by simp [go_sem, hx, hfi0, hfi, htd, hcl, hbb, agg_df] <;> rfl) ?_
  refine al_nil ?_
  refine awp_regDC tyOk tySz 11 (by kernel_rfl) (by decide) ?_
  refine ul_run 2 (by simp [go_sem, hx, hfi0, hfi, htd, hcl, hbb, agg_df] <;> rfl) ?_
  refine ul_fn (by first | (intro _ _ hh; exact hh) | simp [go_sem]) rfl rfl rfl rfl (by simp [go_sem, hx, hfi0, hfi, htd, hcl, hbb, agg_df] <;> rfl) call26 ((c_pagodaref01_Num k) _ (by exact hgl)) (by simp [go_sem, hx, hfi0, hfi, htd, hcl, hbb, agg_df] <;> rfl) (by simp [go_sem, hx, hfi0, hfi, htd, hcl, hbb, agg_df]) rfl rfl ?_
  refine ul_run 5 (by simp [go_sem, hx, hfi0, hfi, htd, hcl, hbb, agg_df] <;> rfl) ?_
  refine ul_fn (by first | (intro _ _ hh; exact hh) | simp [go_sem]) rfl rfl rfl rfl (by simp [go_sem, hx, hfi0, hfi, htd, hcl, hbb, agg_df] <;> rfl) call61 ((c_relabelled ((reach p).map D.head) hll (fun y hy => R.reach_size y hy) x2 hgx (by omega)) _ (by exact hgl)) (by simp [go_sem, hx, hfi0, hfi, htd, hcl, hbb, agg_df] <;> rfl) (by simp [go_sem, hx, hfi0, hfi, htd, hcl, hbb, agg_df]) rfl rfl ?_
  refine ul_run 2 (by simp [go_sem, hx, hfi0, hfi, htd, hcl, hbb, agg_df] <;> rfl) ?_
  refine ul_nil ?_
  refine aL 2 (by simp [go_sem, hx, hfi0, hfi, htd, hcl, hbb, agg_df] <;> rfl) ?_
  refine al_nil ?_
  refine aR (by simp [go_sem, hx, hfi0, hfi, htd, hcl, hbb, agg_df] <;> rfl) ?_
  exact next_intro (k + 1) σ.objs.length (σ.toks.length + 1) 0 (hlt) (by omega) ⟨by simp [go_sem, hx, hfi0, hfi, htd, hcl, hbb, agg_df, hw, hcn], rfl, by simp, by simp, by simp [go_sem, hx, hfi0, hfi, htd, hcl, hbb, agg_df, hw, hcn], fun ob h => .inl (by simpa [go_sem, hx, hfi0, hfi, htd, hcl, hbb, agg_df, hw, hcn] using h), by simp [go_sem]⟩
 ·have hke : k = (reach p).length := by simp at h0; omega
  subst hke
  refine awp_exit ?_
  refine then_exit ?_
  refine then_exit ?_
  refine inBlock_hit ?_
  refine awp_seq (aR (by simp [go_sem, canK_all] <;> rfl) ?_)
  refine awp_ret ?_
  refine ends_ret (by simp [go_sem, canK_all] <;> rfl) (by simp [go_sem]) ?_
  exact ⟨by simp [go_sem, canK_all], by simp [go_sem]⟩

end Go.Proofs.YtienmmfjjffjaaaGreatDoor

/- Expressions of programs: by the program, by the specification. -/
namespace Go.Proofs.YtienmmfjjffjaaaGreatDoor
open Go Go.Aw
variable {kr : ResO}
set_option maxHeartbeats 1000000 in
theorem c_flat_Sym (s : ByteArray) : Pur Tryz.prog (GL kr) 69 [.pv (.str s)] (.pv (enc (dsym s))) := by
 refine pur_of fun σ hgl => ?_
 refine acalls_of tyOk Tryz.func69 rfl (by simp [Tryz.f69]) ?_
 refine awp_seq (aR (by simp [go_sem] <;> rfl) ?_)
 refine awp_seq (aR (by simp [go_sem] <;> rfl) ?_)
 refine awp_ret ?_
 refine ends_ret (by simp [go_sem] <;> rfl) (by simp [go_sem]) ?_
 exact ⟨by simp [go_sem, enc_sym], by simp [go_sem]⟩

set_option maxHeartbeats 1000000 in
theorem c_Expr_1 (n : Int) (h0 : 0 ≤ n) (h1 : n ≤ 1000000000) : Pur Tryz.prog (GL kr) 68 [.pv (.int .i64 n)] (.pv (enc (labX n))) := by
 have hcat : 2 + (itoaB n).size ≤ 9223372036854775807 := by have := itoaB_size (n := n) (by omega) (by omega); omega
 refine pur_of fun σ hgl => ?_
 refine acalls_of tyOk Tryz.func68 rfl (by simp [Tryz.f68]) ?_
 refine awp_seq (aR (by simp [go_sem, hcat] <;> rfl) ?_)
 refine awp_seq (awp_reg ?_)
 refine aL 1 (by simp [go_sem, hcat] <;> rfl) ?_
 refine aF call70 ((c_Itoa n (by omega) (by omega)) _ (by exact hgl)) (by simp [go_sem, hcat] <;> rfl) (by simp [go_sem, hcat]) ?_
 refine aL 1 (by simp [go_sem, hcat] <;> rfl) ?_
 refine aF call69 ((c_flat_Sym (fS n)) _ (by exact hgl)) (by simp [go_sem, hcat] <;> rfl) (by simp [go_sem, hcat, fS]) ?_
 refine aL 1 (by simp [go_sem, hcat] <;> rfl) ?_
 refine al_nil ?_
 refine awp_ret ?_
 refine ends_ret (by simp [go_sem, hcat] <;> rfl) (by simp [go_sem]) ?_
 exact ⟨by simp [go_sem, hcat, labX], by simp [go_sem]⟩

set_option maxHeartbeats 1000000 in
theorem c_Expr_2 (x : D) (hx : x.text.size ≤ 40) : Pur Tryz.prog (GL kr) 71 [.pv (enc x)] (.pv (enc (nmX x))) := by
 have hcat : 2 + (x.text).size ≤ 9223372036854775807 := by have := hx; omega
 refine pur_of fun σ hgl => ?_
 refine acalls_of tyOk Tryz.func71 rfl (by simp [Tryz.f71]) ?_
 refine awp_seq (aR (by simp [go_sem, hcat] <;> rfl) ?_)
 refine awp_seq (awp_reg ?_)
 refine aL 3 (by simp [go_sem, hcat] <;> rfl) ?_
 refine aF call69 ((c_flat_Sym (xS x.text)) _ (by exact hgl)) (by simp [go_sem, hcat] <;> rfl) (by simp [go_sem, hcat, xS]) ?_
 refine aL 1 (by simp [go_sem, hcat] <;> rfl) ?_
 refine al_nil ?_
 refine awp_ret ?_
 refine ends_ret (by simp [go_sem, hcat] <;> rfl) (by simp [go_sem]) ?_
 exact ⟨by simp [go_sem, hcat, nmX, namX], by simp [go_sem]⟩

set_option maxHeartbeats 1000000 in
theorem c_AllRight_1 (d : D) (hd : d.size ≤ 1000000000) : Pur Tryz.prog (GL kr) 126 [.pv (enc d)] (.pv (.bool (dcheck d != 0))) := by
 refine pur_of fun σ hgl => ?_
 refine acalls_of tyOk Tryz.func126 rfl (by simp [Tryz.f126]) ?_
 refine awp_seq (aR (by simp [go_sem] <;> rfl) ?_)
 refine awp_seq (awp_reg ?_)
 refine aL 1 (by simp [go_sem] <;> rfl) ?_
 refine aF call72 ((c_datum_Check d hd) _ (by exact hgl)) (by simp [go_sem] <;> rfl) (by simp [go_sem]) ?_
 refine aL 2 (by simp [go_sem] <;> rfl) ?_
 refine al_nil ?_
 refine awp_ret ?_
 refine ends_ret (by simp [go_sem] <;> rfl) (by simp [go_sem]) ?_
 exact ⟨by simp [go_sem], by simp [go_sem]⟩

set_option maxHeartbeats 1000000 in
theorem c_AllRight (a : List D) (hal : a.length ≤ 1000000) (has : ∀ x, x ∈ a → x.size ≤ 1000) : Pur Tryz.prog (GL kr) 106 [.pv (.slice (a.map enc))] (.pv (.bool (allRight a))) := by
 refine pur_of fun σ hgl => ?_
 refine acalls_of tyOk Tryz.func106 rfl (by simp [Tryz.f106]) ?_
 refine awp_seq (aR (by simp [go_sem] <;> rfl) ?_)
 refine awp_seq (awp_reg ?_)
 refine aL 1 (by simp [go_sem] <;> rfl) ?_
 refine aF call125 (c_ContainsFunc a (by omega) σ hgl 126 call126 [] rfl (fun x => dcheck x != 0) (fun x hx => c_AllRight_1 x (by have := has x hx; omega) σ hgl)) (by simp [go_sem] <;> rfl) (by simp [go_sem]) ?_
 refine aL 2 (by simp [go_sem] <;> rfl) ?_
 refine al_nil ?_
 refine awp_ret ?_
 refine ends_ret (by simp [go_sem] <;> rfl) (by simp [go_sem]) ?_
 exact ⟨by simp [go_sem, allRight], by simp [go_sem]⟩

set_option maxHeartbeats 1000000 in
theorem c_flat_Right (p : D) (R : Right p) (a : List D) (hal : a.length ≤ 1000000) (has : ∀ x, x ∈ a → x.size ≤ 1000) : Pur Tryz.prog (GL kr) 67 [.pv (enc p), .pv (.slice (a.map enc))] (.pv (.bool (fright p a))) := by
 obtain ⟨p0, pr, hpk⟩ := kids_cons R.ne
 have hp0 : p.kids[0]? = some p0 := by rw [hpk]; rfl
 have hph := head_cons hpk
 have hp0m : p0 ∈ p.kids := List.mem_of_getElem? hp0
 obtain ⟨x0, x1, x2, ns, hkk, hns, htd, hxh, _⟩ := R.df hp0m
 have hx1 : p0.kids[1]? = some x1 := by rw [hkk]; rfl
 have hd1 : d1 p.head.kids = x1 := by rw [hph, hkk]; rfl
 refine pur_of fun σ hgl => ?_
 refine acalls_of tyOk Tryz.func67 rfl (by simp [Tryz.f67]) ?_
 refine awp_seq (aR (by simp [go_sem, hp0, hx1] <;> rfl) ?_)
 refine awp_seq (awp_reg ?_)
 refine aL 13 (by simp [go_sem, hp0, hx1] <;> rfl) ?_
 refine al_splitT 17 (by first | rfl | (simp [go_sem, hp0, hx1] <;> rfl)) (fun h0 => ?_) (fun h0 => ?_)
 ·refine aLG 1 17 true (by simp [go_sem, hp0, hx1] <;> rfl) ?_
  refine al_fnG 17 true true (by simp [go_sem]) rfl (by simp [go_sem]) rfl rfl (by simp [go_sem, hp0, hx1] <;> rfl) call106 ((c_AllRight a hal has) _ (by exact hgl)) (by simp [go_sem, hp0, hx1] <;> rfl) (by simp [go_sem, hp0, hx1]) rfl rfl ?_
  refine aL 2 (by simp [go_sem, hp0, hx1] <;> rfl) ?_
  refine al_nil ?_
  refine awp_ret ?_
  refine ends_ret (by simp [go_sem, hp0, hx1] <;> rfl) (by simp [go_sem]) ?_
  exact ⟨by simp only [fright, hd1, hp0, hx1, h0, bA, bB, bC, bD, bE, bF, bG, bH, bI, bJ, Bool.false_eq_true, if_true, if_false]; simp [go_sem], by simp [go_sem]⟩
 ·refine aK 2 17 true ?_
  refine aL 2 (by simp [go_sem, hp0, hx1] <;> rfl) ?_
  refine al_nil ?_
  refine awp_ret ?_
  refine ends_ret (by simp [go_sem, hp0, hx1] <;> rfl) (by simp [go_sem]) ?_
  exact ⟨by simp only [fright, hd1, hp0, hx1, h0, bA, bB, bC, bD, bE, bF, bG, bH, bI, bJ, Bool.false_eq_true, if_true, if_false]; simp [go_sem], by simp [go_sem]⟩

theorem c_canonX (p : D) (R : Right p) (C : List D) (hC : C = canonL (reach p) labX nmX true) : Pur Tryz.prog (GL kr) 54 [.pv (enc p), .func (.func 68) [], .func (.func 71) [], .pv (.bool true)] (.pv (.slice (C.map enc))) := by
  rw [hC]
  exact c_canon p R 68 71 true labX nmX (fun O => ⟨call68, rfl, fun σ hgl _ n h0 h1 => c_Expr_1 n h0 h1 σ hgl⟩) (fun O => ⟨call71, rfl, fun σ hgl _ x _ ht => c_Expr_2 x ht σ hgl⟩)
theorem eRec : sRec = ⟨#[114, 101, 99]⟩ := Eq.trans rfl rfl
theorem sizes_bound {a : List D} {m : Nat} (h : ∀ x, x ∈ a → x.size ≤ m) : D.sizes a ≤ m * a.length := by
  induction a with
  | nil => simp [D.sizes]
  | cons x l ih =>
    have h1 := h x (by simp)
    have h2 := ih fun y hy => h y (by simp [hy])
    simp only [D.sizes, List.length_cons, Nat.mul_add]; omega

set_option maxHeartbeats 1000000 in
theorem c_flat_Expr (p : D) (hp : p.size ≤ 900000) (a : List D) (hal : a.length ≤ 1000) (has : ∀ x, x ∈ a → x.size ≤ 1000) : Pur Tryz.prog (GL kr) 31 [.pv (enc p), .pv (.slice (a.map enc))] (.tuple [.pv (enc (fexpr p a).1), .pv (.int .i64 (fexpr p a).2)]) := by
 refine pur_of fun σ hgl => ?_
 refine acalls_of tyOk Tryz.func31 rfl (by simp [Tryz.f31]) ?_
 refine awp_seq (aR (by simp [go_sem] <;> rfl) ?_)
 refine awp_seq (awp_seq (awp_reg ?_))
 refine aL 1 (by simp [go_sem] <;> rfl) ?_
 refine aF call11 ((c_flat_Check p (by omega)) _ (by exact hgl)) (by simp [go_sem] <;> rfl) (by simp [go_sem]) ?_
 refine aL 1 (by simp [go_sem] <;> rfl) ?_
 refine al_nil ?_
 refine awp_seq (aR (by simp [go_sem] <;> rfl) ?_)
 refine awp_cond (by first | rfl | (simp [go_sem] <;> rfl)) (fun h0 => ?_) (fun h0 => ?_)
 ·refine awp_seq ?_
  refine aR (by simp [go_sem] <;> rfl) ?_
  refine awp_ret ?_
  refine then_ret ?_
  refine ends_ret (by simp [go_sem] <;> rfl) (by simp [go_sem]) ?_
  exact ⟨by simp only [fexpr, enc_none, h0, bA, bB, bC, bD, bE, bF, bG, bH, bI, bJ, Bool.false_eq_true, if_true, if_false]; simp [go_sem], by simp [go_sem]⟩
 ·have R : Right p := ⟨by simpa using h0, by omega⟩
  obtain ⟨C, hC⟩ : ∃ C, C = canonL (reach p) labX nmX true := ⟨_, rfl⟩
  have hout : exprOut p a = dlist [dsym sRec, dlist C, dlist (labX 0 :: a.map quoteD)] := by unfold exprOut; rw [← hC]
  have hos := R.exprOut_size a
  rw [hout] at hos
  have hsa : D.sizes a ≤ 1000 * a.length := sizes_bound has
  refine awp_skip ?_
  refine awp_seq (awp_seq (awp_reg ?_))
  refine aL 2 (by simp [go_sem] <;> rfl) ?_
  refine aF call67 ((c_flat_Right p R a (by omega) has) _ (by exact hgl)) (by simp [go_sem] <;> rfl) (by simp [go_sem]) ?_
  refine aL 1 (by simp [go_sem] <;> rfl) ?_
  refine al_nil ?_
  refine awp_cond (by first | rfl | (simp [go_sem] <;> rfl)) (fun h1 => ?_) (fun h1 => ?_)
  ·refine awp_seq ?_
   refine aR (by simp [go_sem] <;> rfl) ?_
   refine awp_ret ?_
   refine then_ret ?_
   refine ends_ret (by simp [go_sem] <;> rfl) (by simp [go_sem]) ?_
   have hs : fexpr p a = (dnone, 2) := by rw [fexpr_ok a R, ← hC, hout]; simp only [Bool.not_true, h0, h1, bA, bB, bC, bD, bE, bF, bG, bH, bI, bJ, Bool.false_eq_true, if_true, if_false]
   exact ⟨by rw [hs]; simp [go_sem, enc_none], by simp [go_sem]⟩
  ·refine awp_skip ?_
   refine awp_seq (aR (by simp [go_sem] <;> rfl) ?_)
   refine awp_seq (awp_reg ?_)
   refine aL 2 (by simp [go_sem] <;> rfl) ?_
   refine aF call54 ((c_canonX p R C hC) _ (by exact hgl)) (by simp [go_sem] <;> rfl) (by simp [go_sem]) ?_
   refine aL 1 (by simp [go_sem] <;> rfl) ?_
   refine al_nil ?_
   refine awp_seq (awp_seq (aR (by simp [go_sem] <;> rfl) ?_))
   refine awp_cond (by first | rfl | (simp [go_sem] <;> rfl)) (fun h2 => ?_) (fun h2 => ?_)
   ·refine awp_seq ?_
    refine aR (by simp [go_sem] <;> rfl) ?_
    refine awp_ret ?_
    refine then_ret ?_
    refine ends_ret (by simp [go_sem] <;> rfl) (by simp [go_sem]) ?_
    have hs : fexpr p a = (dnone, 7) := by rw [fexpr_ok a R, ← hC, hout]; simp only [Bool.not_true, h0, h1, h2, bA, bB, bC, bD, bE, bF, bG, bH, bI, bJ, Bool.false_eq_true, if_true, if_false]
    exact ⟨by rw [hs]; simp [go_sem, enc_none], by simp [go_sem]⟩
   ·refine awp_skip ?_
    refine awp_seq (awp_reg ?_)
    refine aL 1 (by simp [go_sem] <;> rfl) ?_
    refine al_fn rfl rfl rfl (by simp [go_sem] <;> rfl) call68 (c_Expr_1 0 (by decide) (by decide) _ (by exact hgl)) (by simp [go_sem] <;> rfl) (by simp [go_sem]) rfl rfl ?_
    refine aL 2 (by simp [go_sem] <;> rfl) ?_
    refine al_nil ?_
    refine awp_seq (awp_seq (aR (by simp [go_sem] <;> rfl) ?_))
    refine awp_adopt' 9 24 4 (by simp [go_sem] <;> rfl) ?_
    refine awp_block ?_
    refine awp_loop_headK σ.objs.length (σ.toks.length + 1) 2 [4, 5, 8, 34, 35] (fun k : Nat => [(9, .acc ((outK [labX 0] a quoteD k).map enc) σ.toks.length), (36, .pv (.int .i64 ↑k))]) (fun k => { σ with toks := σ.toks ++ [⟨1 + k, 24, 4⟩] }) (fun k => k ≤ a.length) (fun k => a.length - k) 0 (Nat.zero_le _) ⟨by simp [go_sem, outK_zero], rfl, by simp, by simp, by simp [go_sem, outK_zero], fun ob h => .inl (by simpa [go_sem, outK_zero] using h), by simp [go_sem]⟩ ?_
    intro k hk
    refine awp_seq (aR (by simp [go_sem] <;> rfl) ?_)
    refine awp_seq (awp_cond (by first | rfl | (simp [go_sem] <;> rfl)) (fun h3 => ?_) (fun h3 => ?_))
    ·have hlt : k < a.length := by simp at h3; omega
     have hw : IntKind.i64.wrap (↑k + 1) = (k : Int) + 1 := wrap_succ (by omega)
     obtain ⟨x, hx, hxm⟩ := get_lt hlt
     have hon := outK_next (pre := [labX 0]) (h := quoteD) hx
     have hol := outK_len (pre := [labX 0]) (h := quoteD) hk
     have hqd : dlist [dsym sQuote, x] = quoteD x := rfl
     rw [show ([labX 0] : List D).length = 1 from rfl] at hol
     have hbb : (1 + k + 1) * 56 ≤ 140737488355328 := by omega
     refine awp_skip ?_
     refine awp_seq (awp_block ?_)
     refine awp_seq (aR (by simp [go_sem, hx, hol, hbb] <;> rfl) ?_)
     refine awp_regDC tyOk tySz 7 (by kernel_rfl) (by decide) ?_
     refine ul_run 1 (by simp [go_sem, hx, hol, hbb] <;> rfl) ?_
     refine ul_fn (by first | (intro _ _ hh; exact hh) | simp [go_sem]) rfl rfl rfl rfl (by simp [go_sem, hx, hol, hbb] <;> rfl) call69 ((c_flat_Sym sQuote) _ (by exact hgl)) (by simp [go_sem, hx, hol, hbb] <;> rfl) (by simp [go_sem, hx, hol, hbb, eQuote]) rfl rfl ?_
     refine ul_run 1 (by simp [go_sem, hx, hol, hbb] <;> rfl) ?_
     refine ul_fn (by first | (intro _ _ hh; exact hh) | simp [go_sem]) rfl rfl rfl rfl (by simp [go_sem, hx, hol, hbb] <;> rfl) call48 ((c_own x (by have := has x hxm; omega)) _ (by exact hgl)) (by simp [go_sem, hx, hol, hbb] <;> rfl) (by simp [go_sem, hx, hol, hbb]) rfl rfl ?_
     refine ul_run 1 (by simp [go_sem, hx, hol, hbb] <;> rfl) ?_
     refine ul_fn (by first | (intro _ _ hh; exact hh) | simp [go_sem]) rfl rfl rfl rfl (by simp [go_sem, hx, hol, hbb] <;> rfl) call53 ((c_flat_List [dsym sQuote, x]) _ (by exact hgl)) (by simp [go_sem, hx, hol, hbb] <;> rfl) (by simp [go_sem, hx, hol, hbb]) rfl rfl ?_
     refine ul_run 1 (by simp [go_sem, hx, hol, hbb, hqd] <;> rfl) ?_
     refine ul_nil ?_
     refine aL 2 (by simp [go_sem, hx, hol, hbb, hqd] <;> rfl) ?_
     refine al_nil ?_
     refine aR (by simp [go_sem, hx, hol, hbb, hqd] <;> rfl) ?_
     exact next_intro (k + 1) σ.objs.length (σ.toks.length + 1) 2 (hlt) (by omega) ⟨by simp [go_sem, hx, hol, hbb, hqd, hw, hon, Nat.add_assoc], rfl, by simp, by simp, by simp [go_sem, hx, hol, hbb, hqd, hw, hon, Nat.add_assoc], fun ob h => .inl (by simpa [go_sem, hx, hol, hbb, hqd, hw, hon, Nat.add_assoc] using h), by simp [go_sem]⟩
    ·have hke : k = a.length := by simp at h3; omega
     subst hke
     refine awp_exit ?_
     refine then_exit ?_
     refine then_exit ?_
     refine inBlock_hit ?_
     refine awp_seq (awp_reg ?_)
     refine aF call69 ((c_flat_Sym sRec) _ (by exact hgl)) (by simp [go_sem, outK_all] <;> rfl) (by simp [go_sem, outK_all, eRec]) ?_
     refine aL 1 (by simp [go_sem, outK_all] <;> rfl) ?_
     refine aF call53 ((c_flat_List C) _ (by exact hgl)) (by simp [go_sem, outK_all] <;> rfl) (by simp [go_sem, outK_all]) ?_
     refine aL 1 (by simp [go_sem, outK_all] <;> rfl) ?_
     refine aF call53 ((c_flat_List (labX 0 :: a.map quoteD)) _ (by exact hgl)) (by simp [go_sem, outK_all] <;> rfl) (by simp [go_sem, outK_all]) ?_
     refine aL 1 (by simp [go_sem, outK_all] <;> rfl) ?_
     refine aF call53 ((c_flat_List [dsym sRec, dlist C, dlist (labX 0 :: a.map quoteD)]) _ (by exact hgl)) (by simp [go_sem, outK_all] <;> rfl) (by simp [go_sem, outK_all]) ?_
     refine aL 2 (by simp [go_sem, outK_all] <;> rfl) ?_
     refine al_nil ?_
     refine awp_seq (awp_seq (awp_reg ?_))
     refine aL 1 (by simp [go_sem, outK_all] <;> rfl) ?_
     refine aF call72 ((c_datum_Check (dlist [dsym sRec, dlist C, dlist (labX 0 :: a.map quoteD)]) (by omega)) _ (by exact hgl)) (by simp [go_sem, outK_all] <;> rfl) (by simp [go_sem, outK_all]) ?_
     refine aL 1 (by simp [go_sem, outK_all] <;> rfl) ?_
     refine al_nil ?_
     refine awp_cond (by first | rfl | (simp [go_sem, outK_all] <;> rfl)) (fun h4 => ?_) (fun h4 => ?_)
     ·refine awp_seq ?_
      refine aR (by simp [go_sem, outK_all] <;> rfl) ?_
      refine awp_ret ?_
      refine then_ret ?_
      refine ends_ret (by simp [go_sem] <;> rfl) (by simp [go_sem]) ?_
      have hs : fexpr p a = (dnone, 3) := by rw [fexpr_ok a R, ← hC, hout]; simp only [Bool.not_true, outK_all, h0, h1, h2, h4, bA, bB, bC, bD, bE, bF, bG, bH, bI, bJ, Bool.false_eq_true, if_true, if_false]
      exact ⟨by rw [hs]; simp [go_sem, enc_none], by simp [go_sem]⟩
     ·refine awp_skip ?_
      refine awp_seq (aR (by simp [go_sem, outK_all] <;> rfl) ?_)
      refine awp_ret ?_
      refine ends_ret (by simp [go_sem] <;> rfl) (by simp [go_sem]) ?_
      have hs : fexpr p a = (dlist [dsym sRec, dlist C, dlist (labX 0 :: a.map quoteD)], 0) := by rw [fexpr_ok a R, ← hC, hout]; simp only [Bool.not_true, outK_all, h0, h1, h2, h4, bA, bB, bC, bD, bE, bF, bG, bH, bI, bJ, Bool.false_eq_true, if_true, if_false]
      exact ⟨by rw [hs]; simp [go_sem, enc_none], by simp [go_sem]⟩

end Go.Proofs.YtienmmfjjffjaaaGreatDoor
