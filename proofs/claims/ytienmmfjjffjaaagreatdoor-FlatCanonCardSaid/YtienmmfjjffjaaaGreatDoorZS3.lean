/- Part of the proof that the statement holds for every input that its row lets in: the contracts of the program's functions, printed by a program out of annotations; the statement itself stands at the end of the last part. -/
import Derived.Test.YtienmmfjjffjaaaGreatDoorZS2
import Derived.Test.YtienmmfjjffjaaaGreatDoorZA3
import Derived.Test.YtienmmfjjffjaaaGreatDoorRows
import Derived.Test.YtienmmfjjffjaaaGreatDoorZA4
import Derived.Test.YtienmmfjjffjaaaGreatDoorCards
import Derived.Test.YtienmmfjjffjaaaGreatDoorTie
set_option linter.unusedSimpArgs false
set_option linter.unusedVariables false
/- The specification: bodies. -/
namespace Go.Proofs.YtienmmfjjffjaaaGreatDoor
open Go Go.Aw
variable {kr : ResO}
set_option maxHeartbeats 1000000 in
theorem c_body (l : List Df) (ps : List (D × Int)) (H : LP l ps) (hll : l.length ≤ 1000000000) (hls : ∀ x, x ∈ l → x.lab.size ≤ 1000000000 ∧ x.ps.length ≤ 1000000000) (d : D) : ∀ (b : List ByteArray) (σ : Store) (hgl : σ.gl = (GL kr)) (hf : formed d = true) (hb : b.length + d.size ≤ 1000000000), PurAt Tryz.prog σ 44 [.pv (.slice (l.map encDf)), .pv (enc d), .pv (.slice (b.map .str))] (.pv (.int .i64 (cexpr ps b d))) := by
 induction d using D.ind with
 | _ kind num text kids ih =>
 generalize hD : D.mk kind num text kids = d at *
 have hk : d.kids = kids := by rw [← hD]; rfl
 clear hD
 subst hk
 have hkl := D.kids_length_lt d
 intro b σ hgl hf hb
 rw [cexpr_body hf]
 have hkr := kidsR_len d
 have hwr1 : IntKind.i64.wrap ((d.kids.length : Int) - 1) = (d.kids.length : Int) - 1 := wrap_id (by omega) (by omega)
 refine purAt_of ?_
 refine acalls_of tyOk Tryz.func44 rfl (by simp [Tryz.f44]) ?_
 refine awp_seq (aR (by simp [go_sem, hwr1] <;> rfl) ?_)
 refine awp_seq (awp_seq (awp_reg ?_))
 refine aL 1 (by simp [go_sem, hwr1] <;> rfl) ?_
 refine aF call86 ((c_form d) _ (by exact hgl)) (by simp [go_sem, hwr1] <;> rfl) (by simp [go_sem, hwr1]) ?_
 refine aL 1 (by simp [go_sem, hwr1] <;> rfl) ?_
 refine al_nil ?_
 refine awp_cond (by first | rfl | (simp [go_sem, hwr1] <;> rfl)) (fun h0 => ?_) (fun h0 => ?_)
 ·refine awp_seq ?_
  refine aR (by simp [go_sem, hwr1] <;> rfl) ?_
  refine awp_ret ?_
  refine then_ret ?_
  refine ends_ret (by simp [go_sem] <;> rfl) (by simp [go_sem]) ?_
  have hs : body1 ps b d = 4 := by unfold body1; simp only [eCall, hwr1, h0, bA, bB, bC, bD, bE, bF, bG, bH, bI, bJ, Bool.false_eq_true, if_true, if_false]
  exact ⟨by simp [go_sem, hs], by simp [go_sem]⟩
 ·have hfm : form d = true := by simpa using h0
  refine awp_skip ?_
  refine awp_seq (awp_seq (awp_reg ?_))
  refine aL 4 (by simp [go_sem, hwr1] <;> rfl) ?_
  refine al_splitT 21 (by first | rfl | (simp [go_sem, hwr1] <;> rfl)) (fun h1 => ?_) (fun h1 => ?_)
  ·refine aLG 3 21 true (by simp [go_sem, hwr1] <;> rfl) ?_
   refine al_fnG 21 true true (by simp [go_sem]) rfl (by simp [go_sem]) rfl rfl (by simp [go_sem, hwr1] <;> rfl) call85 ((c_Among b (by omega) d.text) _ (by exact hgl)) (by simp [go_sem, hwr1] <;> rfl) (by simp [go_sem, hwr1]) rfl rfl ?_
   refine aLG 1 21 true (by simp [go_sem, hwr1] <;> rfl) ?_
   refine aL 1 (by simp [go_sem, hwr1] <;> rfl) ?_
   refine al_nil ?_
   refine awp_cond (by first | rfl | (simp [go_sem, hwr1] <;> rfl)) (fun h2 => ?_) (fun h2 => ?_)
   ·refine awp_seq ?_
    refine aR (by simp [go_sem, hwr1] <;> rfl) ?_
    refine awp_ret ?_
    refine then_ret ?_
    refine ends_ret (by simp [go_sem] <;> rfl) (by simp [go_sem]) ?_
    have hs : body1 ps b d = 12 := by unfold body1; simp only [eCall, hwr1, h0, h1, h2, bA, bB, bC, bD, bE, bF, bG, bH, bI, bJ, Bool.false_eq_true, if_true, if_false]
    exact ⟨by simp [go_sem, hs], by simp [go_sem]⟩
   ·refine awp_skip ?_
    refine awp_seq (awp_reg ?_)
    refine aL 1 (by simp [go_sem, hwr1] <;> rfl) ?_
    refine aF call82 ((c_Word d) _ (by exact hgl)) (by simp [go_sem, hwr1] <;> rfl) (by simp [go_sem, hwr1]) ?_
    refine aL 1 (by simp [go_sem, hwr1] <;> rfl) ?_
    refine al_nil ?_
    refine awp_seq (awp_seq (aR (by simp [go_sem, hwr1] <;> rfl) ?_))
    refine awp_cond (by first | rfl | (simp [go_sem, hwr1] <;> rfl)) (fun h3 => ?_) (fun h3 => ?_)
    ·have hwc : word d = sCall := of_decide_eq_true h3
     have h2l := form_two hfm (.inr hwc)
     obtain ⟨hlb, hlf⟩ := form_call hfm hf hwc
     have hx1 := get_d1 h2l
     refine awp_seq (awp_reg ?_)
     refine aL 5 (by simp [go_sem, hwr1, hx1] <;> rfl) ?_
     refine aF call39 ((c_Find l hll (d1 d.kids) (fun x hx => (hls x hx).1)) _ (by exact hgl)) (by simp [go_sem, hwr1, hx1] <;> rfl) (by simp [go_sem, hwr1, hx1]) ?_
     refine aL 1 (by simp [go_sem, hwr1, hx1] <;> rfl) ?_
     refine al_nil ?_
     refine awp_seq (awp_seq (aR (by simp [go_sem, hwr1, hx1] <;> rfl) ?_))
     refine awp_cond (by first | rfl | (simp [go_sem, hwr1, hx1] <;> rfl)) (fun h4 => ?_) (fun h4 => ?_)
     ·have hkn := H.neg hlb hlf (by simpa using h4)
      refine awp_seq (aR (by simp [go_sem, hwr1, hx1] <;> rfl) ?_)
      refine awp_ret ?_
      refine then_ret ?_
      refine then_ret ?_
      refine ends_ret (by simp [go_sem] <;> rfl) (by simp [go_sem]) ?_
      have hs : body1 ps b d = 5 := by unfold body1; simp only [eCall, hwr1, hx1, h0, h1, h2, h3, h4, hkn, bA, bB, bC, bD, bE, bF, bG, bH, bI, bJ, Bool.false_eq_true, if_true, if_false]
      exact ⟨by simp [go_sem, hs], by simp [go_sem]⟩
     ·obtain ⟨hi0, y, hy, hky⟩ := H.pos hlb hlf (by simpa using h4)
      have hwr2 : IntKind.i64.wrap ((d.kids.length : Int) - 2) = (d.kids.length : Int) - 2 := wrap_id (by omega) (by omega)
      refine awp_skip ?_
      refine awp_seq (awp_regDP tyOk tySz 10 (by kernel_rfl) (by decide) ?_)
      refine ul_run 10 (by simp [go_sem, hwr1, hx1, hi0, hy, hwr2] <;> rfl) ?_
      refine ul_nil ?_
      refine aL 1 (by simp [go_sem, hwr1, hx1, hi0, hy, hwr2] <;> rfl) ?_
      refine al_nil ?_
      refine awp_cond (by first | rfl | (simp [go_sem, hwr1, hx1, hi0, hy, hwr2] <;> rfl)) (fun h5 => ?_) (fun h5 => ?_)
      ·refine awp_seq ?_
       refine aR (by simp [go_sem, hwr1, hx1, hi0, hy, hwr2] <;> rfl) ?_
       refine awp_ret ?_
       refine then_ret ?_
       refine ends_ret (by simp [go_sem] <;> rfl) (by simp [go_sem]) ?_
       have hs : body1 ps b d = 11 := by unfold body1; simp only [eCall, hwr1, hx1, hi0, hy, hwr2, h0, h1, h2, h3, h4, hky, h5, bA, bB, bC, bD, bE, bF, bG, bH, bI, bJ, Bool.false_eq_true, if_true, if_false]
       exact ⟨by simp [go_sem, hs], by simp [go_sem]⟩
      ·refine awp_skip ?_
       refine awp_seq (awp_seq (awp_reg ?_))
       refine aL 1 (by simp [go_sem, hwr1, hx1, hi0, hy, hwr2] <;> rfl) ?_
       refine aF call87 ((c_Arity07 (word d)) _ (by exact hgl)) (by simp [go_sem, hwr1, hx1, hi0, hy, hwr2] <;> rfl) (by simp [go_sem, hwr1, hx1, hi0, hy, hwr2]) ?_
       refine aL 5 (by simp [go_sem, hwr1, hx1, hi0, hy, hwr2] <;> rfl) ?_
       refine al_nil ?_
       refine awp_seq (awp_reg ?_)
       refine aL 2 (by simp [go_sem, hwr1, hx1, hi0, hy, hwr2] <;> rfl) ?_
       refine al_splitT 57 (by first | rfl | (simp [go_sem, hwr1, hx1, hi0, hy, hwr2] <;> rfl)) (fun h6 => ?_) (fun h6 => ?_)
       ·refine aLG 6 57 true (by simp [go_sem, hwr1, hx1, hi0, hy, hwr2] <;> rfl) ?_
        refine aL 1 (by simp [go_sem, hwr1, hx1, hi0, hy, hwr2] <;> rfl) ?_
        refine al_nil ?_
        refine awp_cond (by first | rfl | (simp [go_sem, hwr1, hx1, hi0, hy, hwr2] <;> rfl)) (fun h7 => ?_) (fun h7 => ?_)
        ·refine awp_seq ?_
         refine aR (by simp [go_sem, hwr1, hx1, hi0, hy, hwr2] <;> rfl) ?_
         refine awp_ret ?_
         refine then_ret ?_
         refine ends_ret (by simp [go_sem] <;> rfl) (by simp [go_sem]) ?_
         have hs : body1 ps b d = 11 := by unfold body1; simp only [eCall, hwr1, hx1, hi0, hy, hwr2, h0, h1, h2, h3, h4, hky, h5, h6, h7, bA, bB, bC, bD, bE, bF, bG, bH, bI, bJ, Bool.false_eq_true, if_true, if_false]
         exact ⟨by simp [go_sem, hs], by simp [go_sem]⟩
        ·refine awp_skip ?_
         refine awp_seq ?_
         have hgo : body1 ps b d = goB ps b d 0 (kidsR d) := by unfold body1; simp only [eCall, hwr1, hx1, hi0, hy, hwr2, h0, h1, h2, h3, h4, hky, h5, h6, h7, bA, bB, bC, bD, bE, bF, bG, bH, bI, bJ, Bool.false_eq_true, if_true, if_false]
         refine awp_reg ?_
         refine aL 1 (by simp [go_sem, hwr1, hx1, hi0, hy, hwr2] <;> rfl) ?_
         refine aF call88 ((c_Kids d (form_two hfm)) _ (by exact hgl)) (by simp [go_sem, hwr1, hx1, hi0, hy, hwr2] <;> rfl) (by simp [go_sem, hwr1, hx1, hi0, hy, hwr2]) ?_
         refine aL 1 (by simp [go_sem, hwr1, hx1, hi0, hy, hwr2] <;> rfl) ?_
         refine al_nil ?_
         refine awp_seq (awp_seq (aR (by simp [go_sem, hwr1, hx1, hi0, hy, hwr2] <;> rfl) ?_))
         refine awp_block ?_
         refine awp_loop_headK σ.objs.length σ.toks.length 1 [0, 2, 4, 6, 7, 11] (fun k : Nat => [(12, .pv (.int .i64 ↑k))]) (fun k => σ) (fun k => k ≤ (kidsR d).length ∧ body1 ps b d = goB ps b d k ((kidsR d).drop k)) (fun k => (kidsR d).length - k) 0 (⟨Nat.zero_le _, by rw [hgo]; rfl⟩) ⟨by simp [go_sem, hwr1, hx1, hi0, hy, hwr2], rfl, by simp, by simp, by simp [go_sem, hwr1, hx1, hi0, hy, hwr2], fun ob h => .inl (by simpa [go_sem, hwr1, hx1, hi0, hy, hwr2] using h), by simp [go_sem]⟩ ?_
         rintro k ⟨hk, hn⟩
         refine awp_seq (awp_seq (aR (by simp [go_sem, hwr1, hx1, hi0, hy, hwr2] <;> rfl) ?_))
         refine awp_cond (by first | rfl | (simp [go_sem, hwr1, hx1, hi0, hy, hwr2] <;> rfl)) (fun h8 => ?_) (fun h8 => ?_)
         ·have hlt : k < (kidsR d).length := by simp at h8; omega
          have hw : IntKind.i64.wrap (↑k + 1) = (k : Int) + 1 := wrap_succ (by omega)
          obtain ⟨x, hx, hxm⟩ := get_lt hlt
          have hst := goB_step (ps := ps) (b := b) hx
          refine awp_skip ?_
          refine awp_seq (awp_block ?_)
          refine awp_seq (aR (by simp [go_sem, hwr1, hx1, hi0, hy, hwr2, hx] <;> rfl) ?_)
          refine awp_seq (awp_seq (awp_reg ?_))
          refine aL 3 (by simp [go_sem, hwr1, hx1, hi0, hy, hwr2, hx] <;> rfl) ?_
          refine al_splitT 76 (by first | rfl | (simp [go_sem, hwr1, hx1, hi0, hy, hwr2, hx] <;> rfl)) (fun h9 => ?_) (fun h9 => ?_)
          ·have hA := h9
           refine aLG 2 76 true (by simp [go_sem, hwr1, hx1, hi0, hy, hwr2, hx] <;> rfl) ?_
           refine aL 1 (by simp [go_sem, hwr1, hx1, hi0, hy, hwr2, hx] <;> rfl) ?_
           refine al_nil ?_
           refine awp_cond (by first | rfl | (simp [go_sem, hwr1, hx1, hi0, hy, hwr2, hx] <;> rfl)) (fun h10 => ?_) (fun h10 => ?_)
           ·have h2m := form_two hfm (.inl (of_decide_eq_true hA))
            have hy1 := get_d1 h2m
            have hin : inb b d k = b ++ [(d1 d.kids).text] := inb_yes hA h10
            have hbb : (b.length + 1) * 16 ≤ 140737488355328 := by omega
            have hb16 : b.length * 16 ≤ 140737488355328 := by omega
            refine awp_regDP tyOk tySz 9 (by kernel_rfl) (by decide) ?_
            refine ul_run 9 (by simp [go_sem, hwr1, hx1, hi0, hy, hwr2, hx, hy1, hin, hbb, hb16, allSz_str] <;> rfl) ?_
            refine ul_nil ?_
            refine aL 2 (by simp [go_sem, hwr1, hx1, hi0, hy, hwr2, hx, hy1, hin, hbb, hb16, allSz_str] <;> rfl) ?_
            refine al_nil ?_
            refine awp_seq (awp_reg ?_)
            refine aL 6 (by simp [go_sem, hwr1, hx1, hi0, hy, hwr2, hx, hy1, hin, hbb, hb16, allSz_str] <;> rfl) ?_
            refine aF call44 (ih x (kidsR_mem hxm) (inb b d k) _ (by exact hgl) (formed_kids hf (kidsR_mem hxm)) (by have := D.size_kid_lt (kidsR_mem hxm); have := inb_len b d k; omega)) (by simp [go_sem, hwr1, hx1, hi0, hy, hwr2, hx, hy1, hin, hbb, hb16, allSz_str] <;> rfl) (by simp [go_sem, hwr1, hx1, hi0, hy, hwr2, hx, hy1, hin, hbb, hb16, allSz_str]) ?_
            refine aL 1 (by simp [go_sem, hwr1, hx1, hi0, hy, hwr2, hx, hy1, hin, hbb, hb16, allSz_str] <;> rfl) ?_
            refine al_nil ?_
            refine awp_seq (aR (by simp [go_sem, hwr1, hx1, hi0, hy, hwr2, hx, hy1, hin, hbb, hb16, allSz_str] <;> rfl) ?_)
            refine awp_cond (by first | rfl | (simp [go_sem, hwr1, hx1, hi0, hy, hwr2, hx, hy1, hin, hbb, hb16, allSz_str] <;> rfl)) (fun h11 => ?_) (fun h11 => ?_)
            ·refine awp_seq ?_
             refine aR (by simp [go_sem, hwr1, hx1, hi0, hy, hwr2, hx, hy1, hin, hbb, hb16, allSz_str] <;> rfl) ?_
             refine awp_ret ?_
             refine inBlock_ret ?_
             refine then_ret ?_
             refine then_ret ?_
             refine inBlock_ret ?_
             refine then_ret ?_
             refine ends_ret (by simp [go_sem] <;> rfl) (by simp [go_sem]) ?_
             have hs : body1 ps b d = cexpr ps (inb b d k) x := by rw [hn, hst]; simp only [Bool.not_true, hwr1, hx1, hi0, hy, hwr2, hx, hy1, hin, hbb, hb16, allSz_str, h0, h1, h2, h3, h4, hky, h5, h6, h7, h8, h9, h10, hin, h11, bA, bB, bC, bD, bE, bF, bG, bH, bI, bJ, Bool.false_eq_true, if_true, if_false]
             exact ⟨by simp [go_sem, hs, hwr1, hx1, hi0, hy, hwr2, hx, hy1, hin, hbb, hb16, allSz_str, h0, h1, h2, h3, h4, hky, h5, h6, h7, h8, h9, h10, hin, h11], by simp [go_sem]⟩
            ·refine awp_skip ?_
             refine aR (by simp [go_sem, hwr1, hx1, hi0, hy, hwr2, hx, hy1, hin, hbb, hb16, allSz_str] <;> rfl) ?_
             exact next_intro (k + 1) σ.objs.length σ.toks.length 1 (⟨hlt, by rw [hn, hst]; simp only [h0, h1, h2, h3, h4, hky, h5, h6, h7, h8, h9, h10, hin, h11, bA, bB, bC, bD, bE, bF, bG, bH, bI, bJ, Bool.false_eq_true, if_true, if_false]⟩) (by omega) ⟨by simp [go_sem, hwr1, hx1, hi0, hy, hwr2, hx, hy1, hin, hbb, hb16, allSz_str, hw], rfl, by simp, by simp, by simp [go_sem, hwr1, hx1, hi0, hy, hwr2, hx, hy1, hin, hbb, hb16, allSz_str, hw], fun ob h => .inl (by simpa [go_sem, hwr1, hx1, hi0, hy, hwr2, hx, hy1, hin, hbb, hb16, allSz_str, hw] using h), by simp [go_sem]⟩
           ·have hin : inb b d k = b := inb_other h10
            refine awp_skip ?_
            refine awp_seq (awp_reg ?_)
            refine aL 6 (by simp [go_sem, hwr1, hx1, hi0, hy, hwr2, hx, hin] <;> rfl) ?_
            refine aF call44 (ih x (kidsR_mem hxm) (inb b d k) _ (by exact hgl) (formed_kids hf (kidsR_mem hxm)) (by have := D.size_kid_lt (kidsR_mem hxm); have := inb_len b d k; omega)) (by simp [go_sem, hwr1, hx1, hi0, hy, hwr2, hx, hin] <;> rfl) (by simp [go_sem, hwr1, hx1, hi0, hy, hwr2, hx, hin]) ?_
            refine aL 1 (by simp [go_sem, hwr1, hx1, hi0, hy, hwr2, hx, hin] <;> rfl) ?_
            refine al_nil ?_
            refine awp_seq (aR (by simp [go_sem, hwr1, hx1, hi0, hy, hwr2, hx, hin] <;> rfl) ?_)
            refine awp_cond (by first | rfl | (simp [go_sem, hwr1, hx1, hi0, hy, hwr2, hx, hin] <;> rfl)) (fun h12 => ?_) (fun h12 => ?_)
            ·refine awp_seq ?_
             refine aR (by simp [go_sem, hwr1, hx1, hi0, hy, hwr2, hx, hin] <;> rfl) ?_
             refine awp_ret ?_
             refine inBlock_ret ?_
             refine then_ret ?_
             refine then_ret ?_
             refine inBlock_ret ?_
             refine then_ret ?_
             refine ends_ret (by simp [go_sem] <;> rfl) (by simp [go_sem]) ?_
             have hs : body1 ps b d = cexpr ps (inb b d k) x := by rw [hn, hst]; simp only [Bool.not_true, hwr1, hx1, hi0, hy, hwr2, hx, hin, h0, h1, h2, h3, h4, hky, h5, h6, h7, h8, h9, h10, hin, h12, bA, bB, bC, bD, bE, bF, bG, bH, bI, bJ, Bool.false_eq_true, if_true, if_false]
             exact ⟨by simp [go_sem, hs, hwr1, hx1, hi0, hy, hwr2, hx, hin, h0, h1, h2, h3, h4, hky, h5, h6, h7, h8, h9, h10, hin, h12], by simp [go_sem]⟩
            ·refine awp_skip ?_
             refine aR (by simp [go_sem, hwr1, hx1, hi0, hy, hwr2, hx, hin] <;> rfl) ?_
             exact next_intro (k + 1) σ.objs.length σ.toks.length 1 (⟨hlt, by rw [hn, hst]; simp only [h0, h1, h2, h3, h4, hky, h5, h6, h7, h8, h9, h10, hin, h12, bA, bB, bC, bD, bE, bF, bG, bH, bI, bJ, Bool.false_eq_true, if_true, if_false]⟩) (by omega) ⟨by simp [go_sem, hwr1, hx1, hi0, hy, hwr2, hx, hin, hw], rfl, by simp, by simp, by simp [go_sem, hwr1, hx1, hi0, hy, hwr2, hx, hin, hw], fun ob h => .inl (by simpa [go_sem, hwr1, hx1, hi0, hy, hwr2, hx, hin, hw] using h), by simp [go_sem]⟩
          ·have hin : inb b d k = b := inb_no h9
           refine aK 2 76 true ?_
           refine aL 1 (by simp [go_sem, hwr1, hx1, hi0, hy, hwr2, hx, hin] <;> rfl) ?_
           refine al_nil ?_
           refine awp_cond (b := false) (by simp [go_sem, hwr1, hx1, hi0, hy, hwr2, hx, hin, h0, h1, h2, h3, h4, hky, h5, h6, h7, h8, h9, hin]) (fun h => ?_) (fun h => ?_)
           ·cases h
           refine awp_skip ?_
           refine awp_seq (awp_reg ?_)
           refine aL 6 (by simp [go_sem, hwr1, hx1, hi0, hy, hwr2, hx, hin] <;> rfl) ?_
           refine aF call44 (ih x (kidsR_mem hxm) (inb b d k) _ (by exact hgl) (formed_kids hf (kidsR_mem hxm)) (by have := D.size_kid_lt (kidsR_mem hxm); have := inb_len b d k; omega)) (by simp [go_sem, hwr1, hx1, hi0, hy, hwr2, hx, hin] <;> rfl) (by simp [go_sem, hwr1, hx1, hi0, hy, hwr2, hx, hin]) ?_
           refine aL 1 (by simp [go_sem, hwr1, hx1, hi0, hy, hwr2, hx, hin] <;> rfl) ?_
           refine al_nil ?_
           refine awp_seq (aR (by simp [go_sem, hwr1, hx1, hi0, hy, hwr2, hx, hin] <;> rfl) ?_)
           refine awp_cond (by first | rfl | (simp [go_sem, hwr1, hx1, hi0, hy, hwr2, hx, hin] <;> rfl)) (fun h13 => ?_) (fun h13 => ?_)
           ·refine awp_seq ?_
            refine aR (by simp [go_sem, hwr1, hx1, hi0, hy, hwr2, hx, hin] <;> rfl) ?_
            refine awp_ret ?_
            refine inBlock_ret ?_
            refine then_ret ?_
            refine then_ret ?_
            refine inBlock_ret ?_
            refine then_ret ?_
            refine ends_ret (by simp [go_sem] <;> rfl) (by simp [go_sem]) ?_
            have hs : body1 ps b d = cexpr ps (inb b d k) x := by rw [hn, hst]; simp only [Bool.not_true, hwr1, hx1, hi0, hy, hwr2, hx, hin, h0, h1, h2, h3, h4, hky, h5, h6, h7, h8, h9, hin, h13, bA, bB, bC, bD, bE, bF, bG, bH, bI, bJ, Bool.false_eq_true, if_true, if_false]
            exact ⟨by simp [go_sem, hs, hwr1, hx1, hi0, hy, hwr2, hx, hin, h0, h1, h2, h3, h4, hky, h5, h6, h7, h8, h9, hin, h13], by simp [go_sem]⟩
           ·refine awp_skip ?_
            refine aR (by simp [go_sem, hwr1, hx1, hi0, hy, hwr2, hx, hin] <;> rfl) ?_
            exact next_intro (k + 1) σ.objs.length σ.toks.length 1 (⟨hlt, by rw [hn, hst]; simp only [h0, h1, h2, h3, h4, hky, h5, h6, h7, h8, h9, hin, h13, bA, bB, bC, bD, bE, bF, bG, bH, bI, bJ, Bool.false_eq_true, if_true, if_false]⟩) (by omega) ⟨by simp [go_sem, hwr1, hx1, hi0, hy, hwr2, hx, hin, hw], rfl, by simp, by simp, by simp [go_sem, hwr1, hx1, hi0, hy, hwr2, hx, hin, hw], fun ob h => .inl (by simpa [go_sem, hwr1, hx1, hi0, hy, hwr2, hx, hin, hw] using h), by simp [go_sem]⟩
         ·have hke : k = (kidsR d).length := by simp at h8; omega
          subst hke
          refine awp_exit ?_
          refine then_exit ?_
          refine then_exit ?_
          refine inBlock_hit ?_
          refine awp_seq (aR (by simp [go_sem, hwr1, hx1, hi0, hy, hwr2] <;> rfl) ?_)
          refine awp_ret ?_
          refine ends_ret (by simp [go_sem] <;> rfl) (by simp [go_sem]) ?_
          have hs : body1 ps b d = 0 := by rw [hn, List.drop_length]; rfl
          exact ⟨by simp [go_sem, hs], by simp [go_sem]⟩
       ·refine aK 6 57 true ?_
        refine aL 1 (by simp [go_sem, hwr1, hx1, hi0, hy, hwr2] <;> rfl) ?_
        refine al_nil ?_
        refine awp_cond (b := false) (by simp [go_sem, hwr1, hx1, hi0, hy, hwr2, h0, h1, h2, h3, h4, hky, h5, h6]) (fun h => ?_) (fun h => ?_)
        ·cases h
        refine awp_skip ?_
        refine awp_seq ?_
        have hgo : body1 ps b d = goB ps b d 0 (kidsR d) := by unfold body1; simp only [eCall, hwr1, hx1, hi0, hy, hwr2, h0, h1, h2, h3, h4, hky, h5, h6, bA, bB, bC, bD, bE, bF, bG, bH, bI, bJ, Bool.false_eq_true, if_true, if_false]
        refine awp_reg ?_
        refine aL 1 (by simp [go_sem, hwr1, hx1, hi0, hy, hwr2] <;> rfl) ?_
        refine aF call88 ((c_Kids d (form_two hfm)) _ (by exact hgl)) (by simp [go_sem, hwr1, hx1, hi0, hy, hwr2] <;> rfl) (by simp [go_sem, hwr1, hx1, hi0, hy, hwr2]) ?_
        refine aL 1 (by simp [go_sem, hwr1, hx1, hi0, hy, hwr2] <;> rfl) ?_
        refine al_nil ?_
        refine awp_seq (awp_seq (aR (by simp [go_sem, hwr1, hx1, hi0, hy, hwr2] <;> rfl) ?_))
        refine awp_block ?_
        refine awp_loop_headK σ.objs.length σ.toks.length 1 [0, 2, 4, 6, 7, 11] (fun k : Nat => [(12, .pv (.int .i64 ↑k))]) (fun k => σ) (fun k => k ≤ (kidsR d).length ∧ body1 ps b d = goB ps b d k ((kidsR d).drop k)) (fun k => (kidsR d).length - k) 0 (⟨Nat.zero_le _, by rw [hgo]; rfl⟩) ⟨by simp [go_sem, hwr1, hx1, hi0, hy, hwr2], rfl, by simp, by simp, by simp [go_sem, hwr1, hx1, hi0, hy, hwr2], fun ob h => .inl (by simpa [go_sem, hwr1, hx1, hi0, hy, hwr2] using h), by simp [go_sem]⟩ ?_
        rintro k ⟨hk, hn⟩
        refine awp_seq (awp_seq (aR (by simp [go_sem, hwr1, hx1, hi0, hy, hwr2] <;> rfl) ?_))
        refine awp_cond (by first | rfl | (simp [go_sem, hwr1, hx1, hi0, hy, hwr2] <;> rfl)) (fun h14 => ?_) (fun h14 => ?_)
        ·have hlt : k < (kidsR d).length := by simp at h14; omega
         have hw : IntKind.i64.wrap (↑k + 1) = (k : Int) + 1 := wrap_succ (by omega)
         obtain ⟨x, hx, hxm⟩ := get_lt hlt
         have hst := goB_step (ps := ps) (b := b) hx
         refine awp_skip ?_
         refine awp_seq (awp_block ?_)
         refine awp_seq (aR (by simp [go_sem, hwr1, hx1, hi0, hy, hwr2, hx] <;> rfl) ?_)
         refine awp_seq (awp_seq (awp_reg ?_))
         refine aL 3 (by simp [go_sem, hwr1, hx1, hi0, hy, hwr2, hx] <;> rfl) ?_
         refine al_splitT 76 (by first | rfl | (simp [go_sem, hwr1, hx1, hi0, hy, hwr2, hx] <;> rfl)) (fun h15 => ?_) (fun h15 => ?_)
         ·have hA := h15
          refine aLG 2 76 true (by simp [go_sem, hwr1, hx1, hi0, hy, hwr2, hx] <;> rfl) ?_
          refine aL 1 (by simp [go_sem, hwr1, hx1, hi0, hy, hwr2, hx] <;> rfl) ?_
          refine al_nil ?_
          refine awp_cond (by first | rfl | (simp [go_sem, hwr1, hx1, hi0, hy, hwr2, hx] <;> rfl)) (fun h16 => ?_) (fun h16 => ?_)
          ·have h2m := form_two hfm (.inl (of_decide_eq_true hA))
           have hy1 := get_d1 h2m
           have hin : inb b d k = b ++ [(d1 d.kids).text] := inb_yes hA h16
           have hbb : (b.length + 1) * 16 ≤ 140737488355328 := by omega
           have hb16 : b.length * 16 ≤ 140737488355328 := by omega
           refine awp_regDP tyOk tySz 9 (by kernel_rfl) (by decide) ?_
           refine ul_run 9 (by simp [go_sem, hwr1, hx1, hi0, hy, hwr2, hx, hy1, hin, hbb, hb16, allSz_str] <;> rfl) ?_
           refine ul_nil ?_
           refine aL 2 (by simp [go_sem, hwr1, hx1, hi0, hy, hwr2, hx, hy1, hin, hbb, hb16, allSz_str] <;> rfl) ?_
           refine al_nil ?_
           refine awp_seq (awp_reg ?_)
           refine aL 6 (by simp [go_sem, hwr1, hx1, hi0, hy, hwr2, hx, hy1, hin, hbb, hb16, allSz_str] <;> rfl) ?_
           refine aF call44 (ih x (kidsR_mem hxm) (inb b d k) _ (by exact hgl) (formed_kids hf (kidsR_mem hxm)) (by have := D.size_kid_lt (kidsR_mem hxm); have := inb_len b d k; omega)) (by simp [go_sem, hwr1, hx1, hi0, hy, hwr2, hx, hy1, hin, hbb, hb16, allSz_str] <;> rfl) (by simp [go_sem, hwr1, hx1, hi0, hy, hwr2, hx, hy1, hin, hbb, hb16, allSz_str]) ?_
           refine aL 1 (by simp [go_sem, hwr1, hx1, hi0, hy, hwr2, hx, hy1, hin, hbb, hb16, allSz_str] <;> rfl) ?_
           refine al_nil ?_
           refine awp_seq (aR (by simp [go_sem, hwr1, hx1, hi0, hy, hwr2, hx, hy1, hin, hbb, hb16, allSz_str] <;> rfl) ?_)
           refine awp_cond (by first | rfl | (simp [go_sem, hwr1, hx1, hi0, hy, hwr2, hx, hy1, hin, hbb, hb16, allSz_str] <;> rfl)) (fun h17 => ?_) (fun h17 => ?_)
           ·refine awp_seq ?_
            refine aR (by simp [go_sem, hwr1, hx1, hi0, hy, hwr2, hx, hy1, hin, hbb, hb16, allSz_str] <;> rfl) ?_
            refine awp_ret ?_
            refine inBlock_ret ?_
            refine then_ret ?_
            refine then_ret ?_
            refine inBlock_ret ?_
            refine then_ret ?_
            refine ends_ret (by simp [go_sem] <;> rfl) (by simp [go_sem]) ?_
            have hs : body1 ps b d = cexpr ps (inb b d k) x := by rw [hn, hst]; simp only [Bool.not_true, hwr1, hx1, hi0, hy, hwr2, hx, hy1, hin, hbb, hb16, allSz_str, h0, h1, h2, h3, h4, hky, h5, h6, h14, h15, h16, hin, h17, bA, bB, bC, bD, bE, bF, bG, bH, bI, bJ, Bool.false_eq_true, if_true, if_false]
            exact ⟨by simp [go_sem, hs, hwr1, hx1, hi0, hy, hwr2, hx, hy1, hin, hbb, hb16, allSz_str, h0, h1, h2, h3, h4, hky, h5, h6, h14, h15, h16, hin, h17], by simp [go_sem]⟩
           ·refine awp_skip ?_
            refine aR (by simp [go_sem, hwr1, hx1, hi0, hy, hwr2, hx, hy1, hin, hbb, hb16, allSz_str] <;> rfl) ?_
            exact next_intro (k + 1) σ.objs.length σ.toks.length 1 (⟨hlt, by rw [hn, hst]; simp only [h0, h1, h2, h3, h4, hky, h5, h6, h14, h15, h16, hin, h17, bA, bB, bC, bD, bE, bF, bG, bH, bI, bJ, Bool.false_eq_true, if_true, if_false]⟩) (by omega) ⟨by simp [go_sem, hwr1, hx1, hi0, hy, hwr2, hx, hy1, hin, hbb, hb16, allSz_str, hw], rfl, by simp, by simp, by simp [go_sem, hwr1, hx1, hi0, hy, hwr2, hx, hy1, hin, hbb, hb16, allSz_str, hw], fun ob h => .inl (by simpa [go_sem, hwr1, hx1, hi0, hy, hwr2, hx, hy1, hin, hbb, hb16, allSz_str, hw] using h), by simp [go_sem]⟩
          ·have hin : inb b d k = b := inb_other h16
           refine awp_skip ?_
           refine awp_seq (awp_reg ?_)
           refine aL 6 (by simp [go_sem, hwr1, hx1, hi0, hy, hwr2, hx, hin] <;> rfl) ?_
           refine aF call44 (ih x (kidsR_mem hxm) (inb b d k) _ (by exact hgl) (formed_kids hf (kidsR_mem hxm)) (by have := D.size_kid_lt (kidsR_mem hxm); have := inb_len b d k; omega)) (by simp [go_sem, hwr1, hx1, hi0, hy, hwr2, hx, hin] <;> rfl) (by simp [go_sem, hwr1, hx1, hi0, hy, hwr2, hx, hin]) ?_
           refine aL 1 (by simp [go_sem, hwr1, hx1, hi0, hy, hwr2, hx, hin] <;> rfl) ?_
           refine al_nil ?_
           refine awp_seq (aR (by simp [go_sem, hwr1, hx1, hi0, hy, hwr2, hx, hin] <;> rfl) ?_)
           refine awp_cond (by first | rfl | (simp [go_sem, hwr1, hx1, hi0, hy, hwr2, hx, hin] <;> rfl)) (fun h18 => ?_) (fun h18 => ?_)
           ·refine awp_seq ?_
            refine aR (by simp [go_sem, hwr1, hx1, hi0, hy, hwr2, hx, hin] <;> rfl) ?_
            refine awp_ret ?_
            refine inBlock_ret ?_
            refine then_ret ?_
            refine then_ret ?_
            refine inBlock_ret ?_
            refine then_ret ?_
            refine ends_ret (by simp [go_sem] <;> rfl) (by simp [go_sem]) ?_
            have hs : body1 ps b d = cexpr ps (inb b d k) x := by rw [hn, hst]; simp only [Bool.not_true, hwr1, hx1, hi0, hy, hwr2, hx, hin, h0, h1, h2, h3, h4, hky, h5, h6, h14, h15, h16, hin, h18, bA, bB, bC, bD, bE, bF, bG, bH, bI, bJ, Bool.false_eq_true, if_true, if_false]
            exact ⟨by simp [go_sem, hs, hwr1, hx1, hi0, hy, hwr2, hx, hin, h0, h1, h2, h3, h4, hky, h5, h6, h14, h15, h16, hin, h18], by simp [go_sem]⟩
           ·refine awp_skip ?_
            refine aR (by simp [go_sem, hwr1, hx1, hi0, hy, hwr2, hx, hin] <;> rfl) ?_
            exact next_intro (k + 1) σ.objs.length σ.toks.length 1 (⟨hlt, by rw [hn, hst]; simp only [h0, h1, h2, h3, h4, hky, h5, h6, h14, h15, h16, hin, h18, bA, bB, bC, bD, bE, bF, bG, bH, bI, bJ, Bool.false_eq_true, if_true, if_false]⟩) (by omega) ⟨by simp [go_sem, hwr1, hx1, hi0, hy, hwr2, hx, hin, hw], rfl, by simp, by simp, by simp [go_sem, hwr1, hx1, hi0, hy, hwr2, hx, hin, hw], fun ob h => .inl (by simpa [go_sem, hwr1, hx1, hi0, hy, hwr2, hx, hin, hw] using h), by simp [go_sem]⟩
         ·have hin : inb b d k = b := inb_no h15
          refine aK 2 76 true ?_
          refine aL 1 (by simp [go_sem, hwr1, hx1, hi0, hy, hwr2, hx, hin] <;> rfl) ?_
          refine al_nil ?_
          refine awp_cond (b := false) (by simp [go_sem, hwr1, hx1, hi0, hy, hwr2, hx, hin, h0, h1, h2, h3, h4, hky, h5, h6, h14, h15, hin]) (fun h => ?_) (fun h => ?_)
          ·cases h
          refine awp_skip ?_
          refine awp_seq (awp_reg ?_)
          refine aL 6 (by simp [go_sem, hwr1, hx1, hi0, hy, hwr2, hx, hin] <;> rfl) ?_
          refine aF call44 (ih x (kidsR_mem hxm) (inb b d k) _ (by exact hgl) (formed_kids hf (kidsR_mem hxm)) (by have := D.size_kid_lt (kidsR_mem hxm); have := inb_len b d k; omega)) (by simp [go_sem, hwr1, hx1, hi0, hy, hwr2, hx, hin] <;> rfl) (by simp [go_sem, hwr1, hx1, hi0, hy, hwr2, hx, hin]) ?_
          refine aL 1 (by simp [go_sem, hwr1, hx1, hi0, hy, hwr2, hx, hin] <;> rfl) ?_
          refine al_nil ?_
          refine awp_seq (aR (by simp [go_sem, hwr1, hx1, hi0, hy, hwr2, hx, hin] <;> rfl) ?_)
          refine awp_cond (by first | rfl | (simp [go_sem, hwr1, hx1, hi0, hy, hwr2, hx, hin] <;> rfl)) (fun h19 => ?_) (fun h19 => ?_)
          ·refine awp_seq ?_
           refine aR (by simp [go_sem, hwr1, hx1, hi0, hy, hwr2, hx, hin] <;> rfl) ?_
           refine awp_ret ?_
           refine inBlock_ret ?_
           refine then_ret ?_
           refine then_ret ?_
           refine inBlock_ret ?_
           refine then_ret ?_
           refine ends_ret (by simp [go_sem] <;> rfl) (by simp [go_sem]) ?_
           have hs : body1 ps b d = cexpr ps (inb b d k) x := by rw [hn, hst]; simp only [Bool.not_true, hwr1, hx1, hi0, hy, hwr2, hx, hin, h0, h1, h2, h3, h4, hky, h5, h6, h14, h15, hin, h19, bA, bB, bC, bD, bE, bF, bG, bH, bI, bJ, Bool.false_eq_true, if_true, if_false]
           exact ⟨by simp [go_sem, hs, hwr1, hx1, hi0, hy, hwr2, hx, hin, h0, h1, h2, h3, h4, hky, h5, h6, h14, h15, hin, h19], by simp [go_sem]⟩
          ·refine awp_skip ?_
           refine aR (by simp [go_sem, hwr1, hx1, hi0, hy, hwr2, hx, hin] <;> rfl) ?_
           exact next_intro (k + 1) σ.objs.length σ.toks.length 1 (⟨hlt, by rw [hn, hst]; simp only [h0, h1, h2, h3, h4, hky, h5, h6, h14, h15, hin, h19, bA, bB, bC, bD, bE, bF, bG, bH, bI, bJ, Bool.false_eq_true, if_true, if_false]⟩) (by omega) ⟨by simp [go_sem, hwr1, hx1, hi0, hy, hwr2, hx, hin, hw], rfl, by simp, by simp, by simp [go_sem, hwr1, hx1, hi0, hy, hwr2, hx, hin, hw], fun ob h => .inl (by simpa [go_sem, hwr1, hx1, hi0, hy, hwr2, hx, hin, hw] using h), by simp [go_sem]⟩
        ·have hke : k = (kidsR d).length := by simp at h14; omega
         subst hke
         refine awp_exit ?_
         refine then_exit ?_
         refine then_exit ?_
         refine inBlock_hit ?_
         refine awp_seq (aR (by simp [go_sem, hwr1, hx1, hi0, hy, hwr2] <;> rfl) ?_)
         refine awp_ret ?_
         refine ends_ret (by simp [go_sem] <;> rfl) (by simp [go_sem]) ?_
         have hs : body1 ps b d = 0 := by rw [hn, List.drop_length]; rfl
         exact ⟨by simp [go_sem, hs], by simp [go_sem]⟩
    ·refine awp_skip ?_
     refine awp_seq (awp_seq (awp_reg ?_))
     refine aL 1 (by simp [go_sem, hwr1] <;> rfl) ?_
     refine aF call87 ((c_Arity07 (word d)) _ (by exact hgl)) (by simp [go_sem, hwr1] <;> rfl) (by simp [go_sem, hwr1]) ?_
     refine aL 5 (by simp [go_sem, hwr1] <;> rfl) ?_
     refine al_nil ?_
     refine awp_seq (awp_reg ?_)
     refine aL 2 (by simp [go_sem, hwr1] <;> rfl) ?_
     refine al_splitT 57 (by first | rfl | (simp [go_sem, hwr1] <;> rfl)) (fun h20 => ?_) (fun h20 => ?_)
     ·refine aLG 6 57 true (by simp [go_sem, hwr1] <;> rfl) ?_
      refine aL 1 (by simp [go_sem, hwr1] <;> rfl) ?_
      refine al_nil ?_
      refine awp_cond (by first | rfl | (simp [go_sem, hwr1] <;> rfl)) (fun h21 => ?_) (fun h21 => ?_)
      ·refine awp_seq ?_
       refine aR (by simp [go_sem, hwr1] <;> rfl) ?_
       refine awp_ret ?_
       refine then_ret ?_
       refine ends_ret (by simp [go_sem] <;> rfl) (by simp [go_sem]) ?_
       have hs : body1 ps b d = 11 := by unfold body1; simp only [eCall, hwr1, h0, h1, h2, h3, h20, h21, bA, bB, bC, bD, bE, bF, bG, bH, bI, bJ, Bool.false_eq_true, if_true, if_false]
       exact ⟨by simp [go_sem, hs], by simp [go_sem]⟩
      ·refine awp_skip ?_
       refine awp_seq ?_
       have hgo : body1 ps b d = goB ps b d 0 (kidsR d) := by unfold body1; simp only [eCall, hwr1, h0, h1, h2, h3, h20, h21, bA, bB, bC, bD, bE, bF, bG, bH, bI, bJ, Bool.false_eq_true, if_true, if_false]
       refine awp_reg ?_
       refine aL 1 (by simp [go_sem, hwr1] <;> rfl) ?_
       refine aF call88 ((c_Kids d (form_two hfm)) _ (by exact hgl)) (by simp [go_sem, hwr1] <;> rfl) (by simp [go_sem, hwr1]) ?_
       refine aL 1 (by simp [go_sem, hwr1] <;> rfl) ?_
       refine al_nil ?_
       refine awp_seq (awp_seq (aR (by simp [go_sem, hwr1] <;> rfl) ?_))
       refine awp_block ?_
       refine awp_loop_headK σ.objs.length σ.toks.length 1 [0, 2, 4, 6, 7, 11] (fun k : Nat => [(12, .pv (.int .i64 ↑k))]) (fun k => σ) (fun k => k ≤ (kidsR d).length ∧ body1 ps b d = goB ps b d k ((kidsR d).drop k)) (fun k => (kidsR d).length - k) 0 (⟨Nat.zero_le _, by rw [hgo]; rfl⟩) ⟨by simp [go_sem, hwr1], rfl, by simp, by simp, by simp [go_sem, hwr1], fun ob h => .inl (by simpa [go_sem, hwr1] using h), by simp [go_sem]⟩ ?_
       rintro k ⟨hk, hn⟩
       refine awp_seq (awp_seq (aR (by simp [go_sem, hwr1] <;> rfl) ?_))
       refine awp_cond (by first | rfl | (simp [go_sem, hwr1] <;> rfl)) (fun h22 => ?_) (fun h22 => ?_)
       ·have hlt : k < (kidsR d).length := by simp at h22; omega
        have hw : IntKind.i64.wrap (↑k + 1) = (k : Int) + 1 := wrap_succ (by omega)
        obtain ⟨x, hx, hxm⟩ := get_lt hlt
        have hst := goB_step (ps := ps) (b := b) hx
        refine awp_skip ?_
        refine awp_seq (awp_block ?_)
        refine awp_seq (aR (by simp [go_sem, hwr1, hx] <;> rfl) ?_)
        refine awp_seq (awp_seq (awp_reg ?_))
        refine aL 3 (by simp [go_sem, hwr1, hx] <;> rfl) ?_
        refine al_splitT 76 (by first | rfl | (simp [go_sem, hwr1, hx] <;> rfl)) (fun h23 => ?_) (fun h23 => ?_)
        ·have hA := h23
         refine aLG 2 76 true (by simp [go_sem, hwr1, hx] <;> rfl) ?_
         refine aL 1 (by simp [go_sem, hwr1, hx] <;> rfl) ?_
         refine al_nil ?_
         refine awp_cond (by first | rfl | (simp [go_sem, hwr1, hx] <;> rfl)) (fun h24 => ?_) (fun h24 => ?_)
         ·have h2m := form_two hfm (.inl (of_decide_eq_true hA))
          have hy1 := get_d1 h2m
          have hin : inb b d k = b ++ [(d1 d.kids).text] := inb_yes hA h24
          have hbb : (b.length + 1) * 16 ≤ 140737488355328 := by omega
          have hb16 : b.length * 16 ≤ 140737488355328 := by omega
          refine awp_regDP tyOk tySz 9 (by kernel_rfl) (by decide) ?_
          refine ul_run 9 (by simp [go_sem, hwr1, hx, hy1, hin, hbb, hb16, allSz_str] <;> rfl) ?_
          refine ul_nil ?_
          refine aL 2 (by simp [go_sem, hwr1, hx, hy1, hin, hbb, hb16, allSz_str] <;> rfl) ?_
          refine al_nil ?_
          refine awp_seq (awp_reg ?_)
          refine aL 6 (by simp [go_sem, hwr1, hx, hy1, hin, hbb, hb16, allSz_str] <;> rfl) ?_
          refine aF call44 (ih x (kidsR_mem hxm) (inb b d k) _ (by exact hgl) (formed_kids hf (kidsR_mem hxm)) (by have := D.size_kid_lt (kidsR_mem hxm); have := inb_len b d k; omega)) (by simp [go_sem, hwr1, hx, hy1, hin, hbb, hb16, allSz_str] <;> rfl) (by simp [go_sem, hwr1, hx, hy1, hin, hbb, hb16, allSz_str]) ?_
          refine aL 1 (by simp [go_sem, hwr1, hx, hy1, hin, hbb, hb16, allSz_str] <;> rfl) ?_
          refine al_nil ?_
          refine awp_seq (aR (by simp [go_sem, hwr1, hx, hy1, hin, hbb, hb16, allSz_str] <;> rfl) ?_)
          refine awp_cond (by first | rfl | (simp [go_sem, hwr1, hx, hy1, hin, hbb, hb16, allSz_str] <;> rfl)) (fun h25 => ?_) (fun h25 => ?_)
          ·refine awp_seq ?_
           refine aR (by simp [go_sem, hwr1, hx, hy1, hin, hbb, hb16, allSz_str] <;> rfl) ?_
           refine awp_ret ?_
           refine inBlock_ret ?_
           refine then_ret ?_
           refine then_ret ?_
           refine inBlock_ret ?_
           refine then_ret ?_
           refine ends_ret (by simp [go_sem] <;> rfl) (by simp [go_sem]) ?_
           have hs : body1 ps b d = cexpr ps (inb b d k) x := by rw [hn, hst]; simp only [Bool.not_true, hwr1, hx, hy1, hin, hbb, hb16, allSz_str, h0, h1, h2, h3, h20, h21, h22, h23, h24, hin, h25, bA, bB, bC, bD, bE, bF, bG, bH, bI, bJ, Bool.false_eq_true, if_true, if_false]
           exact ⟨by simp [go_sem, hs, hwr1, hx, hy1, hin, hbb, hb16, allSz_str, h0, h1, h2, h3, h20, h21, h22, h23, h24, hin, h25], by simp [go_sem]⟩
          ·refine awp_skip ?_
           refine aR (by simp [go_sem, hwr1, hx, hy1, hin, hbb, hb16, allSz_str] <;> rfl) ?_
           exact next_intro (k + 1) σ.objs.length σ.toks.length 1 (⟨hlt, by rw [hn, hst]; simp only [h0, h1, h2, h3, h20, h21, h22, h23, h24, hin, h25, bA, bB, bC, bD, bE, bF, bG, bH, bI, bJ, Bool.false_eq_true, if_true, if_false]⟩) (by omega) ⟨by simp [go_sem, hwr1, hx, hy1, hin, hbb, hb16, allSz_str, hw], rfl, by simp, by simp, by simp [go_sem, hwr1, hx, hy1, hin, hbb, hb16, allSz_str, hw], fun ob h => .inl (by simpa [go_sem, hwr1, hx, hy1, hin, hbb, hb16, allSz_str, hw] using h), by simp [go_sem]⟩
         ·have hin : inb b d k = b := inb_other h24
          refine awp_skip ?_
          refine awp_seq (awp_reg ?_)
          refine aL 6 (by simp [go_sem, hwr1, hx, hin] <;> rfl) ?_
          refine aF call44 (ih x (kidsR_mem hxm) (inb b d k) _ (by exact hgl) (formed_kids hf (kidsR_mem hxm)) (by have := D.size_kid_lt (kidsR_mem hxm); have := inb_len b d k; omega)) (by simp [go_sem, hwr1, hx, hin] <;> rfl) (by simp [go_sem, hwr1, hx, hin]) ?_
          refine aL 1 (by simp [go_sem, hwr1, hx, hin] <;> rfl) ?_
          refine al_nil ?_
          refine awp_seq (aR (by simp [go_sem, hwr1, hx, hin] <;> rfl) ?_)
          refine awp_cond (by first | rfl | (simp [go_sem, hwr1, hx, hin] <;> rfl)) (fun h26 => ?_) (fun h26 => ?_)
          ·refine awp_seq ?_
           refine aR (by simp [go_sem, hwr1, hx, hin] <;> rfl) ?_
           refine awp_ret ?_
           refine inBlock_ret ?_
           refine then_ret ?_
           refine then_ret ?_
           refine inBlock_ret ?_
           refine then_ret ?_
           refine ends_ret (by simp [go_sem] <;> rfl) (by simp [go_sem]) ?_
           have hs : body1 ps b d = cexpr ps (inb b d k) x := by rw [hn, hst]; simp only [Bool.not_true, hwr1, hx, hin, h0, h1, h2, h3, h20, h21, h22, h23, h24, hin, h26, bA, bB, bC, bD, bE, bF, bG, bH, bI, bJ, Bool.false_eq_true, if_true, if_false]
           exact ⟨by simp [go_sem, hs, hwr1, hx, hin, h0, h1, h2, h3, h20, h21, h22, h23, h24, hin, h26], by simp [go_sem]⟩
          ·refine awp_skip ?_
           refine aR (by simp [go_sem, hwr1, hx, hin] <;> rfl) ?_
           exact next_intro (k + 1) σ.objs.length σ.toks.length 1 (⟨hlt, by rw [hn, hst]; simp only [h0, h1, h2, h3, h20, h21, h22, h23, h24, hin, h26, bA, bB, bC, bD, bE, bF, bG, bH, bI, bJ, Bool.false_eq_true, if_true, if_false]⟩) (by omega) ⟨by simp [go_sem, hwr1, hx, hin, hw], rfl, by simp, by simp, by simp [go_sem, hwr1, hx, hin, hw], fun ob h => .inl (by simpa [go_sem, hwr1, hx, hin, hw] using h), by simp [go_sem]⟩
        ·have hin : inb b d k = b := inb_no h23
         refine aK 2 76 true ?_
         refine aL 1 (by simp [go_sem, hwr1, hx, hin] <;> rfl) ?_
         refine al_nil ?_
         refine awp_cond (b := false) (by simp [go_sem, hwr1, hx, hin, h0, h1, h2, h3, h20, h21, h22, h23, hin]) (fun h => ?_) (fun h => ?_)
         ·cases h
         refine awp_skip ?_
         refine awp_seq (awp_reg ?_)
         refine aL 6 (by simp [go_sem, hwr1, hx, hin] <;> rfl) ?_
         refine aF call44 (ih x (kidsR_mem hxm) (inb b d k) _ (by exact hgl) (formed_kids hf (kidsR_mem hxm)) (by have := D.size_kid_lt (kidsR_mem hxm); have := inb_len b d k; omega)) (by simp [go_sem, hwr1, hx, hin] <;> rfl) (by simp [go_sem, hwr1, hx, hin]) ?_
         refine aL 1 (by simp [go_sem, hwr1, hx, hin] <;> rfl) ?_
         refine al_nil ?_
         refine awp_seq (aR (by simp [go_sem, hwr1, hx, hin] <;> rfl) ?_)
         refine awp_cond (by first | rfl | (simp [go_sem, hwr1, hx, hin] <;> rfl)) (fun h27 => ?_) (fun h27 => ?_)
         ·refine awp_seq ?_
          refine aR (by simp [go_sem, hwr1, hx, hin] <;> rfl) ?_
          refine awp_ret ?_
          refine inBlock_ret ?_
          refine then_ret ?_
          refine then_ret ?_
          refine inBlock_ret ?_
          refine then_ret ?_
          refine ends_ret (by simp [go_sem] <;> rfl) (by simp [go_sem]) ?_
          have hs : body1 ps b d = cexpr ps (inb b d k) x := by rw [hn, hst]; simp only [Bool.not_true, hwr1, hx, hin, h0, h1, h2, h3, h20, h21, h22, h23, hin, h27, bA, bB, bC, bD, bE, bF, bG, bH, bI, bJ, Bool.false_eq_true, if_true, if_false]
          exact ⟨by simp [go_sem, hs, hwr1, hx, hin, h0, h1, h2, h3, h20, h21, h22, h23, hin, h27], by simp [go_sem]⟩
         ·refine awp_skip ?_
          refine aR (by simp [go_sem, hwr1, hx, hin] <;> rfl) ?_
          exact next_intro (k + 1) σ.objs.length σ.toks.length 1 (⟨hlt, by rw [hn, hst]; simp only [h0, h1, h2, h3, h20, h21, h22, h23, hin, h27, bA, bB, bC, bD, bE, bF, bG, bH, bI, bJ, Bool.false_eq_true, if_true, if_false]⟩) (by omega) ⟨by simp [go_sem, hwr1, hx, hin, hw], rfl, by simp, by simp, by simp [go_sem, hwr1, hx, hin, hw], fun ob h => .inl (by simpa [go_sem, hwr1, hx, hin, hw] using h), by simp [go_sem]⟩
       ·have hke : k = (kidsR d).length := by simp at h22; omega
        subst hke
        refine awp_exit ?_
        refine then_exit ?_
        refine then_exit ?_
        refine inBlock_hit ?_
        refine awp_seq (aR (by simp [go_sem, hwr1] <;> rfl) ?_)
        refine awp_ret ?_
        refine ends_ret (by simp [go_sem] <;> rfl) (by simp [go_sem]) ?_
        have hs : body1 ps b d = 0 := by rw [hn, List.drop_length]; rfl
        exact ⟨by simp [go_sem, hs], by simp [go_sem]⟩
     ·refine aK 6 57 true ?_
      refine aL 1 (by simp [go_sem, hwr1] <;> rfl) ?_
      refine al_nil ?_
      refine awp_cond (b := false) (by simp [go_sem, hwr1, h0, h1, h2, h3, h20]) (fun h => ?_) (fun h => ?_)
      ·cases h
      refine awp_skip ?_
      refine awp_seq ?_
      have hgo : body1 ps b d = goB ps b d 0 (kidsR d) := by unfold body1; simp only [eCall, hwr1, h0, h1, h2, h3, h20, bA, bB, bC, bD, bE, bF, bG, bH, bI, bJ, Bool.false_eq_true, if_true, if_false]
      refine awp_reg ?_
      refine aL 1 (by simp [go_sem, hwr1] <;> rfl) ?_
      refine aF call88 ((c_Kids d (form_two hfm)) _ (by exact hgl)) (by simp [go_sem, hwr1] <;> rfl) (by simp [go_sem, hwr1]) ?_
      refine aL 1 (by simp [go_sem, hwr1] <;> rfl) ?_
      refine al_nil ?_
      refine awp_seq (awp_seq (aR (by simp [go_sem, hwr1] <;> rfl) ?_))
      refine awp_block ?_
      refine awp_loop_headK σ.objs.length σ.toks.length 1 [0, 2, 4, 6, 7, 11] (fun k : Nat => [(12, .pv (.int .i64 ↑k))]) (fun k => σ) (fun k => k ≤ (kidsR d).length ∧ body1 ps b d = goB ps b d k ((kidsR d).drop k)) (fun k => (kidsR d).length - k) 0 (⟨Nat.zero_le _, by rw [hgo]; rfl⟩) ⟨by simp [go_sem, hwr1], rfl, by simp, by simp, by simp [go_sem, hwr1], fun ob h => .inl (by simpa [go_sem, hwr1] using h), by simp [go_sem]⟩ ?_
      rintro k ⟨hk, hn⟩
      refine awp_seq (awp_seq (aR (by simp [go_sem, hwr1] <;> rfl) ?_))
      refine awp_cond (by first | rfl | (simp [go_sem, hwr1] <;> rfl)) (fun h28 => ?_) (fun h28 => ?_)
      ·have hlt : k < (kidsR d).length := by simp at h28; omega
       have hw : IntKind.i64.wrap (↑k + 1) = (k : Int) + 1 := wrap_succ (by omega)
       obtain ⟨x, hx, hxm⟩ := get_lt hlt
       have hst := goB_step (ps := ps) (b := b) hx
       refine awp_skip ?_
       refine awp_seq (awp_block ?_)
       refine awp_seq (aR (by simp [go_sem, hwr1, hx] <;> rfl) ?_)
       refine awp_seq (awp_seq (awp_reg ?_))
       refine aL 3 (by simp [go_sem, hwr1, hx] <;> rfl) ?_
       refine al_splitT 76 (by first | rfl | (simp [go_sem, hwr1, hx] <;> rfl)) (fun h29 => ?_) (fun h29 => ?_)
       ·have hA := h29
        refine aLG 2 76 true (by simp [go_sem, hwr1, hx] <;> rfl) ?_
        refine aL 1 (by simp [go_sem, hwr1, hx] <;> rfl) ?_
        refine al_nil ?_
        refine awp_cond (by first | rfl | (simp [go_sem, hwr1, hx] <;> rfl)) (fun h30 => ?_) (fun h30 => ?_)
        ·have h2m := form_two hfm (.inl (of_decide_eq_true hA))
         have hy1 := get_d1 h2m
         have hin : inb b d k = b ++ [(d1 d.kids).text] := inb_yes hA h30
         have hbb : (b.length + 1) * 16 ≤ 140737488355328 := by omega
         have hb16 : b.length * 16 ≤ 140737488355328 := by omega
         refine awp_regDP tyOk tySz 9 (by kernel_rfl) (by decide) ?_
         refine ul_run 9 (by simp [go_sem, hwr1, hx, hy1, hin, hbb, hb16, allSz_str] <;> rfl) ?_
         refine ul_nil ?_
         refine aL 2 (by simp [go_sem, hwr1, hx, hy1, hin, hbb, hb16, allSz_str] <;> rfl) ?_
         refine al_nil ?_
         refine awp_seq (awp_reg ?_)
         refine aL 6 (by simp [go_sem, hwr1, hx, hy1, hin, hbb, hb16, allSz_str] <;> rfl) ?_
         refine aF call44 (ih x (kidsR_mem hxm) (inb b d k) _ (by exact hgl) (formed_kids hf (kidsR_mem hxm)) (by have := D.size_kid_lt (kidsR_mem hxm); have := inb_len b d k; omega)) (by simp [go_sem, hwr1, hx, hy1, hin, hbb, hb16, allSz_str] <;> rfl) (by simp [go_sem, hwr1, hx, hy1, hin, hbb, hb16, allSz_str]) ?_
         refine aL 1 (by simp [go_sem, hwr1, hx, hy1, hin, hbb, hb16, allSz_str] <;> rfl) ?_
         refine al_nil ?_
         refine awp_seq (aR (by simp [go_sem, hwr1, hx, hy1, hin, hbb, hb16, allSz_str] <;> rfl) ?_)
         refine awp_cond (by first | rfl | (simp [go_sem, hwr1, hx, hy1, hin, hbb, hb16, allSz_str] <;> rfl)) (fun h31 => ?_) (fun h31 => ?_)
         ·refine awp_seq ?_
          refine aR (by simp [go_sem, hwr1, hx, hy1, hin, hbb, hb16, allSz_str] <;> rfl) ?_
          refine awp_ret ?_
          refine inBlock_ret ?_
          refine then_ret ?_
          refine then_ret ?_
          refine inBlock_ret ?_
          refine then_ret ?_
          refine ends_ret (by simp [go_sem] <;> rfl) (by simp [go_sem]) ?_
          have hs : body1 ps b d = cexpr ps (inb b d k) x := by rw [hn, hst]; simp only [Bool.not_true, hwr1, hx, hy1, hin, hbb, hb16, allSz_str, h0, h1, h2, h3, h20, h28, h29, h30, hin, h31, bA, bB, bC, bD, bE, bF, bG, bH, bI, bJ, Bool.false_eq_true, if_true, if_false]
          exact ⟨by simp [go_sem, hs, hwr1, hx, hy1, hin, hbb, hb16, allSz_str, h0, h1, h2, h3, h20, h28, h29, h30, hin, h31], by simp [go_sem]⟩
         ·refine awp_skip ?_
          refine aR (by simp [go_sem, hwr1, hx, hy1, hin, hbb, hb16, allSz_str] <;> rfl) ?_
          exact next_intro (k + 1) σ.objs.length σ.toks.length 1 (⟨hlt, by rw [hn, hst]; simp only [h0, h1, h2, h3, h20, h28, h29, h30, hin, h31, bA, bB, bC, bD, bE, bF, bG, bH, bI, bJ, Bool.false_eq_true, if_true, if_false]⟩) (by omega) ⟨by simp [go_sem, hwr1, hx, hy1, hin, hbb, hb16, allSz_str, hw], rfl, by simp, by simp, by simp [go_sem, hwr1, hx, hy1, hin, hbb, hb16, allSz_str, hw], fun ob h => .inl (by simpa [go_sem, hwr1, hx, hy1, hin, hbb, hb16, allSz_str, hw] using h), by simp [go_sem]⟩
        ·have hin : inb b d k = b := inb_other h30
         refine awp_skip ?_
         refine awp_seq (awp_reg ?_)
         refine aL 6 (by simp [go_sem, hwr1, hx, hin] <;> rfl) ?_
         refine aF call44 (ih x (kidsR_mem hxm) (inb b d k) _ (by exact hgl) (formed_kids hf (kidsR_mem hxm)) (by have := D.size_kid_lt (kidsR_mem hxm); have := inb_len b d k; omega)) (by simp [go_sem, hwr1, hx, hin] <;> rfl) (by simp [go_sem, hwr1, hx, hin]) ?_
         refine aL 1 (by simp [go_sem, hwr1, hx, hin] <;> rfl) ?_
         refine al_nil ?_
         refine awp_seq (aR (by simp [go_sem, hwr1, hx, hin] <;> rfl) ?_)
         refine awp_cond (by first | rfl | (simp [go_sem, hwr1, hx, hin] <;> rfl)) (fun h32 => ?_) (fun h32 => ?_)
         ·refine awp_seq ?_
          refine aR (by simp [go_sem, hwr1, hx, hin] <;> rfl) ?_
          refine awp_ret ?_
          refine inBlock_ret ?_
          refine then_ret ?_
          refine then_ret ?_
          refine inBlock_ret ?_
          refine then_ret ?_
          refine ends_ret (by simp [go_sem] <;> rfl) (by simp [go_sem]) ?_
          have hs : body1 ps b d = cexpr ps (inb b d k) x := by rw [hn, hst]; simp only [Bool.not_true, hwr1, hx, hin, h0, h1, h2, h3, h20, h28, h29, h30, hin, h32, bA, bB, bC, bD, bE, bF, bG, bH, bI, bJ, Bool.false_eq_true, if_true, if_false]
          exact ⟨by simp [go_sem, hs, hwr1, hx, hin, h0, h1, h2, h3, h20, h28, h29, h30, hin, h32], by simp [go_sem]⟩
         ·refine awp_skip ?_
          refine aR (by simp [go_sem, hwr1, hx, hin] <;> rfl) ?_
          exact next_intro (k + 1) σ.objs.length σ.toks.length 1 (⟨hlt, by rw [hn, hst]; simp only [h0, h1, h2, h3, h20, h28, h29, h30, hin, h32, bA, bB, bC, bD, bE, bF, bG, bH, bI, bJ, Bool.false_eq_true, if_true, if_false]⟩) (by omega) ⟨by simp [go_sem, hwr1, hx, hin, hw], rfl, by simp, by simp, by simp [go_sem, hwr1, hx, hin, hw], fun ob h => .inl (by simpa [go_sem, hwr1, hx, hin, hw] using h), by simp [go_sem]⟩
       ·have hin : inb b d k = b := inb_no h29
        refine aK 2 76 true ?_
        refine aL 1 (by simp [go_sem, hwr1, hx, hin] <;> rfl) ?_
        refine al_nil ?_
        refine awp_cond (b := false) (by simp [go_sem, hwr1, hx, hin, h0, h1, h2, h3, h20, h28, h29, hin]) (fun h => ?_) (fun h => ?_)
        ·cases h
        refine awp_skip ?_
        refine awp_seq (awp_reg ?_)
        refine aL 6 (by simp [go_sem, hwr1, hx, hin] <;> rfl) ?_
        refine aF call44 (ih x (kidsR_mem hxm) (inb b d k) _ (by exact hgl) (formed_kids hf (kidsR_mem hxm)) (by have := D.size_kid_lt (kidsR_mem hxm); have := inb_len b d k; omega)) (by simp [go_sem, hwr1, hx, hin] <;> rfl) (by simp [go_sem, hwr1, hx, hin]) ?_
        refine aL 1 (by simp [go_sem, hwr1, hx, hin] <;> rfl) ?_
        refine al_nil ?_
        refine awp_seq (aR (by simp [go_sem, hwr1, hx, hin] <;> rfl) ?_)
        refine awp_cond (by first | rfl | (simp [go_sem, hwr1, hx, hin] <;> rfl)) (fun h33 => ?_) (fun h33 => ?_)
        ·refine awp_seq ?_
         refine aR (by simp [go_sem, hwr1, hx, hin] <;> rfl) ?_
         refine awp_ret ?_
         refine inBlock_ret ?_
         refine then_ret ?_
         refine then_ret ?_
         refine inBlock_ret ?_
         refine then_ret ?_
         refine ends_ret (by simp [go_sem] <;> rfl) (by simp [go_sem]) ?_
         have hs : body1 ps b d = cexpr ps (inb b d k) x := by rw [hn, hst]; simp only [Bool.not_true, hwr1, hx, hin, h0, h1, h2, h3, h20, h28, h29, hin, h33, bA, bB, bC, bD, bE, bF, bG, bH, bI, bJ, Bool.false_eq_true, if_true, if_false]
         exact ⟨by simp [go_sem, hs, hwr1, hx, hin, h0, h1, h2, h3, h20, h28, h29, hin, h33], by simp [go_sem]⟩
        ·refine awp_skip ?_
         refine aR (by simp [go_sem, hwr1, hx, hin] <;> rfl) ?_
         exact next_intro (k + 1) σ.objs.length σ.toks.length 1 (⟨hlt, by rw [hn, hst]; simp only [h0, h1, h2, h3, h20, h28, h29, hin, h33, bA, bB, bC, bD, bE, bF, bG, bH, bI, bJ, Bool.false_eq_true, if_true, if_false]⟩) (by omega) ⟨by simp [go_sem, hwr1, hx, hin, hw], rfl, by simp, by simp, by simp [go_sem, hwr1, hx, hin, hw], fun ob h => .inl (by simpa [go_sem, hwr1, hx, hin, hw] using h), by simp [go_sem]⟩
      ·have hke : k = (kidsR d).length := by simp at h28; omega
       subst hke
       refine awp_exit ?_
       refine then_exit ?_
       refine then_exit ?_
       refine inBlock_hit ?_
       refine awp_seq (aR (by simp [go_sem, hwr1] <;> rfl) ?_)
       refine awp_ret ?_
       refine ends_ret (by simp [go_sem] <;> rfl) (by simp [go_sem]) ?_
       have hs : body1 ps b d = 0 := by rw [hn, List.drop_length]; rfl
       exact ⟨by simp [go_sem, hs], by simp [go_sem]⟩
  ·refine aK 5 21 true ?_
   refine aL 1 (by simp [go_sem, hwr1] <;> rfl) ?_
   refine al_nil ?_
   refine awp_cond (b := false) (by simp [go_sem, hwr1, h0, h1]) (fun h => ?_) (fun h => ?_)
   ·cases h
   refine awp_skip ?_
   refine awp_seq (awp_reg ?_)
   refine aL 1 (by simp [go_sem, hwr1] <;> rfl) ?_
   refine aF call82 ((c_Word d) _ (by exact hgl)) (by simp [go_sem, hwr1] <;> rfl) (by simp [go_sem, hwr1]) ?_
   refine aL 1 (by simp [go_sem, hwr1] <;> rfl) ?_
   refine al_nil ?_
   refine awp_seq (awp_seq (aR (by simp [go_sem, hwr1] <;> rfl) ?_))
   refine awp_cond (by first | rfl | (simp [go_sem, hwr1] <;> rfl)) (fun h34 => ?_) (fun h34 => ?_)
   ·have hwc : word d = sCall := of_decide_eq_true h34
    have h2l := form_two hfm (.inr hwc)
    obtain ⟨hlb, hlf⟩ := form_call hfm hf hwc
    have hx1 := get_d1 h2l
    refine awp_seq (awp_reg ?_)
    refine aL 5 (by simp [go_sem, hwr1, hx1] <;> rfl) ?_
    refine aF call39 ((c_Find l hll (d1 d.kids) (fun x hx => (hls x hx).1)) _ (by exact hgl)) (by simp [go_sem, hwr1, hx1] <;> rfl) (by simp [go_sem, hwr1, hx1]) ?_
    refine aL 1 (by simp [go_sem, hwr1, hx1] <;> rfl) ?_
    refine al_nil ?_
    refine awp_seq (awp_seq (aR (by simp [go_sem, hwr1, hx1] <;> rfl) ?_))
    refine awp_cond (by first | rfl | (simp [go_sem, hwr1, hx1] <;> rfl)) (fun h35 => ?_) (fun h35 => ?_)
    ·have hkn := H.neg hlb hlf (by simpa using h35)
     refine awp_seq (aR (by simp [go_sem, hwr1, hx1] <;> rfl) ?_)
     refine awp_ret ?_
     refine then_ret ?_
     refine then_ret ?_
     refine ends_ret (by simp [go_sem] <;> rfl) (by simp [go_sem]) ?_
     have hs : body1 ps b d = 5 := by unfold body1; simp only [eCall, hwr1, hx1, h0, h1, h34, h35, hkn, bA, bB, bC, bD, bE, bF, bG, bH, bI, bJ, Bool.false_eq_true, if_true, if_false]
     exact ⟨by simp [go_sem, hs], by simp [go_sem]⟩
    ·obtain ⟨hi0, y, hy, hky⟩ := H.pos hlb hlf (by simpa using h35)
     have hwr2 : IntKind.i64.wrap ((d.kids.length : Int) - 2) = (d.kids.length : Int) - 2 := wrap_id (by omega) (by omega)
     refine awp_skip ?_
     refine awp_seq (awp_regDP tyOk tySz 10 (by kernel_rfl) (by decide) ?_)
     refine ul_run 10 (by simp [go_sem, hwr1, hx1, hi0, hy, hwr2] <;> rfl) ?_
     refine ul_nil ?_
     refine aL 1 (by simp [go_sem, hwr1, hx1, hi0, hy, hwr2] <;> rfl) ?_
     refine al_nil ?_
     refine awp_cond (by first | rfl | (simp [go_sem, hwr1, hx1, hi0, hy, hwr2] <;> rfl)) (fun h36 => ?_) (fun h36 => ?_)
     ·refine awp_seq ?_
      refine aR (by simp [go_sem, hwr1, hx1, hi0, hy, hwr2] <;> rfl) ?_
      refine awp_ret ?_
      refine then_ret ?_
      refine ends_ret (by simp [go_sem] <;> rfl) (by simp [go_sem]) ?_
      have hs : body1 ps b d = 11 := by unfold body1; simp only [eCall, hwr1, hx1, hi0, hy, hwr2, h0, h1, h34, h35, hky, h36, bA, bB, bC, bD, bE, bF, bG, bH, bI, bJ, Bool.false_eq_true, if_true, if_false]
      exact ⟨by simp [go_sem, hs], by simp [go_sem]⟩
     ·refine awp_skip ?_
      refine awp_seq (awp_seq (awp_reg ?_))
      refine aL 1 (by simp [go_sem, hwr1, hx1, hi0, hy, hwr2] <;> rfl) ?_
      refine aF call87 ((c_Arity07 (word d)) _ (by exact hgl)) (by simp [go_sem, hwr1, hx1, hi0, hy, hwr2] <;> rfl) (by simp [go_sem, hwr1, hx1, hi0, hy, hwr2]) ?_
      refine aL 5 (by simp [go_sem, hwr1, hx1, hi0, hy, hwr2] <;> rfl) ?_
      refine al_nil ?_
      refine awp_seq (awp_reg ?_)
      refine aL 2 (by simp [go_sem, hwr1, hx1, hi0, hy, hwr2] <;> rfl) ?_
      refine al_splitT 57 (by first | rfl | (simp [go_sem, hwr1, hx1, hi0, hy, hwr2] <;> rfl)) (fun h37 => ?_) (fun h37 => ?_)
      ·refine aLG 6 57 true (by simp [go_sem, hwr1, hx1, hi0, hy, hwr2] <;> rfl) ?_
       refine aL 1 (by simp [go_sem, hwr1, hx1, hi0, hy, hwr2] <;> rfl) ?_
       refine al_nil ?_
       refine awp_cond (by first | rfl | (simp [go_sem, hwr1, hx1, hi0, hy, hwr2] <;> rfl)) (fun h38 => ?_) (fun h38 => ?_)
       ·refine awp_seq ?_
        refine aR (by simp [go_sem, hwr1, hx1, hi0, hy, hwr2] <;> rfl) ?_
        refine awp_ret ?_
        refine then_ret ?_
        refine ends_ret (by simp [go_sem] <;> rfl) (by simp [go_sem]) ?_
        have hs : body1 ps b d = 11 := by unfold body1; simp only [eCall, hwr1, hx1, hi0, hy, hwr2, h0, h1, h34, h35, hky, h36, h37, h38, bA, bB, bC, bD, bE, bF, bG, bH, bI, bJ, Bool.false_eq_true, if_true, if_false]
        exact ⟨by simp [go_sem, hs], by simp [go_sem]⟩
       ·refine awp_skip ?_
        refine awp_seq ?_
        have hgo : body1 ps b d = goB ps b d 0 (kidsR d) := by unfold body1; simp only [eCall, hwr1, hx1, hi0, hy, hwr2, h0, h1, h34, h35, hky, h36, h37, h38, bA, bB, bC, bD, bE, bF, bG, bH, bI, bJ, Bool.false_eq_true, if_true, if_false]
        refine awp_reg ?_
        refine aL 1 (by simp [go_sem, hwr1, hx1, hi0, hy, hwr2] <;> rfl) ?_
        refine aF call88 ((c_Kids d (form_two hfm)) _ (by exact hgl)) (by simp [go_sem, hwr1, hx1, hi0, hy, hwr2] <;> rfl) (by simp [go_sem, hwr1, hx1, hi0, hy, hwr2]) ?_
        refine aL 1 (by simp [go_sem, hwr1, hx1, hi0, hy, hwr2] <;> rfl) ?_
        refine al_nil ?_
        refine awp_seq (awp_seq (aR (by simp [go_sem, hwr1, hx1, hi0, hy, hwr2] <;> rfl) ?_))
        refine awp_block ?_
        refine awp_loop_headK σ.objs.length σ.toks.length 1 [0, 2, 4, 6, 7, 11] (fun k : Nat => [(12, .pv (.int .i64 ↑k))]) (fun k => σ) (fun k => k ≤ (kidsR d).length ∧ body1 ps b d = goB ps b d k ((kidsR d).drop k)) (fun k => (kidsR d).length - k) 0 (⟨Nat.zero_le _, by rw [hgo]; rfl⟩) ⟨by simp [go_sem, hwr1, hx1, hi0, hy, hwr2], rfl, by simp, by simp, by simp [go_sem, hwr1, hx1, hi0, hy, hwr2], fun ob h => .inl (by simpa [go_sem, hwr1, hx1, hi0, hy, hwr2] using h), by simp [go_sem]⟩ ?_
        rintro k ⟨hk, hn⟩
        refine awp_seq (awp_seq (aR (by simp [go_sem, hwr1, hx1, hi0, hy, hwr2] <;> rfl) ?_))
        refine awp_cond (by first | rfl | (simp [go_sem, hwr1, hx1, hi0, hy, hwr2] <;> rfl)) (fun h39 => ?_) (fun h39 => ?_)
        ·have hlt : k < (kidsR d).length := by simp at h39; omega
         have hw : IntKind.i64.wrap (↑k + 1) = (k : Int) + 1 := wrap_succ (by omega)
         obtain ⟨x, hx, hxm⟩ := get_lt hlt
         have hst := goB_step (ps := ps) (b := b) hx
         refine awp_skip ?_
         refine awp_seq (awp_block ?_)
         refine awp_seq (aR (by simp [go_sem, hwr1, hx1, hi0, hy, hwr2, hx] <;> rfl) ?_)
         refine awp_seq (awp_seq (awp_reg ?_))
         refine aL 3 (by simp [go_sem, hwr1, hx1, hi0, hy, hwr2, hx] <;> rfl) ?_
         refine al_splitT 76 (by first | rfl | (simp [go_sem, hwr1, hx1, hi0, hy, hwr2, hx] <;> rfl)) (fun h40 => ?_) (fun h40 => ?_)
         ·have hA := h40
          refine aLG 2 76 true (by simp [go_sem, hwr1, hx1, hi0, hy, hwr2, hx] <;> rfl) ?_
          refine aL 1 (by simp [go_sem, hwr1, hx1, hi0, hy, hwr2, hx] <;> rfl) ?_
          refine al_nil ?_
          refine awp_cond (by first | rfl | (simp [go_sem, hwr1, hx1, hi0, hy, hwr2, hx] <;> rfl)) (fun h41 => ?_) (fun h41 => ?_)
          ·have h2m := form_two hfm (.inl (of_decide_eq_true hA))
           have hy1 := get_d1 h2m
           have hin : inb b d k = b ++ [(d1 d.kids).text] := inb_yes hA h41
           have hbb : (b.length + 1) * 16 ≤ 140737488355328 := by omega
           have hb16 : b.length * 16 ≤ 140737488355328 := by omega
           refine awp_regDP tyOk tySz 9 (by kernel_rfl) (by decide) ?_
           refine ul_run 9 (by simp [go_sem, hwr1, hx1, hi0, hy, hwr2, hx, hy1, hin, hbb, hb16, allSz_str] <;> rfl) ?_
           refine ul_nil ?_
           refine aL 2 (by simp [go_sem, hwr1, hx1, hi0, hy, hwr2, hx, hy1, hin, hbb, hb16, allSz_str] <;> rfl) ?_
           refine al_nil ?_
           refine awp_seq (awp_reg ?_)
           refine aL 6 (by simp [go_sem, hwr1, hx1, hi0, hy, hwr2, hx, hy1, hin, hbb, hb16, allSz_str] <;> rfl) ?_
           refine aF call44 (ih x (kidsR_mem hxm) (inb b d k) _ (by exact hgl) (formed_kids hf (kidsR_mem hxm)) (by have := D.size_kid_lt (kidsR_mem hxm); have := inb_len b d k; omega)) (by simp [go_sem, hwr1, hx1, hi0, hy, hwr2, hx, hy1, hin, hbb, hb16, allSz_str] <;> rfl) (by simp [go_sem, hwr1, hx1, hi0, hy, hwr2, hx, hy1, hin, hbb, hb16, allSz_str]) ?_
           refine aL 1 (by simp [go_sem, hwr1, hx1, hi0, hy, hwr2, hx, hy1, hin, hbb, hb16, allSz_str] <;> rfl) ?_
           refine al_nil ?_
           refine awp_seq (aR (by simp [go_sem, hwr1, hx1, hi0, hy, hwr2, hx, hy1, hin, hbb, hb16, allSz_str] <;> rfl) ?_)
           refine awp_cond (by first | rfl | (simp [go_sem, hwr1, hx1, hi0, hy, hwr2, hx, hy1, hin, hbb, hb16, allSz_str] <;> rfl)) (fun h42 => ?_) (fun h42 => ?_)
           ·refine awp_seq ?_
            refine aR (by simp [go_sem, hwr1, hx1, hi0, hy, hwr2, hx, hy1, hin, hbb, hb16, allSz_str] <;> rfl) ?_
            refine awp_ret ?_
            refine inBlock_ret ?_
            refine then_ret ?_
            refine then_ret ?_
            refine inBlock_ret ?_
            refine then_ret ?_
            refine ends_ret (by simp [go_sem] <;> rfl) (by simp [go_sem]) ?_
            have hs : body1 ps b d = cexpr ps (inb b d k) x := by rw [hn, hst]; simp only [Bool.not_true, hwr1, hx1, hi0, hy, hwr2, hx, hy1, hin, hbb, hb16, allSz_str, h0, h1, h34, h35, hky, h36, h37, h38, h39, h40, h41, hin, h42, bA, bB, bC, bD, bE, bF, bG, bH, bI, bJ, Bool.false_eq_true, if_true, if_false]
            exact ⟨by simp [go_sem, hs, hwr1, hx1, hi0, hy, hwr2, hx, hy1, hin, hbb, hb16, allSz_str, h0, h1, h34, h35, hky, h36, h37, h38, h39, h40, h41, hin, h42], by simp [go_sem]⟩
           ·refine awp_skip ?_
            refine aR (by simp [go_sem, hwr1, hx1, hi0, hy, hwr2, hx, hy1, hin, hbb, hb16, allSz_str] <;> rfl) ?_
            exact next_intro (k + 1) σ.objs.length σ.toks.length 1 (⟨hlt, by rw [hn, hst]; simp only [h0, h1, h34, h35, hky, h36, h37, h38, h39, h40, h41, hin, h42, bA, bB, bC, bD, bE, bF, bG, bH, bI, bJ, Bool.false_eq_true, if_true, if_false]⟩) (by omega) ⟨by simp [go_sem, hwr1, hx1, hi0, hy, hwr2, hx, hy1, hin, hbb, hb16, allSz_str, hw], rfl, by simp, by simp, by simp [go_sem, hwr1, hx1, hi0, hy, hwr2, hx, hy1, hin, hbb, hb16, allSz_str, hw], fun ob h => .inl (by simpa [go_sem, hwr1, hx1, hi0, hy, hwr2, hx, hy1, hin, hbb, hb16, allSz_str, hw] using h), by simp [go_sem]⟩
          ·have hin : inb b d k = b := inb_other h41
           refine awp_skip ?_
           refine awp_seq (awp_reg ?_)
           refine aL 6 (by simp [go_sem, hwr1, hx1, hi0, hy, hwr2, hx, hin] <;> rfl) ?_
           refine aF call44 (ih x (kidsR_mem hxm) (inb b d k) _ (by exact hgl) (formed_kids hf (kidsR_mem hxm)) (by have := D.size_kid_lt (kidsR_mem hxm); have := inb_len b d k; omega)) (by simp [go_sem, hwr1, hx1, hi0, hy, hwr2, hx, hin] <;> rfl) (by simp [go_sem, hwr1, hx1, hi0, hy, hwr2, hx, hin]) ?_
           refine aL 1 (by simp [go_sem, hwr1, hx1, hi0, hy, hwr2, hx, hin] <;> rfl) ?_
           refine al_nil ?_
           refine awp_seq (aR (by simp [go_sem, hwr1, hx1, hi0, hy, hwr2, hx, hin] <;> rfl) ?_)
           refine awp_cond (by first | rfl | (simp [go_sem, hwr1, hx1, hi0, hy, hwr2, hx, hin] <;> rfl)) (fun h43 => ?_) (fun h43 => ?_)
           ·refine awp_seq ?_
            refine aR (by simp [go_sem, hwr1, hx1, hi0, hy, hwr2, hx, hin] <;> rfl) ?_
            refine awp_ret ?_
            refine inBlock_ret ?_
            refine then_ret ?_
            refine then_ret ?_
            refine inBlock_ret ?_
            refine then_ret ?_
            refine ends_ret (by simp [go_sem] <;> rfl) (by simp [go_sem]) ?_
            have hs : body1 ps b d = cexpr ps (inb b d k) x := by rw [hn, hst]; simp only [Bool.not_true, hwr1, hx1, hi0, hy, hwr2, hx, hin, h0, h1, h34, h35, hky, h36, h37, h38, h39, h40, h41, hin, h43, bA, bB, bC, bD, bE, bF, bG, bH, bI, bJ, Bool.false_eq_true, if_true, if_false]
            exact ⟨by simp [go_sem, hs, hwr1, hx1, hi0, hy, hwr2, hx, hin, h0, h1, h34, h35, hky, h36, h37, h38, h39, h40, h41, hin, h43], by simp [go_sem]⟩
           ·refine awp_skip ?_
            refine aR (by simp [go_sem, hwr1, hx1, hi0, hy, hwr2, hx, hin] <;> rfl) ?_
            exact next_intro (k + 1) σ.objs.length σ.toks.length 1 (⟨hlt, by rw [hn, hst]; simp only [h0, h1, h34, h35, hky, h36, h37, h38, h39, h40, h41, hin, h43, bA, bB, bC, bD, bE, bF, bG, bH, bI, bJ, Bool.false_eq_true, if_true, if_false]⟩) (by omega) ⟨by simp [go_sem, hwr1, hx1, hi0, hy, hwr2, hx, hin, hw], rfl, by simp, by simp, by simp [go_sem, hwr1, hx1, hi0, hy, hwr2, hx, hin, hw], fun ob h => .inl (by simpa [go_sem, hwr1, hx1, hi0, hy, hwr2, hx, hin, hw] using h), by simp [go_sem]⟩
         ·have hin : inb b d k = b := inb_no h40
          refine aK 2 76 true ?_
          refine aL 1 (by simp [go_sem, hwr1, hx1, hi0, hy, hwr2, hx, hin] <;> rfl) ?_
          refine al_nil ?_
          refine awp_cond (b := false) (by simp [go_sem, hwr1, hx1, hi0, hy, hwr2, hx, hin, h0, h1, h34, h35, hky, h36, h37, h38, h39, h40, hin]) (fun h => ?_) (fun h => ?_)
          ·cases h
          refine awp_skip ?_
          refine awp_seq (awp_reg ?_)
          refine aL 6 (by simp [go_sem, hwr1, hx1, hi0, hy, hwr2, hx, hin] <;> rfl) ?_
          refine aF call44 (ih x (kidsR_mem hxm) (inb b d k) _ (by exact hgl) (formed_kids hf (kidsR_mem hxm)) (by have := D.size_kid_lt (kidsR_mem hxm); have := inb_len b d k; omega)) (by simp [go_sem, hwr1, hx1, hi0, hy, hwr2, hx, hin] <;> rfl) (by simp [go_sem, hwr1, hx1, hi0, hy, hwr2, hx, hin]) ?_
          refine aL 1 (by simp [go_sem, hwr1, hx1, hi0, hy, hwr2, hx, hin] <;> rfl) ?_
          refine al_nil ?_
          refine awp_seq (aR (by simp [go_sem, hwr1, hx1, hi0, hy, hwr2, hx, hin] <;> rfl) ?_)
          refine awp_cond (by first | rfl | (simp [go_sem, hwr1, hx1, hi0, hy, hwr2, hx, hin] <;> rfl)) (fun h44 => ?_) (fun h44 => ?_)
          ·refine awp_seq ?_
           refine aR (by simp [go_sem, hwr1, hx1, hi0, hy, hwr2, hx, hin] <;> rfl) ?_
           refine awp_ret ?_
           refine inBlock_ret ?_
           refine then_ret ?_
           refine then_ret ?_
           refine inBlock_ret ?_
           refine then_ret ?_
           refine ends_ret (by simp [go_sem] <;> rfl) (by simp [go_sem]) ?_
           have hs : body1 ps b d = cexpr ps (inb b d k) x := by rw [hn, hst]; simp only [Bool.not_true, hwr1, hx1, hi0, hy, hwr2, hx, hin, h0, h1, h34, h35, hky, h36, h37, h38, h39, h40, hin, h44, bA, bB, bC, bD, bE, bF, bG, bH, bI, bJ, Bool.false_eq_true, if_true, if_false]
           exact ⟨by simp [go_sem, hs, hwr1, hx1, hi0, hy, hwr2, hx, hin, h0, h1, h34, h35, hky, h36, h37, h38, h39, h40, hin, h44], by simp [go_sem]⟩
          ·refine awp_skip ?_
           refine aR (by simp [go_sem, hwr1, hx1, hi0, hy, hwr2, hx, hin] <;> rfl) ?_
           exact next_intro (k + 1) σ.objs.length σ.toks.length 1 (⟨hlt, by rw [hn, hst]; simp only [h0, h1, h34, h35, hky, h36, h37, h38, h39, h40, hin, h44, bA, bB, bC, bD, bE, bF, bG, bH, bI, bJ, Bool.false_eq_true, if_true, if_false]⟩) (by omega) ⟨by simp [go_sem, hwr1, hx1, hi0, hy, hwr2, hx, hin, hw], rfl, by simp, by simp, by simp [go_sem, hwr1, hx1, hi0, hy, hwr2, hx, hin, hw], fun ob h => .inl (by simpa [go_sem, hwr1, hx1, hi0, hy, hwr2, hx, hin, hw] using h), by simp [go_sem]⟩
        ·have hke : k = (kidsR d).length := by simp at h39; omega
         subst hke
         refine awp_exit ?_
         refine then_exit ?_
         refine then_exit ?_
         refine inBlock_hit ?_
         refine awp_seq (aR (by simp [go_sem, hwr1, hx1, hi0, hy, hwr2] <;> rfl) ?_)
         refine awp_ret ?_
         refine ends_ret (by simp [go_sem] <;> rfl) (by simp [go_sem]) ?_
         have hs : body1 ps b d = 0 := by rw [hn, List.drop_length]; rfl
         exact ⟨by simp [go_sem, hs], by simp [go_sem]⟩
      ·refine aK 6 57 true ?_
       refine aL 1 (by simp [go_sem, hwr1, hx1, hi0, hy, hwr2] <;> rfl) ?_
       refine al_nil ?_
       refine awp_cond (b := false) (by simp [go_sem, hwr1, hx1, hi0, hy, hwr2, h0, h1, h34, h35, hky, h36, h37]) (fun h => ?_) (fun h => ?_)
       ·cases h
       refine awp_skip ?_
       refine awp_seq ?_
       have hgo : body1 ps b d = goB ps b d 0 (kidsR d) := by unfold body1; simp only [eCall, hwr1, hx1, hi0, hy, hwr2, h0, h1, h34, h35, hky, h36, h37, bA, bB, bC, bD, bE, bF, bG, bH, bI, bJ, Bool.false_eq_true, if_true, if_false]
       refine awp_reg ?_
       refine aL 1 (by simp [go_sem, hwr1, hx1, hi0, hy, hwr2] <;> rfl) ?_
       refine aF call88 ((c_Kids d (form_two hfm)) _ (by exact hgl)) (by simp [go_sem, hwr1, hx1, hi0, hy, hwr2] <;> rfl) (by simp [go_sem, hwr1, hx1, hi0, hy, hwr2]) ?_
       refine aL 1 (by simp [go_sem, hwr1, hx1, hi0, hy, hwr2] <;> rfl) ?_
       refine al_nil ?_
       refine awp_seq (awp_seq (aR (by simp [go_sem, hwr1, hx1, hi0, hy, hwr2] <;> rfl) ?_))
       refine awp_block ?_
       refine awp_loop_headK σ.objs.length σ.toks.length 1 [0, 2, 4, 6, 7, 11] (fun k : Nat => [(12, .pv (.int .i64 ↑k))]) (fun k => σ) (fun k => k ≤ (kidsR d).length ∧ body1 ps b d = goB ps b d k ((kidsR d).drop k)) (fun k => (kidsR d).length - k) 0 (⟨Nat.zero_le _, by rw [hgo]; rfl⟩) ⟨by simp [go_sem, hwr1, hx1, hi0, hy, hwr2], rfl, by simp, by simp, by simp [go_sem, hwr1, hx1, hi0, hy, hwr2], fun ob h => .inl (by simpa [go_sem, hwr1, hx1, hi0, hy, hwr2] using h), by simp [go_sem]⟩ ?_
       rintro k ⟨hk, hn⟩
       refine awp_seq (awp_seq (aR (by simp [go_sem, hwr1, hx1, hi0, hy, hwr2] <;> rfl) ?_))
       refine awp_cond (by first | rfl | (simp [go_sem, hwr1, hx1, hi0, hy, hwr2] <;> rfl)) (fun h45 => ?_) (fun h45 => ?_)
       ·have hlt : k < (kidsR d).length := by simp at h45; omega
        have hw : IntKind.i64.wrap (↑k + 1) = (k : Int) + 1 := wrap_succ (by omega)
        obtain ⟨x, hx, hxm⟩ := get_lt hlt
        have hst := goB_step (ps := ps) (b := b) hx
        refine awp_skip ?_
        refine awp_seq (awp_block ?_)
        refine awp_seq (aR (by simp [go_sem, hwr1, hx1, hi0, hy, hwr2, hx] <;> rfl) ?_)
        refine awp_seq (awp_seq (awp_reg ?_))
        refine aL 3 (by simp [go_sem, hwr1, hx1, hi0, hy, hwr2, hx] <;> rfl) ?_
        refine al_splitT 76 (by first | rfl | (simp [go_sem, hwr1, hx1, hi0, hy, hwr2, hx] <;> rfl)) (fun h46 => ?_) (fun h46 => ?_)
        ·have hA := h46
         refine aLG 2 76 true (by simp [go_sem, hwr1, hx1, hi0, hy, hwr2, hx] <;> rfl) ?_
         refine aL 1 (by simp [go_sem, hwr1, hx1, hi0, hy, hwr2, hx] <;> rfl) ?_
         refine al_nil ?_
         refine awp_cond (by first | rfl | (simp [go_sem, hwr1, hx1, hi0, hy, hwr2, hx] <;> rfl)) (fun h47 => ?_) (fun h47 => ?_)
         ·have h2m := form_two hfm (.inl (of_decide_eq_true hA))
          have hy1 := get_d1 h2m
          have hin : inb b d k = b ++ [(d1 d.kids).text] := inb_yes hA h47
          have hbb : (b.length + 1) * 16 ≤ 140737488355328 := by omega
          have hb16 : b.length * 16 ≤ 140737488355328 := by omega
          refine awp_regDP tyOk tySz 9 (by kernel_rfl) (by decide) ?_
          refine ul_run 9 (by simp [go_sem, hwr1, hx1, hi0, hy, hwr2, hx, hy1, hin, hbb, hb16, allSz_str] <;> rfl) ?_
          refine ul_nil ?_
          refine aL 2 (by simp [go_sem, hwr1, hx1, hi0, hy, hwr2, hx, hy1, hin, hbb, hb16, allSz_str] <;> rfl) ?_
          refine al_nil ?_
          refine awp_seq (awp_reg ?_)
          refine aL 6 (by simp [go_sem, hwr1, hx1, hi0, hy, hwr2, hx, hy1, hin, hbb, hb16, allSz_str] <;> rfl) ?_
          refine aF call44 (ih x (kidsR_mem hxm) (inb b d k) _ (by exact hgl) (formed_kids hf (kidsR_mem hxm)) (by have := D.size_kid_lt (kidsR_mem hxm); have := inb_len b d k; omega)) (by simp [go_sem, hwr1, hx1, hi0, hy, hwr2, hx, hy1, hin, hbb, hb16, allSz_str] <;> rfl) (by simp [go_sem, hwr1, hx1, hi0, hy, hwr2, hx, hy1, hin, hbb, hb16, allSz_str]) ?_
          refine aL 1 (by simp [go_sem, hwr1, hx1, hi0, hy, hwr2, hx, hy1, hin, hbb, hb16, allSz_str] <;> rfl) ?_
          refine al_nil ?_
          refine awp_seq (aR (by simp [go_sem, hwr1, hx1, hi0, hy, hwr2, hx, hy1, hin, hbb, hb16, allSz_str] <;> rfl) ?_)
          refine awp_cond (by first | rfl | (simp [go_sem, hwr1, hx1, hi0, hy, hwr2, hx, hy1, hin, hbb, hb16, allSz_str] <;> rfl)) (fun h48 => ?_) (fun h48 => ?_)
          ·refine awp_seq ?_
           refine aR (by simp [go_sem, hwr1, hx1, hi0, hy, hwr2, hx, hy1, hin, hbb, hb16, allSz_str] <;> rfl) ?_
           refine awp_ret ?_
           refine inBlock_ret ?_
           refine then_ret ?_
           refine then_ret ?_
           refine inBlock_ret ?_
           refine then_ret ?_
           refine ends_ret (by simp [go_sem] <;> rfl) (by simp [go_sem]) ?_
           have hs : body1 ps b d = cexpr ps (inb b d k) x := by rw [hn, hst]; simp only [Bool.not_true, hwr1, hx1, hi0, hy, hwr2, hx, hy1, hin, hbb, hb16, allSz_str, h0, h1, h34, h35, hky, h36, h37, h45, h46, h47, hin, h48, bA, bB, bC, bD, bE, bF, bG, bH, bI, bJ, Bool.false_eq_true, if_true, if_false]
           exact ⟨by simp [go_sem, hs, hwr1, hx1, hi0, hy, hwr2, hx, hy1, hin, hbb, hb16, allSz_str, h0, h1, h34, h35, hky, h36, h37, h45, h46, h47, hin, h48], by simp [go_sem]⟩
          ·refine awp_skip ?_
           refine aR (by simp [go_sem, hwr1, hx1, hi0, hy, hwr2, hx, hy1, hin, hbb, hb16, allSz_str] <;> rfl) ?_
           exact next_intro (k + 1) σ.objs.length σ.toks.length 1 (⟨hlt, by rw [hn, hst]; simp only [h0, h1, h34, h35, hky, h36, h37, h45, h46, h47, hin, h48, bA, bB, bC, bD, bE, bF, bG, bH, bI, bJ, Bool.false_eq_true, if_true, if_false]⟩) (by omega) ⟨by simp [go_sem, hwr1, hx1, hi0, hy, hwr2, hx, hy1, hin, hbb, hb16, allSz_str, hw], rfl, by simp, by simp, by simp [go_sem, hwr1, hx1, hi0, hy, hwr2, hx, hy1, hin, hbb, hb16, allSz_str, hw], fun ob h => .inl (by simpa [go_sem, hwr1, hx1, hi0, hy, hwr2, hx, hy1, hin, hbb, hb16, allSz_str, hw] using h), by simp [go_sem]⟩
         ·have hin : inb b d k = b := inb_other h47
          refine awp_skip ?_
          refine awp_seq (awp_reg ?_)
          refine aL 6 (by simp [go_sem, hwr1, hx1, hi0, hy, hwr2, hx, hin] <;> rfl) ?_
          refine aF call44 (ih x (kidsR_mem hxm) (inb b d k) _ (by exact hgl) (formed_kids hf (kidsR_mem hxm)) (by have := D.size_kid_lt (kidsR_mem hxm); have := inb_len b d k; omega)) (by simp [go_sem, hwr1, hx1, hi0, hy, hwr2, hx, hin] <;> rfl) (by simp [go_sem, hwr1, hx1, hi0, hy, hwr2, hx, hin]) ?_
          refine aL 1 (by simp [go_sem, hwr1, hx1, hi0, hy, hwr2, hx, hin] <;> rfl) ?_
          refine al_nil ?_
          refine awp_seq (aR (by simp [go_sem, hwr1, hx1, hi0, hy, hwr2, hx, hin] <;> rfl) ?_)
          refine awp_cond (by first | rfl | (simp [go_sem, hwr1, hx1, hi0, hy, hwr2, hx, hin] <;> rfl)) (fun h49 => ?_) (fun h49 => ?_)
          ·refine awp_seq ?_
           refine aR (by simp [go_sem, hwr1, hx1, hi0, hy, hwr2, hx, hin] <;> rfl) ?_
           refine awp_ret ?_
           refine inBlock_ret ?_
           refine then_ret ?_
           refine then_ret ?_
           refine inBlock_ret ?_
           refine then_ret ?_
           refine ends_ret (by simp [go_sem] <;> rfl) (by simp [go_sem]) ?_
           have hs : body1 ps b d = cexpr ps (inb b d k) x := by rw [hn, hst]; simp only [Bool.not_true, hwr1, hx1, hi0, hy, hwr2, hx, hin, h0, h1, h34, h35, hky, h36, h37, h45, h46, h47, hin, h49, bA, bB, bC, bD, bE, bF, bG, bH, bI, bJ, Bool.false_eq_true, if_true, if_false]
           exact ⟨by simp [go_sem, hs, hwr1, hx1, hi0, hy, hwr2, hx, hin, h0, h1, h34, h35, hky, h36, h37, h45, h46, h47, hin, h49], by simp [go_sem]⟩
          ·refine awp_skip ?_
           refine aR (by simp [go_sem, hwr1, hx1, hi0, hy, hwr2, hx, hin] <;> rfl) ?_
           exact next_intro (k + 1) σ.objs.length σ.toks.length 1 (⟨hlt, by rw [hn, hst]; simp only [h0, h1, h34, h35, hky, h36, h37, h45, h46, h47, hin, h49, bA, bB, bC, bD, bE, bF, bG, bH, bI, bJ, Bool.false_eq_true, if_true, if_false]⟩) (by omega) ⟨by simp [go_sem, hwr1, hx1, hi0, hy, hwr2, hx, hin, hw], rfl, by simp, by simp, by simp [go_sem, hwr1, hx1, hi0, hy, hwr2, hx, hin, hw], fun ob h => .inl (by simpa [go_sem, hwr1, hx1, hi0, hy, hwr2, hx, hin, hw] using h), by simp [go_sem]⟩
        ·have hin : inb b d k = b := inb_no h46
         refine aK 2 76 true ?_
         refine aL 1 (by simp [go_sem, hwr1, hx1, hi0, hy, hwr2, hx, hin] <;> rfl) ?_
         refine al_nil ?_
         refine awp_cond (b := false) (by simp [go_sem, hwr1, hx1, hi0, hy, hwr2, hx, hin, h0, h1, h34, h35, hky, h36, h37, h45, h46, hin]) (fun h => ?_) (fun h => ?_)
         ·cases h
         refine awp_skip ?_
         refine awp_seq (awp_reg ?_)
         refine aL 6 (by simp [go_sem, hwr1, hx1, hi0, hy, hwr2, hx, hin] <;> rfl) ?_
         refine aF call44 (ih x (kidsR_mem hxm) (inb b d k) _ (by exact hgl) (formed_kids hf (kidsR_mem hxm)) (by have := D.size_kid_lt (kidsR_mem hxm); have := inb_len b d k; omega)) (by simp [go_sem, hwr1, hx1, hi0, hy, hwr2, hx, hin] <;> rfl) (by simp [go_sem, hwr1, hx1, hi0, hy, hwr2, hx, hin]) ?_
         refine aL 1 (by simp [go_sem, hwr1, hx1, hi0, hy, hwr2, hx, hin] <;> rfl) ?_
         refine al_nil ?_
         refine awp_seq (aR (by simp [go_sem, hwr1, hx1, hi0, hy, hwr2, hx, hin] <;> rfl) ?_)
         refine awp_cond (by first | rfl | (simp [go_sem, hwr1, hx1, hi0, hy, hwr2, hx, hin] <;> rfl)) (fun h50 => ?_) (fun h50 => ?_)
         ·refine awp_seq ?_
          refine aR (by simp [go_sem, hwr1, hx1, hi0, hy, hwr2, hx, hin] <;> rfl) ?_
          refine awp_ret ?_
          refine inBlock_ret ?_
          refine then_ret ?_
          refine then_ret ?_
          refine inBlock_ret ?_
          refine then_ret ?_
          refine ends_ret (by simp [go_sem] <;> rfl) (by simp [go_sem]) ?_
          have hs : body1 ps b d = cexpr ps (inb b d k) x := by rw [hn, hst]; simp only [Bool.not_true, hwr1, hx1, hi0, hy, hwr2, hx, hin, h0, h1, h34, h35, hky, h36, h37, h45, h46, hin, h50, bA, bB, bC, bD, bE, bF, bG, bH, bI, bJ, Bool.false_eq_true, if_true, if_false]
          exact ⟨by simp [go_sem, hs, hwr1, hx1, hi0, hy, hwr2, hx, hin, h0, h1, h34, h35, hky, h36, h37, h45, h46, hin, h50], by simp [go_sem]⟩
         ·refine awp_skip ?_
          refine aR (by simp [go_sem, hwr1, hx1, hi0, hy, hwr2, hx, hin] <;> rfl) ?_
          exact next_intro (k + 1) σ.objs.length σ.toks.length 1 (⟨hlt, by rw [hn, hst]; simp only [h0, h1, h34, h35, hky, h36, h37, h45, h46, hin, h50, bA, bB, bC, bD, bE, bF, bG, bH, bI, bJ, Bool.false_eq_true, if_true, if_false]⟩) (by omega) ⟨by simp [go_sem, hwr1, hx1, hi0, hy, hwr2, hx, hin, hw], rfl, by simp, by simp, by simp [go_sem, hwr1, hx1, hi0, hy, hwr2, hx, hin, hw], fun ob h => .inl (by simpa [go_sem, hwr1, hx1, hi0, hy, hwr2, hx, hin, hw] using h), by simp [go_sem]⟩
       ·have hke : k = (kidsR d).length := by simp at h45; omega
        subst hke
        refine awp_exit ?_
        refine then_exit ?_
        refine then_exit ?_
        refine inBlock_hit ?_
        refine awp_seq (aR (by simp [go_sem, hwr1, hx1, hi0, hy, hwr2] <;> rfl) ?_)
        refine awp_ret ?_
        refine ends_ret (by simp [go_sem] <;> rfl) (by simp [go_sem]) ?_
        have hs : body1 ps b d = 0 := by rw [hn, List.drop_length]; rfl
        exact ⟨by simp [go_sem, hs], by simp [go_sem]⟩
   ·refine awp_skip ?_
    refine awp_seq (awp_seq (awp_reg ?_))
    refine aL 1 (by simp [go_sem, hwr1] <;> rfl) ?_
    refine aF call87 ((c_Arity07 (word d)) _ (by exact hgl)) (by simp [go_sem, hwr1] <;> rfl) (by simp [go_sem, hwr1]) ?_
    refine aL 5 (by simp [go_sem, hwr1] <;> rfl) ?_
    refine al_nil ?_
    refine awp_seq (awp_reg ?_)
    refine aL 2 (by simp [go_sem, hwr1] <;> rfl) ?_
    refine al_splitT 57 (by first | rfl | (simp [go_sem, hwr1] <;> rfl)) (fun h51 => ?_) (fun h51 => ?_)
    ·refine aLG 6 57 true (by simp [go_sem, hwr1] <;> rfl) ?_
     refine aL 1 (by simp [go_sem, hwr1] <;> rfl) ?_
     refine al_nil ?_
     refine awp_cond (by first | rfl | (simp [go_sem, hwr1] <;> rfl)) (fun h52 => ?_) (fun h52 => ?_)
     ·refine awp_seq ?_
      refine aR (by simp [go_sem, hwr1] <;> rfl) ?_
      refine awp_ret ?_
      refine then_ret ?_
      refine ends_ret (by simp [go_sem] <;> rfl) (by simp [go_sem]) ?_
      have hs : body1 ps b d = 11 := by unfold body1; simp only [eCall, hwr1, h0, h1, h34, h51, h52, bA, bB, bC, bD, bE, bF, bG, bH, bI, bJ, Bool.false_eq_true, if_true, if_false]
      exact ⟨by simp [go_sem, hs], by simp [go_sem]⟩
     ·refine awp_skip ?_
      refine awp_seq ?_
      have hgo : body1 ps b d = goB ps b d 0 (kidsR d) := by unfold body1; simp only [eCall, hwr1, h0, h1, h34, h51, h52, bA, bB, bC, bD, bE, bF, bG, bH, bI, bJ, Bool.false_eq_true, if_true, if_false]
      refine awp_reg ?_
      refine aL 1 (by simp [go_sem, hwr1] <;> rfl) ?_
      refine aF call88 ((c_Kids d (form_two hfm)) _ (by exact hgl)) (by simp [go_sem, hwr1] <;> rfl) (by simp [go_sem, hwr1]) ?_
      refine aL 1 (by simp [go_sem, hwr1] <;> rfl) ?_
      refine al_nil ?_
      refine awp_seq (awp_seq (aR (by simp [go_sem, hwr1] <;> rfl) ?_))
      refine awp_block ?_
      refine awp_loop_headK σ.objs.length σ.toks.length 1 [0, 2, 4, 6, 7, 11] (fun k : Nat => [(12, .pv (.int .i64 ↑k))]) (fun k => σ) (fun k => k ≤ (kidsR d).length ∧ body1 ps b d = goB ps b d k ((kidsR d).drop k)) (fun k => (kidsR d).length - k) 0 (⟨Nat.zero_le _, by rw [hgo]; rfl⟩) ⟨by simp [go_sem, hwr1], rfl, by simp, by simp, by simp [go_sem, hwr1], fun ob h => .inl (by simpa [go_sem, hwr1] using h), by simp [go_sem]⟩ ?_
      rintro k ⟨hk, hn⟩
      refine awp_seq (awp_seq (aR (by simp [go_sem, hwr1] <;> rfl) ?_))
      refine awp_cond (by first | rfl | (simp [go_sem, hwr1] <;> rfl)) (fun h53 => ?_) (fun h53 => ?_)
      ·have hlt : k < (kidsR d).length := by simp at h53; omega
       have hw : IntKind.i64.wrap (↑k + 1) = (k : Int) + 1 := wrap_succ (by omega)
       obtain ⟨x, hx, hxm⟩ := get_lt hlt
       have hst := goB_step (ps := ps) (b := b) hx
       refine awp_skip ?_
       refine awp_seq (awp_block ?_)
       refine awp_seq (aR (by simp [go_sem, hwr1, hx] <;> rfl) ?_)
       refine awp_seq (awp_seq (awp_reg ?_))
       refine aL 3 (by simp [go_sem, hwr1, hx] <;> rfl) ?_
       refine al_splitT 76 (by first | rfl | (simp [go_sem, hwr1, hx] <;> rfl)) (fun h54 => ?_) (fun h54 => ?_)
       ·have hA := h54
        refine aLG 2 76 true (by simp [go_sem, hwr1, hx] <;> rfl) ?_
        refine aL 1 (by simp [go_sem, hwr1, hx] <;> rfl) ?_
        refine al_nil ?_
        refine awp_cond (by first | rfl | (simp [go_sem, hwr1, hx] <;> rfl)) (fun h55 => ?_) (fun h55 => ?_)
        ·have h2m := form_two hfm (.inl (of_decide_eq_true hA))
         have hy1 := get_d1 h2m
         have hin : inb b d k = b ++ [(d1 d.kids).text] := inb_yes hA h55
         have hbb : (b.length + 1) * 16 ≤ 140737488355328 := by omega
         have hb16 : b.length * 16 ≤ 140737488355328 := by omega
         refine awp_regDP tyOk tySz 9 (by kernel_rfl) (by decide) ?_
         refine ul_run 9 (by simp [go_sem, hwr1, hx, hy1, hin, hbb, hb16, allSz_str] <;> rfl) ?_
         refine ul_nil ?_
         refine aL 2 (by simp [go_sem, hwr1, hx, hy1, hin, hbb, hb16, allSz_str] <;> rfl) ?_
         refine al_nil ?_
         refine awp_seq (awp_reg ?_)
         refine aL 6 (by simp [go_sem, hwr1, hx, hy1, hin, hbb, hb16, allSz_str] <;> rfl) ?_
         refine aF call44 (ih x (kidsR_mem hxm) (inb b d k) _ (by exact hgl) (formed_kids hf (kidsR_mem hxm)) (by have := D.size_kid_lt (kidsR_mem hxm); have := inb_len b d k; omega)) (by simp [go_sem, hwr1, hx, hy1, hin, hbb, hb16, allSz_str] <;> rfl) (by simp [go_sem, hwr1, hx, hy1, hin, hbb, hb16, allSz_str]) ?_
         refine aL 1 (by simp [go_sem, hwr1, hx, hy1, hin, hbb, hb16, allSz_str] <;> rfl) ?_
         refine al_nil ?_
         refine awp_seq (aR (by simp [go_sem, hwr1, hx, hy1, hin, hbb, hb16, allSz_str] <;> rfl) ?_)
         refine awp_cond (by first | rfl | (simp [go_sem, hwr1, hx, hy1, hin, hbb, hb16, allSz_str] <;> rfl)) (fun h56 => ?_) (fun h56 => ?_)
         ·refine awp_seq ?_
          refine aR (by simp [go_sem, hwr1, hx, hy1, hin, hbb, hb16, allSz_str] <;> rfl) ?_
          refine awp_ret ?_
          refine inBlock_ret ?_
          refine then_ret ?_
          refine then_ret ?_
          refine inBlock_ret ?_
          refine then_ret ?_
          refine ends_ret (by simp [go_sem] <;> rfl) (by simp [go_sem]) ?_
          have hs : body1 ps b d = cexpr ps (inb b d k) x := by rw [hn, hst]; simp only [Bool.not_true, hwr1, hx, hy1, hin, hbb, hb16, allSz_str, h0, h1, h34, h51, h52, h53, h54, h55, hin, h56, bA, bB, bC, bD, bE, bF, bG, bH, bI, bJ, Bool.false_eq_true, if_true, if_false]
          exact ⟨by simp [go_sem, hs, hwr1, hx, hy1, hin, hbb, hb16, allSz_str, h0, h1, h34, h51, h52, h53, h54, h55, hin, h56], by simp [go_sem]⟩
         ·refine awp_skip ?_
          refine aR (by simp [go_sem, hwr1, hx, hy1, hin, hbb, hb16, allSz_str] <;> rfl) ?_
          exact next_intro (k + 1) σ.objs.length σ.toks.length 1 (⟨hlt, by rw [hn, hst]; simp only [h0, h1, h34, h51, h52, h53, h54, h55, hin, h56, bA, bB, bC, bD, bE, bF, bG, bH, bI, bJ, Bool.false_eq_true, if_true, if_false]⟩) (by omega) ⟨by simp [go_sem, hwr1, hx, hy1, hin, hbb, hb16, allSz_str, hw], rfl, by simp, by simp, by simp [go_sem, hwr1, hx, hy1, hin, hbb, hb16, allSz_str, hw], fun ob h => .inl (by simpa [go_sem, hwr1, hx, hy1, hin, hbb, hb16, allSz_str, hw] using h), by simp [go_sem]⟩
        ·have hin : inb b d k = b := inb_other h55
         refine awp_skip ?_
         refine awp_seq (awp_reg ?_)
         refine aL 6 (by simp [go_sem, hwr1, hx, hin] <;> rfl) ?_
         refine aF call44 (ih x (kidsR_mem hxm) (inb b d k) _ (by exact hgl) (formed_kids hf (kidsR_mem hxm)) (by have := D.size_kid_lt (kidsR_mem hxm); have := inb_len b d k; omega)) (by simp [go_sem, hwr1, hx, hin] <;> rfl) (by simp [go_sem, hwr1, hx, hin]) ?_
         refine aL 1 (by simp [go_sem, hwr1, hx, hin] <;> rfl) ?_
         refine al_nil ?_
         refine awp_seq (aR (by simp [go_sem, hwr1, hx, hin] <;> rfl) ?_)
         refine awp_cond (by first | rfl | (simp [go_sem, hwr1, hx, hin] <;> rfl)) (fun h57 => ?_) (fun h57 => ?_)
         ·refine awp_seq ?_
          refine aR (by simp [go_sem, hwr1, hx, hin] <;> rfl) ?_
          refine awp_ret ?_
          refine inBlock_ret ?_
          refine then_ret ?_
          refine then_ret ?_
          refine inBlock_ret ?_
          refine then_ret ?_
          refine ends_ret (by simp [go_sem] <;> rfl) (by simp [go_sem]) ?_
          have hs : body1 ps b d = cexpr ps (inb b d k) x := by rw [hn, hst]; simp only [Bool.not_true, hwr1, hx, hin, h0, h1, h34, h51, h52, h53, h54, h55, hin, h57, bA, bB, bC, bD, bE, bF, bG, bH, bI, bJ, Bool.false_eq_true, if_true, if_false]
          exact ⟨by simp [go_sem, hs, hwr1, hx, hin, h0, h1, h34, h51, h52, h53, h54, h55, hin, h57], by simp [go_sem]⟩
         ·refine awp_skip ?_
          refine aR (by simp [go_sem, hwr1, hx, hin] <;> rfl) ?_
          exact next_intro (k + 1) σ.objs.length σ.toks.length 1 (⟨hlt, by rw [hn, hst]; simp only [h0, h1, h34, h51, h52, h53, h54, h55, hin, h57, bA, bB, bC, bD, bE, bF, bG, bH, bI, bJ, Bool.false_eq_true, if_true, if_false]⟩) (by omega) ⟨by simp [go_sem, hwr1, hx, hin, hw], rfl, by simp, by simp, by simp [go_sem, hwr1, hx, hin, hw], fun ob h => .inl (by simpa [go_sem, hwr1, hx, hin, hw] using h), by simp [go_sem]⟩
       ·have hin : inb b d k = b := inb_no h54
        refine aK 2 76 true ?_
        refine aL 1 (by simp [go_sem, hwr1, hx, hin] <;> rfl) ?_
        refine al_nil ?_
        refine awp_cond (b := false) (by simp [go_sem, hwr1, hx, hin, h0, h1, h34, h51, h52, h53, h54, hin]) (fun h => ?_) (fun h => ?_)
        ·cases h
        refine awp_skip ?_
        refine awp_seq (awp_reg ?_)
        refine aL 6 (by simp [go_sem, hwr1, hx, hin] <;> rfl) ?_
        refine aF call44 (ih x (kidsR_mem hxm) (inb b d k) _ (by exact hgl) (formed_kids hf (kidsR_mem hxm)) (by have := D.size_kid_lt (kidsR_mem hxm); have := inb_len b d k; omega)) (by simp [go_sem, hwr1, hx, hin] <;> rfl) (by simp [go_sem, hwr1, hx, hin]) ?_
        refine aL 1 (by simp [go_sem, hwr1, hx, hin] <;> rfl) ?_
        refine al_nil ?_
        refine awp_seq (aR (by simp [go_sem, hwr1, hx, hin] <;> rfl) ?_)
        refine awp_cond (by first | rfl | (simp [go_sem, hwr1, hx, hin] <;> rfl)) (fun h58 => ?_) (fun h58 => ?_)
        ·refine awp_seq ?_
         refine aR (by simp [go_sem, hwr1, hx, hin] <;> rfl) ?_
         refine awp_ret ?_
         refine inBlock_ret ?_
         refine then_ret ?_
         refine then_ret ?_
         refine inBlock_ret ?_
         refine then_ret ?_
         refine ends_ret (by simp [go_sem] <;> rfl) (by simp [go_sem]) ?_
         have hs : body1 ps b d = cexpr ps (inb b d k) x := by rw [hn, hst]; simp only [Bool.not_true, hwr1, hx, hin, h0, h1, h34, h51, h52, h53, h54, hin, h58, bA, bB, bC, bD, bE, bF, bG, bH, bI, bJ, Bool.false_eq_true, if_true, if_false]
         exact ⟨by simp [go_sem, hs, hwr1, hx, hin, h0, h1, h34, h51, h52, h53, h54, hin, h58], by simp [go_sem]⟩
        ·refine awp_skip ?_
         refine aR (by simp [go_sem, hwr1, hx, hin] <;> rfl) ?_
         exact next_intro (k + 1) σ.objs.length σ.toks.length 1 (⟨hlt, by rw [hn, hst]; simp only [h0, h1, h34, h51, h52, h53, h54, hin, h58, bA, bB, bC, bD, bE, bF, bG, bH, bI, bJ, Bool.false_eq_true, if_true, if_false]⟩) (by omega) ⟨by simp [go_sem, hwr1, hx, hin, hw], rfl, by simp, by simp, by simp [go_sem, hwr1, hx, hin, hw], fun ob h => .inl (by simpa [go_sem, hwr1, hx, hin, hw] using h), by simp [go_sem]⟩
      ·have hke : k = (kidsR d).length := by simp at h53; omega
       subst hke
       refine awp_exit ?_
       refine then_exit ?_
       refine then_exit ?_
       refine inBlock_hit ?_
       refine awp_seq (aR (by simp [go_sem, hwr1] <;> rfl) ?_)
       refine awp_ret ?_
       refine ends_ret (by simp [go_sem] <;> rfl) (by simp [go_sem]) ?_
       have hs : body1 ps b d = 0 := by rw [hn, List.drop_length]; rfl
       exact ⟨by simp [go_sem, hs], by simp [go_sem]⟩
    ·refine aK 6 57 true ?_
     refine aL 1 (by simp [go_sem, hwr1] <;> rfl) ?_
     refine al_nil ?_
     refine awp_cond (b := false) (by simp [go_sem, hwr1, h0, h1, h34, h51]) (fun h => ?_) (fun h => ?_)
     ·cases h
     refine awp_skip ?_
     refine awp_seq ?_
     have hgo : body1 ps b d = goB ps b d 0 (kidsR d) := by unfold body1; simp only [eCall, hwr1, h0, h1, h34, h51, bA, bB, bC, bD, bE, bF, bG, bH, bI, bJ, Bool.false_eq_true, if_true, if_false]
     refine awp_reg ?_
     refine aL 1 (by simp [go_sem, hwr1] <;> rfl) ?_
     refine aF call88 ((c_Kids d (form_two hfm)) _ (by exact hgl)) (by simp [go_sem, hwr1] <;> rfl) (by simp [go_sem, hwr1]) ?_
     refine aL 1 (by simp [go_sem, hwr1] <;> rfl) ?_
     refine al_nil ?_
     refine awp_seq (awp_seq (aR (by simp [go_sem, hwr1] <;> rfl) ?_))
     refine awp_block ?_
     refine awp_loop_headK σ.objs.length σ.toks.length 1 [0, 2, 4, 6, 7, 11] (fun k : Nat => [(12, .pv (.int .i64 ↑k))]) (fun k => σ) (fun k => k ≤ (kidsR d).length ∧ body1 ps b d = goB ps b d k ((kidsR d).drop k)) (fun k => (kidsR d).length - k) 0 (⟨Nat.zero_le _, by rw [hgo]; rfl⟩) ⟨by simp [go_sem, hwr1], rfl, by simp, by simp, by simp [go_sem, hwr1], fun ob h => .inl (by simpa [go_sem, hwr1] using h), by simp [go_sem]⟩ ?_
     rintro k ⟨hk, hn⟩
     refine awp_seq (awp_seq (aR (by simp [go_sem, hwr1] <;> rfl) ?_))
     refine awp_cond (by first | rfl | (simp [go_sem, hwr1] <;> rfl)) (fun h59 => ?_) (fun h59 => ?_)
     ·have hlt : k < (kidsR d).length := by simp at h59; omega
      have hw : IntKind.i64.wrap (↑k + 1) = (k : Int) + 1 := wrap_succ (by omega)
      obtain ⟨x, hx, hxm⟩ := get_lt hlt
      have hst := goB_step (ps := ps) (b := b) hx
      refine awp_skip ?_
      refine awp_seq (awp_block ?_)
      refine awp_seq (aR (by simp [go_sem, hwr1, hx] <;> rfl) ?_)
      refine awp_seq (awp_seq (awp_reg ?_))
      refine aL 3 (by simp [go_sem, hwr1, hx] <;> rfl) ?_
      refine al_splitT 76 (by first | rfl | (simp [go_sem, hwr1, hx] <;> rfl)) (fun h60 => ?_) (fun h60 => ?_)
      ·have hA := h60
       refine aLG 2 76 true (by simp [go_sem, hwr1, hx] <;> rfl) ?_
       refine aL 1 (by simp [go_sem, hwr1, hx] <;> rfl) ?_
       refine al_nil ?_
       refine awp_cond (by first | rfl | (simp [go_sem, hwr1, hx] <;> rfl)) (fun h61 => ?_) (fun h61 => ?_)
       ·have h2m := form_two hfm (.inl (of_decide_eq_true hA))
        have hy1 := get_d1 h2m
        have hin : inb b d k = b ++ [(d1 d.kids).text] := inb_yes hA h61
        have hbb : (b.length + 1) * 16 ≤ 140737488355328 := by omega
        have hb16 : b.length * 16 ≤ 140737488355328 := by omega
        refine awp_regDP tyOk tySz 9 (by kernel_rfl) (by decide) ?_
        refine ul_run 9 (by simp [go_sem, hwr1, hx, hy1, hin, hbb, hb16, allSz_str] <;> rfl) ?_
        refine ul_nil ?_
        refine aL 2 (by simp [go_sem, hwr1, hx, hy1, hin, hbb, hb16, allSz_str] <;> rfl) ?_
        refine al_nil ?_
        refine awp_seq (awp_reg ?_)
        refine aL 6 (by simp [go_sem, hwr1, hx, hy1, hin, hbb, hb16, allSz_str] <;> rfl) ?_
        refine aF call44 (ih x (kidsR_mem hxm) (inb b d k) _ (by exact hgl) (formed_kids hf (kidsR_mem hxm)) (by have := D.size_kid_lt (kidsR_mem hxm); have := inb_len b d k; omega)) (by simp [go_sem, hwr1, hx, hy1, hin, hbb, hb16, allSz_str] <;> rfl) (by simp [go_sem, hwr1, hx, hy1, hin, hbb, hb16, allSz_str]) ?_
        refine aL 1 (by simp [go_sem, hwr1, hx, hy1, hin, hbb, hb16, allSz_str] <;> rfl) ?_
        refine al_nil ?_
        refine awp_seq (aR (by simp [go_sem, hwr1, hx, hy1, hin, hbb, hb16, allSz_str] <;> rfl) ?_)
        refine awp_cond (by first | rfl | (simp [go_sem, hwr1, hx, hy1, hin, hbb, hb16, allSz_str] <;> rfl)) (fun h62 => ?_) (fun h62 => ?_)
        ·refine awp_seq ?_
         refine aR (by simp [go_sem, hwr1, hx, hy1, hin, hbb, hb16, allSz_str] <;> rfl) ?_
         refine awp_ret ?_
         refine inBlock_ret ?_
         refine then_ret ?_
         refine then_ret ?_
         refine inBlock_ret ?_
         refine then_ret ?_
         refine ends_ret (by simp [go_sem] <;> rfl) (by simp [go_sem]) ?_
         have hs : body1 ps b d = cexpr ps (inb b d k) x := by rw [hn, hst]; simp only [Bool.not_true, hwr1, hx, hy1, hin, hbb, hb16, allSz_str, h0, h1, h34, h51, h59, h60, h61, hin, h62, bA, bB, bC, bD, bE, bF, bG, bH, bI, bJ, Bool.false_eq_true, if_true, if_false]
         exact ⟨by simp [go_sem, hs, hwr1, hx, hy1, hin, hbb, hb16, allSz_str, h0, h1, h34, h51, h59, h60, h61, hin, h62], by simp [go_sem]⟩
        ·refine awp_skip ?_
         refine aR (by simp [go_sem, hwr1, hx, hy1, hin, hbb, hb16, allSz_str] <;> rfl) ?_
         exact next_intro (k + 1) σ.objs.length σ.toks.length 1 (⟨hlt, by rw [hn, hst]; simp only [h0, h1, h34, h51, h59, h60, h61, hin, h62, bA, bB, bC, bD, bE, bF, bG, bH, bI, bJ, Bool.false_eq_true, if_true, if_false]⟩) (by omega) ⟨by simp [go_sem, hwr1, hx, hy1, hin, hbb, hb16, allSz_str, hw], rfl, by simp, by simp, by simp [go_sem, hwr1, hx, hy1, hin, hbb, hb16, allSz_str, hw], fun ob h => .inl (by simpa [go_sem, hwr1, hx, hy1, hin, hbb, hb16, allSz_str, hw] using h), by simp [go_sem]⟩
       ·have hin : inb b d k = b := inb_other h61
        refine awp_skip ?_
        refine awp_seq (awp_reg ?_)
        refine aL 6 (by simp [go_sem, hwr1, hx, hin] <;> rfl) ?_
        refine aF call44 (ih x (kidsR_mem hxm) (inb b d k) _ (by exact hgl) (formed_kids hf (kidsR_mem hxm)) (by have := D.size_kid_lt (kidsR_mem hxm); have := inb_len b d k; omega)) (by simp [go_sem, hwr1, hx, hin] <;> rfl) (by simp [go_sem, hwr1, hx, hin]) ?_
        refine aL 1 (by simp [go_sem, hwr1, hx, hin] <;> rfl) ?_
        refine al_nil ?_
        refine awp_seq (aR (by simp [go_sem, hwr1, hx, hin] <;> rfl) ?_)
        refine awp_cond (by first | rfl | (simp [go_sem, hwr1, hx, hin] <;> rfl)) (fun h63 => ?_) (fun h63 => ?_)
        ·refine awp_seq ?_
         refine aR (by simp [go_sem, hwr1, hx, hin] <;> rfl) ?_
         refine awp_ret ?_
         refine inBlock_ret ?_
         refine then_ret ?_
         refine then_ret ?_
         refine inBlock_ret ?_
         refine then_ret ?_
         refine ends_ret (by simp [go_sem] <;> rfl) (by simp [go_sem]) ?_
         have hs : body1 ps b d = cexpr ps (inb b d k) x := by rw [hn, hst]; simp only [Bool.not_true, hwr1, hx, hin, h0, h1, h34, h51, h59, h60, h61, hin, h63, bA, bB, bC, bD, bE, bF, bG, bH, bI, bJ, Bool.false_eq_true, if_true, if_false]
         exact ⟨by simp [go_sem, hs, hwr1, hx, hin, h0, h1, h34, h51, h59, h60, h61, hin, h63], by simp [go_sem]⟩
        ·refine awp_skip ?_
         refine aR (by simp [go_sem, hwr1, hx, hin] <;> rfl) ?_
         exact next_intro (k + 1) σ.objs.length σ.toks.length 1 (⟨hlt, by rw [hn, hst]; simp only [h0, h1, h34, h51, h59, h60, h61, hin, h63, bA, bB, bC, bD, bE, bF, bG, bH, bI, bJ, Bool.false_eq_true, if_true, if_false]⟩) (by omega) ⟨by simp [go_sem, hwr1, hx, hin, hw], rfl, by simp, by simp, by simp [go_sem, hwr1, hx, hin, hw], fun ob h => .inl (by simpa [go_sem, hwr1, hx, hin, hw] using h), by simp [go_sem]⟩
      ·have hin : inb b d k = b := inb_no h60
       refine aK 2 76 true ?_
       refine aL 1 (by simp [go_sem, hwr1, hx, hin] <;> rfl) ?_
       refine al_nil ?_
       refine awp_cond (b := false) (by simp [go_sem, hwr1, hx, hin, h0, h1, h34, h51, h59, h60, hin]) (fun h => ?_) (fun h => ?_)
       ·cases h
       refine awp_skip ?_
       refine awp_seq (awp_reg ?_)
       refine aL 6 (by simp [go_sem, hwr1, hx, hin] <;> rfl) ?_
       refine aF call44 (ih x (kidsR_mem hxm) (inb b d k) _ (by exact hgl) (formed_kids hf (kidsR_mem hxm)) (by have := D.size_kid_lt (kidsR_mem hxm); have := inb_len b d k; omega)) (by simp [go_sem, hwr1, hx, hin] <;> rfl) (by simp [go_sem, hwr1, hx, hin]) ?_
       refine aL 1 (by simp [go_sem, hwr1, hx, hin] <;> rfl) ?_
       refine al_nil ?_
       refine awp_seq (aR (by simp [go_sem, hwr1, hx, hin] <;> rfl) ?_)
       refine awp_cond (by first | rfl | (simp [go_sem, hwr1, hx, hin] <;> rfl)) (fun h64 => ?_) (fun h64 => ?_)
       ·refine awp_seq ?_
        refine aR (by simp [go_sem, hwr1, hx, hin] <;> rfl) ?_
        refine awp_ret ?_
        refine inBlock_ret ?_
        refine then_ret ?_
        refine then_ret ?_
        refine inBlock_ret ?_
        refine then_ret ?_
        refine ends_ret (by simp [go_sem] <;> rfl) (by simp [go_sem]) ?_
        have hs : body1 ps b d = cexpr ps (inb b d k) x := by rw [hn, hst]; simp only [Bool.not_true, hwr1, hx, hin, h0, h1, h34, h51, h59, h60, hin, h64, bA, bB, bC, bD, bE, bF, bG, bH, bI, bJ, Bool.false_eq_true, if_true, if_false]
        exact ⟨by simp [go_sem, hs, hwr1, hx, hin, h0, h1, h34, h51, h59, h60, hin, h64], by simp [go_sem]⟩
       ·refine awp_skip ?_
        refine aR (by simp [go_sem, hwr1, hx, hin] <;> rfl) ?_
        exact next_intro (k + 1) σ.objs.length σ.toks.length 1 (⟨hlt, by rw [hn, hst]; simp only [h0, h1, h34, h51, h59, h60, hin, h64, bA, bB, bC, bD, bE, bF, bG, bH, bI, bJ, Bool.false_eq_true, if_true, if_false]⟩) (by omega) ⟨by simp [go_sem, hwr1, hx, hin, hw], rfl, by simp, by simp, by simp [go_sem, hwr1, hx, hin, hw], fun ob h => .inl (by simpa [go_sem, hwr1, hx, hin, hw] using h), by simp [go_sem]⟩
     ·have hke : k = (kidsR d).length := by simp at h59; omega
      subst hke
      refine awp_exit ?_
      refine then_exit ?_
      refine then_exit ?_
      refine inBlock_hit ?_
      refine awp_seq (aR (by simp [go_sem, hwr1] <;> rfl) ?_)
      refine awp_ret ?_
      refine ends_ret (by simp [go_sem] <;> rfl) (by simp [go_sem]) ?_
      have hs : body1 ps b d = 0 := by rw [hn, List.drop_length]; rfl
      exact ⟨by simp [go_sem, hs], by simp [go_sem]⟩

end Go.Proofs.YtienmmfjjffjaaaGreatDoor

/- The specification: Check. -/
namespace Go.Proofs.YtienmmfjjffjaaaGreatDoor
open Go Go.Aw
variable {kr : ResO}
theorem look_seen17 {s : St} {o : Nat} {ps : List (D × Int)} (ho : s.σ.objs[o]? = some (.map (sK ps) (sV ps))) (x : ByteArray) :
    lookAV ty s 70 (.map o) (.pv (.str x)) false = some (.pv (.bool (ps.any fun p => decide (x = keyS p.1)))) := look_str rfl rfl rfl rfl rfl rfl rfl ho x
theorem put_seen17 {s : St} {o : Nat} {ps : List (D × Int)} (ho : s.σ.objs[o]? = some (.map (sK ps) (sV ps))) (x : ByteArray) (hn : (ps.any fun p => decide (x = keyS p.1)) = false) :
    putAV ty s 70 (.map o) (.pv (.str x)) (.pv (.bool true)) = some { s.σ with objs := s.σ.objs.set o (.map (sK ps ++ [.str x]) (sV ps ++ [.bool true])) } := put_str rfl rfl rfl rfl ho x hn

set_option maxHeartbeats 1000000 in
theorem c_refCheck (p : D) (hp : p.size ≤ 900000000) : Pur Tryz.prog (GL kr) 10 [.pv (enc p)] (.tuple [.pv (.slice ((rdefs p).map encDf)), .pv (.int .i64 (fcheck p))]) := by
 have hkl := D.kids_length_lt p
 refine pur_of fun σ hgl => ?_
 refine acalls_of tyOk Tryz.func10 rfl (by simp [Tryz.f10]) ?_
 refine awp_seq (aR (by simp [go_sem] <;> rfl) ?_)
 refine awp_seq (awp_seq (awp_reg ?_))
 refine aL 1 (by simp [go_sem] <;> rfl) ?_
 refine aF call29 ((c_Check01 p (by omega)) _ (by exact hgl)) (by simp [go_sem] <;> rfl) (by simp [go_sem]) ?_
 refine aL 1 (by simp [go_sem] <;> rfl) ?_
 refine al_nil ?_
 refine awp_seq (aR (by simp [go_sem] <;> rfl) ?_)
 refine awp_cond (by first | rfl | (simp [go_sem] <;> rfl)) (fun h0 => ?_) (fun h0 => ?_)
 ·refine awp_seq ?_
  refine aR (by simp [go_sem] <;> rfl) ?_
  refine awp_ret ?_
  refine then_ret ?_
  refine ends_ret (by simp [go_sem] <;> rfl) (by simp [go_sem]) ?_
  have hh : heads p = (dcheck p, []) := by unfold heads; simp only [Bool.not_true, h0, bA, bB, bC, bD, bE, bF, bG, bH, bI, bJ, Bool.false_eq_true, if_true, if_false]
  have hs : fcheck p = dcheck p := by unfold fcheck; rw [hh]; simp only [h0, if_true]
  have hr : rdefs p = [] := by unfold rdefs; rw [hs]; simp only [h0, if_true]
  exact ⟨by simp [go_sem, hs, hr], by simp [go_sem]⟩
 ·refine awp_skip ?_
  refine awp_seq (awp_seq (awp_reg ?_))
  refine aL 4 (by simp [go_sem] <;> rfl) ?_
  refine al_splitT 21 (by first | rfl | (simp [go_sem] <;> rfl)) (fun h1 => ?_) (fun h1 => ?_)
  ·refine aK 4 21 false ?_
   refine aL 1 (by simp [go_sem] <;> rfl) ?_
   refine al_nil ?_
   refine awp_cond (b := true) (by simp [go_sem, h0, h1]) (fun h => ?_) (fun h => ?_)
   rotate_left
   ·cases h
   refine awp_seq (aR (by simp [go_sem] <;> rfl) ?_)
   refine awp_ret ?_
   refine then_ret ?_
   refine ends_ret (by simp [go_sem] <;> rfl) (by simp [go_sem]) ?_
   have hh : heads p = (4, []) := by unfold heads; simp only [Bool.not_true, h0, h1, bA, bB, bC, bD, bE, bF, bG, bH, bI, bJ, Bool.false_eq_true, if_true, if_false]
   have hs : fcheck p = 4 := by unfold fcheck; rw [hh]; rfl
   have hr : rdefs p = [] := by unfold rdefs; rw [hs]; rfl
   exact ⟨by simp [go_sem, hs, hr], by simp [go_sem]⟩
  ·refine aLG 4 21 false (by simp [go_sem] <;> rfl) ?_
   refine aL 1 (by simp [go_sem] <;> rfl) ?_
   refine al_nil ?_
   refine awp_cond (by first | rfl | (simp [go_sem] <;> rfl)) (fun h2 => ?_) (fun h2 => ?_)
   ·refine awp_seq ?_
    refine aR (by simp [go_sem] <;> rfl) ?_
    refine awp_ret ?_
    refine then_ret ?_
    refine ends_ret (by simp [go_sem] <;> rfl) (by simp [go_sem]) ?_
    have hh : heads p = (4, []) := by unfold heads; simp only [Bool.not_true, h0, h1, h2, bA, bB, bC, bD, bE, bF, bG, bH, bI, bJ, Bool.false_eq_true, if_true, if_false]
    have hs : fcheck p = 4 := by unfold fcheck; rw [hh]; rfl
    have hr : rdefs p = [] := by unfold rdefs; rw [hs]; rfl
    exact ⟨by simp [go_sem, hs, hr], by simp [go_sem]⟩
   ·refine awp_skip ?_
    refine awp_seq (awp_seq (aR (by simp [go_sem] <;> rfl) ?_))
    refine awp_cond (by first | rfl | (simp [go_sem] <;> rfl)) (fun h3 => ?_) (fun h3 => ?_)
    ·refine awp_seq ?_
     refine aR (by simp [go_sem] <;> rfl) ?_
     refine awp_ret ?_
     refine then_ret ?_
     refine ends_ret (by simp [go_sem] <;> rfl) (by simp [go_sem]) ?_
     have hh : heads p = (3, []) := by unfold heads; simp only [Bool.not_true, h0, h1, h2, h3, bA, bB, bC, bD, bE, bF, bG, bH, bI, bJ, Bool.false_eq_true, if_true, if_false]
     have hs : fcheck p = 3 := by unfold fcheck; rw [hh]; rfl
     have hr : rdefs p = [] := by unfold rdefs; rw [hs]; rfl
     exact ⟨by simp [go_sem, hs, hr], by simp [go_sem]⟩
    ·refine awp_skip ?_
     refine awp_seq (aR (by simp [go_sem] <;> rfl) ?_)
     refine awp_seq (aR (by simp [go_sem] <;> rfl) ?_)
     refine awp_seq (awp_seq (aR (by simp [go_sem] <;> rfl) ?_))
     have hhd : heads p = headsGo [] p.kids := by unfold heads; simp only [Bool.not_true, h0, h1, h2, h3, bA, bB, bC, bD, bE, bF, bG, bH, bI, bJ, Bool.false_eq_true, if_true, if_false]
     have hfp : formed p = true := dcheck_formed (by simpa using h0)
     refine awp_adopt' 5 41 9 (by simp [go_sem] <;> rfl) ?_
     refine awp_block ?_
     refine awp_loop_headK (σ.objs.length + 1) (σ.toks.length + 1) 1 [1, 2, 3, 6] (fun k : Nat => [(5, .acc ((dfK p.kids k).map encDf) σ.toks.length), (7, .pv (.int .i64 ↑k))]) (fun k => withS σ (hps p.kids (k)) 41 (k)) (fun k => k ≤ p.kids.length ∧ headsGo [] p.kids = headsGo (hps p.kids k) (p.kids.drop k) ∧ LabOk (hps p.kids k)) (fun k => p.kids.length - k) 0 (⟨Nat.zero_le _, rfl, fun q hq => by simp [hps] at hq⟩) ⟨by show withS σ (hps p.kids (0)) 41 (0) = _; rw [hps_zero]; simp [withS, sK, sV, go_sem, List.take_of_length_le], rfl, by simp, by simp, by simp [go_sem, dfK_zero], fun ob h => withS_mem h, by simp [go_sem]⟩ ?_
     rintro k ⟨hk, hn, hlo⟩
     refine awp_seq (awp_seq (aR (by simp [go_sem] <;> rfl) ?_))
     refine awp_cond (by first | rfl | (simp [go_sem] <;> rfl)) (fun h4 => ?_) (fun h4 => ?_)
     ·have hlt : k < p.kids.length := by simp at h4; omega
      have hw : IntKind.i64.wrap (↑k + 1) = (k : Int) + 1 := wrap_succ (by omega)
      obtain ⟨x, hx, hxm⟩ := get_lt hlt
      have hst := headsGo_step (ps := hps p.kids k) hx
      refine awp_skip ?_
      refine awp_seq (awp_block ?_)
      refine awp_seq (aR (by simp [go_sem, hx] <;> rfl) ?_)
      refine awp_seq (awp_seq (awp_reg ?_))
      refine aL 4 (by simp [go_sem, hx] <;> rfl) ?_
      refine al_splitT 47 (by first | rfl | (simp [go_sem, hx] <;> rfl)) (fun h5 => ?_) (fun h5 => ?_)
      ·have hc : chead (hps p.kids k) x = (4, hps p.kids k) := chead_none (kidsOf_no1 h5)
       refine aK 4 47 false ?_
       refine aL 2 (by simp [go_sem, hx] <;> rfl) ?_
       refine aK 6 53 false ?_
       refine aL 2 (by simp [go_sem, hx] <;> rfl) ?_
       refine aK 7 61 false ?_
       refine aL 1 (by simp [go_sem, hx] <;> rfl) ?_
       refine al_nil ?_
       refine awp_cond (b := true) (by simp [go_sem, hx, h0, h1, h2, h3, h4, h5]) (fun h => ?_) (fun h => ?_)
       rotate_left
       ·cases h
       refine awp_seq (aR (by simp [go_sem, hx] <;> rfl) ?_)
       refine awp_ret ?_
       refine then_ret ?_
       refine inBlock_ret ?_
       refine then_ret ?_
       refine then_ret ?_
       refine inBlock_ret ?_
       refine then_ret ?_
       refine ends_ret (by simp [go_sem] <;> rfl) (by simp [go_sem]) ?_
       have hh : heads p = (4, hps p.kids k) := by rw [hhd, hn, hst, hc]; rfl
       have hs : fcheck p = 4 := by unfold fcheck; rw [hh]; rfl
       have hr : rdefs p = [] := by unfold rdefs; rw [hs]; rfl
       exact ⟨by simp [go_sem, hs, hr], by simp [go_sem, withS]⟩
      ·refine aLG 4 47 false (by simp [go_sem, hx] <;> rfl) ?_
       refine aL 2 (by simp [go_sem, hx] <;> rfl) ?_
       refine al_splitT 53 (by first | rfl | (simp [go_sem, hx] <;> rfl)) (fun h6 => ?_) (fun h6 => ?_)
       ·have hc : chead (hps p.kids k) x = (4, hps p.kids k) := chead_none (kidsOf_no2 h6)
        refine aK 6 53 false ?_
        refine aL 2 (by simp [go_sem, hx] <;> rfl) ?_
        refine aK 7 61 false ?_
        refine aL 1 (by simp [go_sem, hx] <;> rfl) ?_
        refine al_nil ?_
        refine awp_cond (b := true) (by simp [go_sem, hx, h0, h1, h2, h3, h4, h5, h6]) (fun h => ?_) (fun h => ?_)
        rotate_left
        ·cases h
        refine awp_seq (aR (by simp [go_sem, hx] <;> rfl) ?_)
        refine awp_ret ?_
        refine then_ret ?_
        refine inBlock_ret ?_
        refine then_ret ?_
        refine then_ret ?_
        refine inBlock_ret ?_
        refine then_ret ?_
        refine ends_ret (by simp [go_sem] <;> rfl) (by simp [go_sem]) ?_
        have hh : heads p = (4, hps p.kids k) := by rw [hhd, hn, hst, hc]; rfl
        have hs : fcheck p = 4 := by unfold fcheck; rw [hh]; rfl
        have hr : rdefs p = [] := by unfold rdefs; rw [hs]; rfl
        exact ⟨by simp [go_sem, hs, hr], by simp [go_sem, withS]⟩
       ·obtain ⟨x0, x1, x2, hkk, hkd⟩ := kidsOf_yes h5 h6
        have hcs := chead_some (ps := hps p.kids k) hkd
        have hfx := formed_kids hfp hxm
        have hf0 : formed x0 = true := formed_kids hfx (by rw [hkk]; simp)
        have hf1 : formed x1 = true := formed_kids hfx (by rw [hkk]; simp)
        have hrl := rlabel_eq hf0
        have hlk := fun (s : St) (x : ByteArray) (ho : s.σ.objs[σ.objs.length]? = some (.map (sK (hps p.kids k)) (sV (hps p.kids k)))) => look_seen17 ho x
        have hsx := D.size_kid_lt hxm
        have hs0 := D.size_kid_lt (d := x) (k := x0) (by rw [hkk]; simp)
        have hs1 := D.size_kid_lt (d := x) (k := x1) (by rw [hkk]; simp)
        have hs2 := D.size_kid_lt (d := x) (k := x2) (by rw [hkk]; simp)
        refine aLG 4 53 false (by simp [go_sem, hx, hkk, hlk, withS_get] <;> rfl) ?_
        refine al_fnG 53 false false (by simp [go_sem]) rfl (by simp [go_sem]) rfl rfl (by simp [go_sem, hx, hkk, hlk, withS_get] <;> rfl) call41 ((c_Label x0) _ (by exact hgl)) (by simp [go_sem, hx, hkk, hlk, withS_get] <;> rfl) (by simp [go_sem, hx, hkk, hlk, withS_get]) rfl rfl ?_
        refine aLG 1 53 false (by simp [go_sem, hx, hkk, hlk, withS_get, hrl] <;> rfl) ?_
        refine aL 2 (by simp [go_sem, hx, hkk, hlk, withS_get, hrl] <;> rfl) ?_
        refine al_splitT 61 (by first | rfl | (simp [go_sem, hx, hkk, hlk, withS_get, hrl] <;> rfl)) (fun h7 => ?_) (fun h7 => ?_)
        ·have hc : chead (hps p.kids k) x = (4, hps p.kids k) := by rw [hcs, if_pos h7]
         refine aK 7 61 false ?_
         refine aL 1 (by simp [go_sem, hx, hkk, hlk, withS_get, hrl] <;> rfl) ?_
         refine al_nil ?_
         refine awp_cond (b := true) (by simp [go_sem, hx, hkk, hlk, withS_get, hrl, h0, h1, h2, h3, h4, h5, h6, h7]) (fun h => ?_) (fun h => ?_)
         rotate_left
         ·cases h
         refine awp_seq (aR (by simp [go_sem, hx, hkk, hlk, withS_get, hrl] <;> rfl) ?_)
         refine awp_ret ?_
         refine then_ret ?_
         refine inBlock_ret ?_
         refine then_ret ?_
         refine then_ret ?_
         refine inBlock_ret ?_
         refine then_ret ?_
         refine ends_ret (by simp [go_sem] <;> rfl) (by simp [go_sem]) ?_
         have hh : heads p = (4, hps p.kids k) := by rw [hhd, hn, hst, hc]; rfl
         have hs : fcheck p = 4 := by unfold fcheck; rw [hh]; rfl
         have hr : rdefs p = [] := by unfold rdefs; rw [hs]; rfl
         exact ⟨by simp [go_sem, hs, hr], by simp [go_sem, withS]⟩
        ·have hlb : isLabel x0 = true := by simpa using h7
         obtain ⟨hr0, hr1⟩ := label_range hlb hf0
         have hsk := seen_kpar hlo hlb hf0
         refine aLG 5 61 false (by simp [go_sem, hx, hkk, hlk, withS_get, hrl, hsk] <;> rfl) ?_
         refine al_fnG 61 false false (by simp [go_sem]) rfl (by simp [go_sem]) rfl rfl (by simp [go_sem, hx, hkk, hlk, withS_get, hrl, hsk] <;> rfl) call42 ((c_key x0 (by omega) (by omega)) _ (by exact hgl)) (by simp [go_sem, hx, hkk, hlk, withS_get, hrl, hsk] <;> rfl) (by simp [go_sem, hx, hkk, hlk, withS_get, hrl, hsk]) rfl rfl ?_
         refine aLG 1 61 false (by simp [go_sem, hx, hkk, hlk, withS_get, hrl, hsk] <;> rfl) ?_
         refine aL 1 (by simp [go_sem, hx, hkk, hlk, withS_get, hrl, hsk] <;> rfl) ?_
         refine al_nil ?_
         refine awp_cond (by first | rfl | (simp [go_sem, hx, hkk, hlk, withS_get, hrl, hsk] <;> rfl)) (fun h8 => ?_) (fun h8 => ?_)
         ·have hc : chead (hps p.kids k) x = (4, hps p.kids k) := by rw [hcs, if_neg (by rw [hlb]; decide), if_pos h8]
          refine awp_seq (aR (by simp [go_sem, hx, hkk, hlk, withS_get, hrl, hsk] <;> rfl) ?_)
          refine awp_ret ?_
          refine then_ret ?_
          refine inBlock_ret ?_
          refine then_ret ?_
          refine then_ret ?_
          refine inBlock_ret ?_
          refine then_ret ?_
          refine ends_ret (by simp [go_sem] <;> rfl) (by simp [go_sem]) ?_
          have hh : heads p = (4, hps p.kids k) := by rw [hhd, hn, hst, hc]; rfl
          have hs : fcheck p = 4 := by unfold fcheck; rw [hh]; rfl
          have hr : rdefs p = [] := by unfold rdefs; rw [hs]; rfl
          exact ⟨by simp [go_sem, hs, hr], by simp [go_sem, withS]⟩
         ·have hnk : (kpar (hps p.kids k) x0).2 = false := h8
          have hnn0 : ¬ (kpar (hps p.kids k) x0).2 = true := by rw [hnk]; decide
          have hpt := fun (s : St) (ho : s.σ.objs[σ.objs.length]? = some (.map (sK (hps p.kids k)) (sV (hps p.kids k)))) => put_seen17 ho (keyS x0) (by rw [hsk]; exact hnk)
          refine awp_skip ?_
          refine awp_seq (awp_reg ?_)
          refine aL 4 (by simp [go_sem, hx, hkk, hlk, withS_get, hrl, hsk, hpt] <;> rfl) ?_
          refine aF call43 ((c_refNames x1 (by omega) hf1) _ (by exact hgl)) (by simp [go_sem, hx, hkk, hlk, withS_get, hrl, hsk, hpt] <;> rfl) (by simp [go_sem, hx, hkk, hlk, withS_get, hrl, hsk, hpt]) ?_
          refine aL 5 (by simp [go_sem, hx, hkk, hlk, withS_get, hrl, hsk, hpt] <;> rfl) ?_
          refine al_nil ?_
          refine awp_seq (awp_seq (aR (by simp [go_sem, hx, hkk, hlk, withS_get, hrl, hsk, hpt] <;> rfl) ?_))
          refine awp_cond (by first | rfl | (simp [go_sem, hx, hkk, hlk, withS_get, hrl, hsk, hpt] <;> rfl)) (fun h9 => ?_) (fun h9 => ?_)
          ·have hnn : names x1 = none := by simpa using h9
           have hc : chead (hps p.kids k) x = (4, hps p.kids k) := by rw [hcs, if_neg (by rw [hlb]; decide), if_neg hnn0, hnn]
           refine awp_seq (aR (by simp [go_sem, hx, hkk, hlk, withS_get, hrl, hsk, hpt] <;> rfl) ?_)
           refine awp_ret ?_
           refine then_ret ?_
           refine inBlock_ret ?_
           refine then_ret ?_
           refine then_ret ?_
           refine inBlock_ret ?_
           refine then_ret ?_
           refine ends_ret (by simp [go_sem] <;> rfl) (by simp [go_sem]) ?_
           have hh : heads p = (4, hps p.kids k) := by rw [hhd, hn, hst, hc]; rfl
           have hs : fcheck p = 4 := by unfold fcheck; rw [hh]; rfl
           have hr : rdefs p = [] := by unfold rdefs; rw [hs]; rfl
           exact ⟨by simp [go_sem, hs, hr], by simp [go_sem, withS]⟩
          ·obtain ⟨ns, hns⟩ : ∃ ns, names x1 = some ns := Option.isSome_iff_exists.1 (by simpa using h9)
           refine awp_skip ?_
           refine awp_seq (awp_seq (aR (by simp [go_sem, hx, hkk, hlk, withS_get, hrl, hsk, hpt, hns, encN] <;> rfl) ?_))
           refine awp_cond (by first | rfl | (simp [go_sem, hx, hkk, hlk, withS_get, hrl, hsk, hpt, hns, encN] <;> rfl)) (fun h10 => ?_) (fun h10 => ?_)
           ·have hc : chead (hps p.kids k) x = (3, hps p.kids k) := by rw [hcs, if_neg (by rw [hlb]; decide), if_neg hnn0, hns]; simp only [h10, if_true]
            refine awp_seq (aR (by simp [go_sem, hx, hkk, hlk, withS_get, hrl, hsk, hpt, hns, encN] <;> rfl) ?_)
            refine awp_ret ?_
            refine then_ret ?_
            refine inBlock_ret ?_
            refine then_ret ?_
            refine then_ret ?_
            refine inBlock_ret ?_
            refine then_ret ?_
            refine ends_ret (by simp [go_sem] <;> rfl) (by simp [go_sem]) ?_
            have hh : heads p = (3, hps p.kids k) := by rw [hhd, hn, hst, hc]; rfl
            have hs : fcheck p = 3 := by unfold fcheck; rw [hh]; rfl
            have hr : rdefs p = [] := by unfold rdefs; rw [hs]; rfl
            exact ⟨by simp [go_sem, hs, hr], by simp [go_sem, withS]⟩
           ·have hc0 : chead (hps p.kids k) x = (0, kset (hps p.kids k) x0 ns.length) := by rw [hcs, if_neg (by rw [hlb]; decide), if_neg hnn0, hns]; simp only [h10, Bool.false_eq_true, if_false]
            have hpn := hps_next hx
            have hpk : hps p.kids (k + 1) = hps p.kids k ++ [(x0, (ns.length : Int))] := by rw [hpn, hc0]; exact kset_new hnk
            have hdn := dfK_next hx
            rw [toDf_of hkk hns] at hdn
            have hdl := dfK_len hk
            have hbb : (k + 1) * 136 ≤ 140737488355328 := by omega
            refine awp_skip ?_
            refine awp_seq (awp_reg ?_)
            refine aL 5 (by simp [go_sem, hx, hkk, hlk, withS_get, hrl, hsk, hpt, hns, encN, hdl, hbb, withS_tok, agg_df] <;> rfl) ?_
            refine aF call42 ((c_key x0 (by omega) (by omega)) _ (by exact hgl)) (by simp [go_sem, hx, hkk, hlk, withS_get, hrl, hsk, hpt, hns, encN, hdl, hbb, withS_tok, agg_df] <;> rfl) (by simp [go_sem, hx, hkk, hlk, withS_get, hrl, hsk, hpt, hns, encN, hdl, hbb, withS_tok, agg_df]) ?_
            refine aL 1 (by simp [go_sem, hx, hkk, hlk, withS_get, hrl, hsk, hpt, hns, encN, hdl, hbb, withS_tok, agg_df] <;> rfl) ?_
            refine al_nil ?_
            refine awp_regDP tyOk tySz 12 (by kernel_rfl) (by decide) ?_
            refine ul_run 12 (by simp [go_sem, hx, hkk, hlk, withS_get, hrl, hsk, hpt, hns, encN, hdl, hbb, withS_tok, agg_df] <;> rfl) ?_
            refine ul_nil ?_
            refine aL 2 (by simp [go_sem, hx, hkk, hlk, withS_get, hrl, hsk, hpt, hns, encN, hdl, hbb, withS_tok, agg_df] <;> rfl) ?_
            refine al_nil ?_
            refine aR (by simp [go_sem, hx, hkk, hlk, withS_get, hrl, hsk, hpt, hns, encN, hdl, hbb, withS_tok, agg_df] <;> rfl) ?_
            exact next_intro (k + 1) (σ.objs.length + 1) (σ.toks.length + 1) 1 (⟨hlt, by rw [hn, hst, hpn, hc0]; rfl, by rw [hpn, hc0]; exact hlo.kset hlb hf0 hnk⟩) (by omega) ⟨by show withS σ (hps p.kids (k + 1)) 41 (k + 1) = Store.cut _ _ _; rw [hpk]; simp [withS, sK_snoc, sV_snoc, go_sem, List.take_of_length_le], rfl, by simp, by simp, by simp [go_sem, hx, hkk, hlk, withS_get, hrl, hsk, hpt, hns, encN, hdl, hbb, withS_tok, agg_df, hw, hdn], fun ob h => withS_mem h, by simp [go_sem]⟩
     ·have hke : k = p.kids.length := by simp at h4; omega
      subst hke
      have hh : heads p = (0, hps p.kids p.kids.length) := by rw [hhd, hn, List.drop_length]; rfl
      have hh0 : (heads p).1 = 0 := by rw [hh]
      have hdl : ∀ x, x ∈ p.kids.map toDf → x.lab.size ≤ 1000000000 ∧ x.ps.length ≤ 1000000000 := dfs_small hh0 (by omega)
      refine awp_exit ?_
      refine then_exit ?_
      refine then_exit ?_
      refine inBlock_hit ?_
      refine awp_seq (awp_seq (aR (by simp [go_sem, dfK_all] <;> rfl) ?_))
      refine awp_block ?_
      refine awp_loop_headK (σ.objs.length + 1) (σ.toks.length + 1) 1 [2, 3, 5] (fun k : Nat => [(11, .pv (.int .i64 ↑k))]) (fun k => withS σ (hps p.kids (p.kids.length)) 41 (p.kids.length)) (fun k => k ≤ p.kids.length ∧ bodies (heads p).2 p.kids = bodies (heads p).2 (p.kids.drop k)) (fun k => p.kids.length - k) 0 (⟨Nat.zero_le _, rfl⟩) ⟨by show withS σ (hps p.kids (p.kids.length)) 41 (p.kids.length) = Store.cut _ _ _; rw [withS_cut], rfl, by simp, by simp, by simp [go_sem, dfK_all], fun ob h => withS_mem h, by simp [go_sem]⟩ ?_
      rintro k ⟨hk, hn⟩
      refine awp_seq (awp_seq (aR (by simp [go_sem, dfK_all] <;> rfl) ?_))
      refine awp_cond (by first | rfl | (simp [go_sem, dfK_all] <;> rfl)) (fun h11 => ?_) (fun h11 => ?_)
      ·have hlt : k < p.kids.length := by simp at h11; omega
       have hw : IntKind.i64.wrap (↑k + 1) = (k : Int) + 1 := wrap_succ (by omega)
       obtain ⟨x, hx, hxm⟩ := get_lt hlt
       have hst := bodies_step (ps := (heads p).2) hx
       obtain ⟨x0, x1, x2, ns, hkk, hk3, hlab, hns, hn8⟩ := def_ok hh0 hxm
       have htd := toDf_of hkk hns
       have hd1 : d1 x.kids = x1 := by rw [hkk]; rfl
       have hd2 : d2 x.kids = x2 := by rw [hkk]; rfl
       have hnl : nlist (names x1) = ns := by rw [hns]; rfl
       have hf2 : formed x2 = true := formed_kids (formed_kids hfp hxm) (by rw [hkk]; simp)
       have hsx := D.size_kid_lt hxm
       have hs0 := D.size_kid_lt (d := x) (k := x0) (by rw [hkk]; simp)
       have hs1 := D.size_kid_lt (d := x) (k := x1) (by rw [hkk]; simp)
       have hs2 := D.size_kid_lt (d := x) (k := x2) (by rw [hkk]; simp)
       refine awp_skip ?_
       refine awp_seq (awp_block ?_)
       refine awp_seq (awp_regDP tyOk tySz 11 (by kernel_rfl) (by decide) ?_)
       refine ul_run 11 (by simp [go_sem, dfK_all, hx, htd] <;> rfl) ?_
       refine ul_nil ?_
       refine aF call44 (c_body (p.kids.map toDf) (heads p).2 (lp_of hh0) (by simp; omega) hdl x2 ns _ (by exact hgl) hf2 (by omega)) (by simp [go_sem, dfK_all, hx, htd] <;> rfl) (by simp [go_sem, dfK_all, hx, htd]) ?_
       refine aL 1 (by simp [go_sem, dfK_all, hx, htd] <;> rfl) ?_
       refine al_nil ?_
       refine awp_seq (aR (by simp [go_sem, dfK_all, hx, htd] <;> rfl) ?_)
       refine awp_cond (by first | rfl | (simp [go_sem, dfK_all, hx, htd] <;> rfl)) (fun h12 => ?_) (fun h12 => ?_)
       ·refine awp_seq ?_
        refine aR (by simp [go_sem, dfK_all, hx, htd] <;> rfl) ?_
        refine awp_ret ?_
        refine inBlock_ret ?_
        refine then_ret ?_
        refine then_ret ?_
        refine inBlock_ret ?_
        refine then_ret ?_
        refine ends_ret (by simp [go_sem] <;> rfl) (by simp [go_sem]) ?_
        have hs : fcheck p = cexpr (heads p).2 ns x2 := by rw [show fcheck p = bodies (heads p).2 p.kids by unfold fcheck; rw [if_neg (by rw [hh0]; decide)], hn, hst, hd1, hd2, hnl]; simp only [h12, bA, bB, bC, bD, bE, bF, bG, bH, bI, bJ, Bool.false_eq_true, if_true, if_false]
        have hr : rdefs p = [] := by unfold rdefs; rw [hs, if_pos h12]
        exact ⟨by simp [go_sem, hs, hr], by simp [go_sem, withS]⟩
       ·refine awp_skip ?_
        refine aR (by simp [go_sem, dfK_all, hx, htd] <;> rfl) ?_
        exact next_intro (k + 1) (σ.objs.length + 1) (σ.toks.length + 1) 1 (⟨hlt, by rw [hn, hst, hd1, hd2, hnl]; simp only [h0, h1, h2, h3, h11, h12, bA, bB, bC, bD, bE, bF, bG, bH, bI, bJ, Bool.false_eq_true, if_true, if_false]⟩) (by omega) ⟨by show withS σ (hps p.kids (p.kids.length)) 41 (p.kids.length) = Store.cut _ _ _; rw [withS_cut], rfl, by simp, by simp, by simp [go_sem, dfK_all, hx, htd, hw], fun ob h => withS_mem h, by simp [go_sem]⟩
      ·have hke : k = p.kids.length := by simp at h11; omega
       subst hke
       refine awp_exit ?_
       refine then_exit ?_
       refine then_exit ?_
       refine inBlock_hit ?_
       refine awp_seq (aR (by simp [go_sem, dfK_all] <;> rfl) ?_)
       refine awp_ret ?_
       refine ends_ret (by simp [go_sem] <;> rfl) (by simp [go_sem]) ?_
       have hs : fcheck p = 0 := by rw [show fcheck p = bodies (heads p).2 p.kids by unfold fcheck; rw [if_neg (by rw [hh0]; decide)], hn, List.drop_length]; rfl
       have hr : rdefs p = p.kids.map toDf := by unfold rdefs; rw [hs]; rfl
       exact ⟨by simp [go_sem, hs, hr], by simp [go_sem, withS]⟩

end Go.Proofs.YtienmmfjjffjaaaGreatDoor

/- Main, Labels, Def, Calls, Same. -/
namespace Go.Proofs.YtienmmfjjffjaaaGreatDoor
open Go Go.Aw
variable {kr : ResO}
set_option maxHeartbeats 1000000 in
theorem c_flat_Labels (p : D) (hp : p.size ≤ 900000000) : Pur Tryz.prog (GL kr) 13 [.pv (enc p)] (.tuple [.pv (.slice ((fLabels p).1.map enc)), .pv (.int .i64 (fLabels p).2)]) := by
 have hkl := D.kids_length_lt p
 refine pur_of fun σ hgl => ?_
 refine acalls_of tyOk Tryz.func13 rfl (by simp [Tryz.f13]) ?_
 refine awp_seq (aR (by simp [go_sem] <;> rfl) ?_)
 refine awp_seq (awp_seq (awp_reg ?_))
 refine aL 1 (by simp [go_sem] <;> rfl) ?_
 refine aF call11 ((c_flat_Check p hp) _ (by exact hgl)) (by simp [go_sem] <;> rfl) (by simp [go_sem]) ?_
 refine aL 1 (by simp [go_sem] <;> rfl) ?_
 refine al_nil ?_
 refine awp_seq (aR (by simp [go_sem] <;> rfl) ?_)
 refine awp_cond (by first | rfl | (simp [go_sem] <;> rfl)) (fun h0 => ?_) (fun h0 => ?_)
 ·refine awp_seq ?_
  refine aR (by simp [go_sem] <;> rfl) ?_
  refine awp_ret ?_
  refine then_ret ?_
  refine ends_ret (by simp [go_sem] <;> rfl) (by simp [go_sem]) ?_
  exact ⟨by simp only [fLabels, h0, bA, bB, bC, bD, bE, bF, bG, bH, bI, bJ, Bool.false_eq_true, if_true, if_false]; simp [go_sem], by simp [go_sem]⟩
 ·have R : Right p := ⟨by simpa using h0, hp⟩
  refine awp_skip ?_
  refine awp_seq (aR (by simp [go_sem] <;> rfl) ?_)
  refine awp_seq (awp_seq (aR (by simp [go_sem] <;> rfl) ?_))
  refine awp_adopt' 5 24 4 (by simp [go_sem] <;> rfl) ?_
  refine awp_block ?_
  refine awp_loop_headK σ.objs.length (σ.toks.length + 1) 1 [2, 3, 14, 15] (fun k : Nat => [(5, .acc ((outN p.kids D.head k).map enc) σ.toks.length), (16, .pv (.int .i64 ↑k))]) (fun k => { σ with toks := σ.toks ++ [⟨k, 24, 4⟩] }) (fun k => k ≤ p.kids.length) (fun k => p.kids.length - k) 0 (Nat.zero_le _) ⟨by simp [go_sem, outN_zero], rfl, by simp, by simp, by simp [go_sem, outN_zero], fun ob h => .inl (by simpa [go_sem, outN_zero] using h), by simp [go_sem]⟩ ?_
  intro k hk
  refine awp_seq (aR (by simp [go_sem] <;> rfl) ?_)
  refine awp_seq (awp_cond (by first | rfl | (simp [go_sem] <;> rfl)) (fun h1 => ?_) (fun h1 => ?_))
  ·have hlt : k < p.kids.length := by simp at h1; omega
   have hw : IntKind.i64.wrap (↑k + 1) = (k : Int) + 1 := wrap_succ (by omega)
   obtain ⟨x, hx, hxm⟩ := get_lt hlt
   obtain ⟨x0, x1, x2, ns, hkk, _⟩ := R.def hxm
   have hx0 : x.kids[0]? = some x0 := by rw [hkk]; rfl
   have hsx := D.size_kid_lt hxm
   have hsx0 := D.size_kid_lt (List.mem_of_getElem? hx0)
   have hon := outN_next (h := D.head) hx
   rw [head_cons hkk] at hon
   have hol := outN_len (l := p.kids) (h := D.head) hk
   have hbb : (k + 1) * 56 ≤ 140737488355328 := by omega
   refine awp_skip ?_
   refine awp_seq (awp_block ?_)
   refine awp_seq (aR (by simp [go_sem, hx, hx0, hol, hbb] <;> rfl) ?_)
   refine awp_reg ?_
   refine aL 5 (by simp [go_sem, hx, hx0, hol, hbb] <;> rfl) ?_
   refine aF call48 ((c_own x0 (by omega)) _ (by exact hgl)) (by simp [go_sem, hx, hx0, hol, hbb] <;> rfl) (by simp [go_sem, hx, hx0, hol, hbb]) ?_
   refine aL 3 (by simp [go_sem, hx, hx0, hol, hbb] <;> rfl) ?_
   refine al_nil ?_
   refine aR (by simp [go_sem, hx, hx0, hol, hbb] <;> rfl) ?_
   exact next_intro (k + 1) σ.objs.length (σ.toks.length + 1) 1 (hlt) (by omega) ⟨by simp [go_sem, hx, hx0, hol, hbb, hw, hon], rfl, by simp, by simp, by simp [go_sem, hx, hx0, hol, hbb, hw, hon], fun ob h => .inl (by simpa [go_sem, hx, hx0, hol, hbb, hw, hon] using h), by simp [go_sem]⟩
  ·have hke : k = p.kids.length := by simp at h1; omega
   subst hke
   refine awp_exit ?_
   refine then_exit ?_
   refine then_exit ?_
   refine inBlock_hit ?_
   refine awp_seq (aR (by simp [go_sem, outN_all] <;> rfl) ?_)
   refine awp_ret ?_
   refine ends_ret (by simp [go_sem] <;> rfl) (by simp [go_sem]) ?_
   have hs : fLabels p = (p.kids.map D.head, 0) := by simp only [fLabels, outN_all, h0, bA, bB, bC, bD, bE, bF, bG, bH, bI, bJ, Bool.false_eq_true, if_true, if_false]
   exact ⟨by simp [go_sem, hs], by simp [go_sem]⟩

set_option maxHeartbeats 1000000 in
theorem c_flat_Same (p q : D) (hp : p.size ≤ 900000000) (hq : q.size ≤ 900000000) : Pur Tryz.prog (GL kr) 22 [.pv (enc p), .pv (enc q)] (.tuple [.pv (.bool (fSame p q).1), .pv (.int .i64 (fSame p q).2)]) := by
 refine pur_of fun σ hgl => ?_
 refine acalls_of tyOk Tryz.func22 rfl (by simp [Tryz.f22]) ?_
 refine awp_seq (aR (by simp [go_sem] <;> rfl) ?_)
 refine awp_seq (awp_reg ?_)
 refine aL 1 (by simp [go_sem] <;> rfl) ?_
 refine aF call21 ((c_flat_Canon p hp) _ (by exact hgl)) (by simp [go_sem] <;> rfl) (by simp [go_sem]) ?_
 refine aL 6 (by simp [go_sem] <;> rfl) ?_
 refine al_nil ?_
 refine awp_seq (awp_seq (aR (by simp [go_sem] <;> rfl) ?_))
 refine awp_cond (by first | rfl | (simp [go_sem] <;> rfl)) (fun h0 => ?_) (fun h0 => ?_)
 ·refine awp_seq ?_
  refine aR (by simp [go_sem] <;> rfl) ?_
  refine awp_ret ?_
  refine then_ret ?_
  refine ends_ret (by simp [go_sem] <;> rfl) (by simp [go_sem]) ?_
  exact ⟨by simp only [fSame, h0, bA, bB, bC, bD, bE, bF, bG, bH, bI, bJ, Bool.false_eq_true, if_true, if_false]; simp [go_sem], by simp [go_sem]⟩
 ·refine awp_skip ?_
  refine awp_seq (awp_reg ?_)
  refine aL 1 (by simp [go_sem] <;> rfl) ?_
  refine aF call21 ((c_flat_Canon q hq) _ (by exact hgl)) (by simp [go_sem] <;> rfl) (by simp [go_sem]) ?_
  refine aL 6 (by simp [go_sem] <;> rfl) ?_
  refine al_nil ?_
  refine awp_seq (awp_reg ?_)
  refine aL 3 (by simp [go_sem] <;> rfl) ?_
  refine al_splitT 24 (by first | rfl | (simp [go_sem] <;> rfl)) (fun h1 => ?_) (fun h1 => ?_)
  ·refine aLG 2 24 true (by simp [go_sem] <;> rfl) ?_
   refine al_fnG 24 true true (by simp [go_sem]) rfl (by simp [go_sem]) rfl rfl (by simp [go_sem] <;> rfl) call58 ((c_datum_Equal (fcanon p).1 (by have := fcanon_size (p := p) hp; omega) (fcanon q).1) _ (by exact hgl)) (by simp [go_sem] <;> rfl) (by simp [go_sem]) rfl rfl ?_
   refine aL 4 (by simp [go_sem] <;> rfl) ?_
   refine al_nil ?_
   refine awp_ret ?_
   refine ends_ret (by simp [go_sem] <;> rfl) (by simp [go_sem]) ?_
   exact ⟨by simp only [fSame, h0, h1, bA, bB, bC, bD, bE, bF, bG, bH, bI, bJ, Bool.false_eq_true, if_true, if_false]; simp [go_sem], by simp [go_sem]⟩
  ·refine aK 3 24 true ?_
   refine aL 4 (by simp [go_sem] <;> rfl) ?_
   refine al_nil ?_
   refine awp_ret ?_
   refine ends_ret (by simp [go_sem] <;> rfl) (by simp [go_sem]) ?_
   exact ⟨by simp only [fSame, h0, h1, bA, bB, bC, bD, bE, bF, bG, bH, bI, bJ, Bool.false_eq_true, if_true, if_false]; simp [go_sem], by simp [go_sem]⟩

end Go.Proofs.YtienmmfjjffjaaaGreatDoor

/- The specification: Calls, Reach. -/
namespace Go.Proofs.YtienmmfjjffjaaaGreatDoor
open Go Go.Aw
variable {kr : ResO}
end Go.Proofs.YtienmmfjjffjaaaGreatDoor

/- The table for runs that are told whole. -/
namespace Go.Proofs.YtienmmfjjffjaaaGreatDoor
open Go Go.Aw
variable {kr : ResO}
def dm : FuncId → Nat → Nat × List Nat × Bool
  | 3, 12 => (24, [], false)
  | 4, 1 => (6, [], false)
  | 4, 6 => (11, [], false)
  | 5, 13 => (6, [], false)
  | 5, 16 => (7, [], false)
  | 7, 1 => (6, [], false)
  | 8, 1 => (6, [], false)
  | 8, 17 => (24, [], false)
  | 10, 22 => (12, [], true)
  | 10, 26 => (11, [], true)
  | 12, 4 => (12, [], false)
  | 15, 6 => (10, [], true)
  | 16, 5 => (30, [], false)
  | 17, 6 => (8, [], true)
  | 18, 6 => (8, [], true)
  | 23, 5 => (20, [], false)
  | 24, 7 => (11, [], false)
  | 27, 2 => (4, [], false)
  | 28, 6 => (7, [], false)
  | 31, 14 => (7, [], false)
  | 32, 15 => (14, [], false)
  | 32, 20 => (9, [], false)
  | 33, 13 => (11, [], false)
  | 33, 15 => (5, [], false)
  | 33, 16 => (12, [], true)
  | 34, 14 => (15, [], true)
  | 36, 7 => (6, [], false)
  | 39, 4 => (6, [], true)
  | 44, 10 => (10, [], true)
  | 44, 21 => (9, [], true)
  | 47, 27 => (12, [], false)
  | 54, 6 => (7, [], false)
  | 61, 12 => (8, [], true)
  | 63, 6 => (22, [], false)
  | 76, 10 => (10, [], false)
  | 79, 2 => (13, [], true)
  | 79, 6 => (12, [], false)
  | 81, 4 => (5, [], true)
  | 89, 4 => (13, [], false)
  | 89, 10 => (10, [], false)
  | 94, 3 => (13, [], false)
  | 99, 1 => (5, [], false)
  | 100, 5 => (8, [], false)
  | 100, 7 => (16, [], false)
  | 102, 5 => (7, [], false)
  | 103, 4 => (5, [], true)
  | 113, 1 => (5, [], true)
  | 120, 10 => (11, [], true)
  | 121, 5 => (9, [], false)
  | 122, 4 => (5, [], true)
  | 122, 11 => (13, [], false)
  | 122, 13 => (13, [], false)
  | 129, 6 => (6, [], true)
  | 135, 7 => (13, [], true)
  | 135, 8 => (13, [], true)
  | 135, 9 => (13, [], true)
  | 135, 10 => (13, [], true)
  | 135, 17 => (13, [], true)
  | 135, 18 => (13, [], true)
  | 135, 23 => (13, [], true)
  | 137, 0 => (9, [], true)
  | 137, 1 => (8, [], true)
  | 137, 8 => (19, [], true)
  | 138, 3 => (9, [], true)
  | 138, 5 => (14, [], true)
  | 138, 16 => (9, [], false)
  | 138, 18 => (25, [], true)
  | 138, 19 => (7, [], false)
  | 148, 2 => (19, [], true)
  | 148, 4 => (9, [], true)
  | _, _ => (0, [], false)
def shT : FuncId → List Tmp
  | 120 => [13]
  | _ => []
def caL : List Nat := [2, 3, 4, 5, 6, 7, 8, 9, 10, 11, 12, 13, 14, 15, 16, 17, 18, 19, 20, 21, 22, 23, 24, 25, 26, 27, 28, 29, 30, 31, 32, 33, 34, 35, 36, 37, 38, 39, 40, 41, 42, 43, 44, 45, 46, 47, 48, 49, 50, 51, 52, 53, 54, 55, 56, 57, 58, 59, 60, 61, 62, 63, 64, 65, 66, 67, 68, 69, 70, 71, 72, 73, 74, 75, 76, 77, 78, 79, 80, 81, 82, 83, 84, 85, 86, 87, 88, 89, 90, 91, 92, 93, 94, 95, 96, 97, 98, 99, 100, 101, 102, 103, 104, 105, 106, 107, 108, 109, 110, 111, 112, 113, 114, 115, 116, 117, 118, 119, 120, 121, 122, 123, 124, 125, 126, 127, 128, 129, 130, 131, 132, 133, 134, 135, 136, 137, 138, 139, 140, 141, 142, 143, 144, 145, 146, 147, 148, 149, 150, 151, 152, 153]
theorem caOk : ∀ f, caL.contains f = true → Callable Tryz.prog f := by
  intro f h
  simp only [caL, List.contains_eq_mem, List.mem_cons, List.not_mem_nil, or_false, decide_eq_true_eq] at h
  rcases h with rfl | rfl | rfl | rfl | rfl | rfl | rfl | rfl | rfl | rfl | rfl | rfl | rfl | rfl | rfl | rfl | rfl | rfl | rfl | rfl | rfl | rfl | rfl | rfl | rfl | rfl | rfl | rfl | rfl | rfl | rfl | rfl | rfl | rfl | rfl | rfl | rfl | rfl | rfl | rfl | rfl | rfl | rfl | rfl | rfl | rfl | rfl | rfl | rfl | rfl | rfl | rfl | rfl | rfl | rfl | rfl | rfl | rfl | rfl | rfl | rfl | rfl | rfl | rfl | rfl | rfl | rfl | rfl | rfl | rfl | rfl | rfl | rfl | rfl | rfl | rfl | rfl | rfl | rfl | rfl | rfl | rfl | rfl | rfl | rfl | rfl | rfl | rfl | rfl | rfl | rfl | rfl | rfl | rfl | rfl | rfl | rfl | rfl | rfl | rfl | rfl | rfl | rfl | rfl | rfl | rfl | rfl | rfl | rfl | rfl | rfl | rfl | rfl | rfl | rfl | rfl | rfl | rfl | rfl | rfl | rfl | rfl | rfl | rfl | rfl | rfl | rfl | rfl | rfl | rfl | rfl | rfl | rfl | rfl | rfl | rfl | rfl | rfl | rfl | rfl | rfl | rfl | rfl | rfl | rfl | rfl | rfl | rfl | rfl | rfl | rfl | rfl
  · exact call2
  · exact call3
  · exact call4
  · exact call5
  · exact call6
  · exact call7
  · exact call8
  · exact call9
  · exact call10
  · exact call11
  · exact call12
  · exact call13
  · exact call14
  · exact call15
  · exact call16
  · exact call17
  · exact call18
  · exact call19
  · exact call20
  · exact call21
  · exact call22
  · exact call23
  · exact call24
  · exact call25
  · exact call26
  · exact call27
  · exact call28
  · exact call29
  · exact call30
  · exact call31
  · exact call32
  · exact call33
  · exact call34
  · exact call35
  · exact call36
  · exact call37
  · exact call38
  · exact call39
  · exact call40
  · exact call41
  · exact call42
  · exact call43
  · exact call44
  · exact call45
  · exact call46
  · exact call47
  · exact call48
  · exact call49
  · exact call50
  · exact call51
  · exact call52
  · exact call53
  · exact call54
  · exact call55
  · exact call56
  · exact call57
  · exact call58
  · exact call59
  · exact call60
  · exact call61
  · exact call62
  · exact call63
  · exact call64
  · exact call65
  · exact call66
  · exact call67
  · exact call68
  · exact call69
  · exact call70
  · exact call71
  · exact call72
  · exact call73
  · exact call74
  · exact call75
  · exact call76
  · exact call77
  · exact call78
  · exact call79
  · exact call80
  · exact call81
  · exact call82
  · exact call83
  · exact call84
  · exact call85
  · exact call86
  · exact call87
  · exact call88
  · exact call89
  · exact call90
  · exact call91
  · exact call92
  · exact call93
  · exact call94
  · exact call95
  · exact call96
  · exact call97
  · exact call98
  · exact call99
  · exact call100
  · exact call101
  · exact call102
  · exact call103
  · exact call104
  · exact call105
  · exact call106
  · exact call107
  · exact call108
  · exact call109
  · exact call110
  · exact call111
  · exact call112
  · exact call113
  · exact call114
  · exact call115
  · exact call116
  · exact call117
  · exact call118
  · exact call119
  · exact call120
  · exact call121
  · exact call122
  · exact call123
  · exact call124
  · exact call125
  · exact call126
  · exact call127
  · exact call128
  · exact call129
  · exact call130
  · exact call131
  · exact call132
  · exact call133
  · exact call134
  · exact call135
  · exact call136
  · exact call137
  · exact call138
  · exact call139
  · exact call140
  · exact call141
  · exact call142
  · exact call143
  · exact call144
  · exact call145
  · exact call146
  · exact call147
  · exact call148
  · exact call149
  · exact call150
  · exact call151
  · exact call152
  · exact call153
def orcT (f : FuncId) (args : List AV) : Option AV := match Nat.beq f 124, args with
  | true, [.pv (.int .u8 c)] => some (.pv (.bool (letter c)))
  | _, _ => none
theorem orcOk : ∀ f args r, orcT f args = some r → Pur Tryz.prog (GL kr) f args r := by
  intro f args r h
  unfold orcT at h
  split at h
  · rename_i c hf
    have := Nat.eq_of_beq_eq_true hf
    subst this
    cases h
    exact c_pagodaref01_Letter c
  · cases h
noncomputable def cfg : Cfg := ⟨Tryz.prog, ty, shT, dm, caL.contains, orcT⟩
theorem cfgOk : CfgOk cfg (GL kr) := ⟨tyOk, tySz, caOk, orcOk⟩
def exD : D := dlist [dlist [dsym ⟨#[102]⟩, dlist [dsym ⟨#[120]⟩], dlist [dsym ⟨#[105, 102]⟩, dlist [dsym ⟨#[61]⟩, dsym ⟨#[120]⟩, dlist [dsym ⟨#[113, 117, 111, 116, 101]⟩, dlist []]], dnum 0, dlist [dsym ⟨#[43]⟩, dnum 1, dlist [dsym ⟨#[99, 97, 108, 108]⟩, dsym ⟨#[102]⟩, dlist [dsym ⟨#[114, 101, 115, 116]⟩, dsym ⟨#[120]⟩]]]]]]
theorem c_example : PurAt Tryz.prog ⟨(GL kr), [], []⟩ 51 [] (.pv (enc exD)) := purAt_eval (n := 100000) cfgOk (by kernel_rfl)
end Go.Proofs.YtienmmfjjffjaaaGreatDoor

/- The example, alive. -/
namespace Go.Proofs.YtienmmfjjffjaaaGreatDoor
open Go Go.Aw
variable {kr : ResO}
def exC : D := dlist [dlist [dnum 0, dlist [dsym ⟨#[120]⟩], dlist [dsym ⟨#[105, 102]⟩, dlist [dsym ⟨#[61]⟩, dsym ⟨#[120]⟩, dlist [dsym ⟨#[113, 117, 111, 116, 101]⟩, dlist []]], dnum 0, dlist [dsym ⟨#[43]⟩, dnum 1, dlist [dsym ⟨#[99, 97, 108, 108]⟩, dnum 0, dlist [dsym ⟨#[114, 101, 115, 116]⟩, dsym ⟨#[120]⟩]]]]]]
theorem ex_size : exD.size ≤ 100 := Nat.le_of_ble_eq_true (by kernel_rfl)
theorem ex_check : fcheck exD = 0 := by kernel_rfl
theorem ex_Size : fSize exD = (10, 0) := by kernel_rfl
theorem ex_canon : fcanon exD = (exC, 0) := by kernel_rfl
theorem ex_reach : fReach exD = ([dsym ⟨#[102]⟩], 0) := by kernel_rfl
theorem ex_none : fcheck (dlist []) = 4 := by kernel_rfl
theorem ex_kids : ∃ c0 r, exC.kids = [c0] ∧ c0.kids = dnum 0 :: r := ⟨_, _, rfl, rfl⟩
set_option maxHeartbeats 1000000 in
theorem c_alive_of (σ : Store) (hgl : σ.gl = (GL kr)) (x c c0 z u : D) (l : List D) (y : D) (hE : PurAt Tryz.prog σ 51 [] (.pv (enc x))) (hes : x.size ≤ 100) (h1 : fcheck x = 0) (h2 : fSize x = (10, 0)) (h3 : fcanon x = (c, 0)) (h4 : fReach x = ([y], 0)) (hc1 : c.kids = [c0]) (hc3 : c0.kids[0]? = some u) (hu : u.size ≤ 100) (hN : Pur Tryz.prog (GL kr) 26 [.pv (.int .i64 0)] (.pv (enc u))) (hc4 : deq u u = true) (hz : enc z = .agg [.int .i64 3, .int .i64 0, .str ⟨#[]⟩, .slice []]) (hzs : z.size ≤ 100) (h5 : fcheck z = 4) : PurAt Tryz.prog σ 16 [] (.pv (.bool true)) := by
 refine purAt_of ?_
 refine acalls_of tyOk Tryz.func16 rfl (by simp [Tryz.f16]) ?_
 refine awp_seq (aR (by simp [go_sem, h1, h2, h3, h4, h5, hc1, hc3, hc4] <;> rfl) ?_)
 refine awp_seq (awp_reg ?_)
 refine aF call51 (hE) (by simp [go_sem, h1, h2, h3, h4, h5, hc1, hc3, hc4] <;> rfl) (by simp [go_sem, h1, h2, h3, h4, h5, hc1, hc3, hc4]) ?_
 refine aL 2 (by simp [go_sem, h1, h2, h3, h4, h5, hc1, hc3, hc4] <;> rfl) ?_
 refine al_nil ?_
 refine awp_seq (awp_reg ?_)
 refine aL 1 (by simp [go_sem, h1, h2, h3, h4, h5, hc1, hc3, hc4] <;> rfl) ?_
 refine aF call14 ((c_flat_Size x (by omega)) _ (by exact hgl)) (by simp [go_sem, h1, h2, h3, h4, h5, hc1, hc3, hc4] <;> rfl) (by simp [go_sem, h1, h2, h3, h4, h5, hc1, hc3, hc4]) ?_
 refine aL 5 (by simp [go_sem, h1, h2, h3, h4, h5, hc1, hc3, hc4] <;> rfl) ?_
 refine al_nil ?_
 refine awp_seq (awp_reg ?_)
 refine aL 1 (by simp [go_sem, h1, h2, h3, h4, h5, hc1, hc3, hc4] <;> rfl) ?_
 refine aF call21 ((c_flat_Canon x (by omega)) _ (by exact hgl)) (by simp [go_sem, h1, h2, h3, h4, h5, hc1, hc3, hc4] <;> rfl) (by simp [go_sem, h1, h2, h3, h4, h5, hc1, hc3, hc4]) ?_
 refine aL 6 (by simp [go_sem, h1, h2, h3, h4, h5, hc1, hc3, hc4] <;> rfl) ?_
 refine al_nil ?_
 refine awp_seq (awp_reg ?_)
 refine aL 1 (by simp [go_sem, h1, h2, h3, h4, h5, hc1, hc3, hc4] <;> rfl) ?_
 refine aF call25 ((c_flat_Reach x (by omega)) _ (by exact hgl)) (by simp [go_sem, h1, h2, h3, h4, h5, hc1, hc3, hc4] <;> rfl) (by simp [go_sem, h1, h2, h3, h4, h5, hc1, hc3, hc4]) ?_
 refine aL 5 (by simp [go_sem, h1, h2, h3, h4, h5, hc1, hc3, hc4] <;> rfl) ?_
 refine al_nil ?_
 refine awp_seq (awp_regDC tyOk tySz 30 (drawOk_of (by kernel_rfl)) (by decide) ?_)
 refine ul_run 1 (by simp [go_sem, h1, h2, h3, h4, h5, hc1, hc3, hc4] <;> rfl) ?_
 refine ul_fn (by first | (intro _ _ hh; exact hh) | simp [go_sem]) rfl rfl rfl rfl (by simp [go_sem, h1, h2, h3, h4, h5, hc1, hc3, hc4] <;> rfl) call11 ((c_flat_Check x (by omega)) _ (by exact hgl)) (by simp [go_sem, h1, h2, h3, h4, h5, hc1, hc3, hc4] <;> rfl) (by simp [go_sem, h1, h2, h3, h4, h5, hc1, hc3, hc4]) rfl rfl ?_
 refine ul_run 2 (by simp [go_sem, h1, h2, h3, h4, h5, hc1, hc3, hc4] <;> rfl) ?_
 refine ul_splitT 27 (by first | rfl | (simp [go_sem, h1, h2, h3, h4, h5, hc1, hc3, hc4] <;> rfl)) (fun h20 => ?_) (fun h20 => ?_)
 ·refine ul_runG 2 27 true true (by simp [go_sem]) rfl (by simp [go_sem]) rfl rfl (by simp [go_sem, h1, h2, h3, h4, h5, hc1, hc3, hc4] <;> rfl) ?_
  refine ul_run 2 (by simp [go_sem, h1, h2, h3, h4, h5, hc1, hc3, hc4] <;> rfl) ?_
  refine ul_splitT 31 (by first | rfl | (simp [go_sem, h1, h2, h3, h4, h5, hc1, hc3, hc4] <;> rfl)) (fun h21 => ?_) (fun h21 => ?_)
  ·refine ul_runG 2 31 true true (by simp [go_sem]) rfl (by simp [go_sem]) rfl rfl (by simp [go_sem, h1, h2, h3, h4, h5, hc1, hc3, hc4] <;> rfl) ?_
   refine ul_run 2 (by simp [go_sem, h1, h2, h3, h4, h5, hc1, hc3, hc4] <;> rfl) ?_
   refine ul_splitT 35 (by first | rfl | (simp [go_sem, h1, h2, h3, h4, h5, hc1, hc3, hc4] <;> rfl)) (fun h22 => ?_) (fun h22 => ?_)
   ·refine ul_runG 2 35 true true (by simp [go_sem]) rfl (by simp [go_sem]) rfl rfl (by simp [go_sem, h1, h2, h3, h4, h5, hc1, hc3, hc4] <;> rfl) ?_
    refine ul_run 2 (by simp [go_sem, h1, h2, h3, h4, h5, hc1, hc3, hc4] <;> rfl) ?_
    refine ul_splitT 39 (by first | rfl | (simp [go_sem, h1, h2, h3, h4, h5, hc1, hc3, hc4] <;> rfl)) (fun h23 => ?_) (fun h23 => ?_)
    ·refine ul_runG 4 39 true true (by simp [go_sem]) rfl (by simp [go_sem]) rfl rfl (by simp [go_sem, h1, h2, h3, h4, h5, hc1, hc3, hc4] <;> rfl) ?_
     refine ul_run 2 (by simp [go_sem, h1, h2, h3, h4, h5, hc1, hc3, hc4] <;> rfl) ?_
     refine ul_splitT 45 (by first | rfl | (simp [go_sem, h1, h2, h3, h4, h5, hc1, hc3, hc4] <;> rfl)) (fun h24 => ?_) (fun h24 => ?_)
     ·refine ul_runG 7 45 true true (by simp [go_sem]) rfl (by simp [go_sem]) rfl rfl (by simp [go_sem, h1, h2, h3, h4, h5, hc1, hc3, hc4] <;> rfl) ?_
      refine ul_fnG 45 true true (by simp [go_sem]) rfl (by first | (intro _ _ hh; exact hh) | simp [go_sem]) (by simp [go_sem]) rfl rfl rfl (by simp [go_sem, h1, h2, h3, h4, h5, hc1, hc3, hc4] <;> rfl) call26 ((hN) _ (by exact hgl)) (by simp [go_sem, h1, h2, h3, h4, h5, hc1, hc3, hc4] <;> rfl) (by simp [go_sem, h1, h2, h3, h4, h5, hc1, hc3, hc4]) rfl rfl ?_
      refine ul_nil ?_
      refine al_fnG 45 true true (by simp [go_sem]) rfl (by simp [go_sem]) rfl rfl (by simp [go_sem, h1, h2, h3, h4, h5, hc1, hc3, hc4] <;> rfl) call15 ((c_Same u (by omega) u) _ (by exact hgl)) (by simp [go_sem, h1, h2, h3, h4, h5, hc1, hc3, hc4] <;> rfl) (by simp [go_sem, h1, h2, h3, h4, h5, hc1, hc3, hc4]) rfl rfl ?_
      refine aL 2 (by simp [go_sem, h1, h2, h3, h4, h5, hc1, hc3, hc4] <;> rfl) ?_
      refine al_splitT 56 (by first | rfl | (simp [go_sem, h1, h2, h3, h4, h5, hc1, hc3, hc4] <;> rfl)) (fun h25 => ?_) (fun h25 => ?_)
      ·refine aLG 2 56 true (by simp [go_sem, h1, h2, h3, h4, h5, hc1, hc3, hc4] <;> rfl) ?_
       refine aL 2 (by simp [go_sem, h1, h2, h3, h4, h5, hc1, hc3, hc4] <;> rfl) ?_
       refine al_splitT 60 (by first | rfl | (simp [go_sem, h1, h2, h3, h4, h5, hc1, hc3, hc4] <;> rfl)) (fun h26 => ?_) (fun h26 => ?_)
       ·refine aLG 3 60 true (by simp [go_sem, h1, h2, h3, h4, h5, hc1, hc3, hc4] <;> rfl) ?_
        refine aL 2 (by simp [go_sem, h1, h2, h3, h4, h5, hc1, hc3, hc4] <;> rfl) ?_
        refine al_splitT 65 (by first | rfl | (simp [go_sem, h1, h2, h3, h4, h5, hc1, hc3, hc4] <;> rfl)) (fun h27 => ?_) (fun h27 => ?_)
        ·refine aLG 1 65 true (by simp [go_sem, h1, h2, h3, h4, h5, hc1, hc3, hc4] <;> rfl) ?_
         refine al_fnG 65 true true (by simp [go_sem]) rfl (by simp [go_sem]) rfl rfl (by simp [go_sem, h1, h2, h3, h4, h5, hc1, hc3, hc4] <;> rfl) call11 ((c_flat_Check z (by omega)) _ (by exact hgl)) (by simp [go_sem, h1, h2, h3, h4, h5, hc1, hc3, hc4] <;> rfl) (by simp [go_sem, h1, h2, h3, h4, h5, hc1, hc3, hc4, hz]) rfl rfl ?_
         refine aLG 1 65 true (by simp [go_sem, h1, h2, h3, h4, h5, hc1, hc3, hc4] <;> rfl) ?_
         refine aL 2 (by simp [go_sem, h1, h2, h3, h4, h5, hc1, hc3, hc4] <;> rfl) ?_
         refine al_nil ?_
         refine awp_ret ?_
         refine ends_ret (by simp [go_sem] <;> rfl) (by simp [go_sem]) ?_
         exact ⟨by simp [go_sem], by simp [go_sem]⟩
        ·cases h27
       ·cases h26
      ·cases h25
     ·cases h24
    ·cases h23
   ·cases h22
  ·cases h21
 ·cases h20

theorem c_alive (σ : Store) (hσ : σ = ⟨(GL kr), [], []⟩) : PurAt Tryz.prog σ 16 [] (.pv (.bool true)) := by
  obtain ⟨c0, r, hc1, hc2⟩ := ex_kids
  subst hσ
  exact c_alive_of _ rfl exD exC c0 (dlist []) (dnum 0) [] _ c_example ex_size ex_check ex_Size ex_canon ex_reach hc1 (by rw [hc2]; rfl) (Nat.le_of_ble_eq_true rfl) (c_pagodaref01_Num 0) (deq_refl _) (enc_list []) (Nat.le_of_ble_eq_true rfl) ex_none

end Go.Proofs.YtienmmfjjffjaaaGreatDoor

/- FlatChecks. -/
namespace Go.Proofs.YtienmmfjjffjaaaGreatDoor
open Go Go.Aw
variable {kr : ResO}
end Go.Proofs.YtienmmfjjffjaaaGreatDoor

/- FlatDefs. -/
namespace Go.Proofs.YtienmmfjjffjaaaGreatDoor
open Go Go.Aw
variable {kr : ResO}
end Go.Proofs.YtienmmfjjffjaaaGreatDoor

/- The specification: other labels, programs as data, Canon. -/
namespace Go.Proofs.YtienmmfjjffjaaaGreatDoor
open Go Go.Aw
variable {kr : ResO}
end Go.Proofs.YtienmmfjjffjaaaGreatDoor

/- Expressions of programs: by the program, by the specification. -/
namespace Go.Proofs.YtienmmfjjffjaaaGreatDoor
open Go Go.Aw
variable {kr : ResO}
end Go.Proofs.YtienmmfjjffjaaaGreatDoor

/- Expressions of programs, by the specification; data that are cut. -/
namespace Go.Proofs.YtienmmfjjffjaaaGreatDoor
open Go Go.Aw
variable {kr : ResO}
end Go.Proofs.YtienmmfjjffjaaaGreatDoor

/- The specification: Join; FlatJoins. -/
namespace Go.Proofs.YtienmmfjjffjaaaGreatDoor
open Go Go.Aw
variable {kr : ResO}
end Go.Proofs.YtienmmfjjffjaaaGreatDoor

/- FlatJoins. -/
namespace Go.Proofs.YtienmmfjjffjaaaGreatDoor
open Go Go.Aw
variable {kr : ResO}
theorem c_refCheckO (p : D) (hp : p.size ≤ 900000000) (l : List Df) (e : Int) (hl : l = rdefs p) (he : e = fcheck p) : Pur Tryz.prog (GL kr) 10 [.pv (enc p)] (.tuple [.pv (.slice (l.map encDf)), .pv (.int .i64 e)]) := by rw [hl, he]; exact c_refCheck p hp
end Go.Proofs.YtienmmfjjffjaaaGreatDoor

/- Programs with other labels, in another order. -/
namespace Go.Proofs.YtienmmfjjffjaaaGreatDoor
open Go Go.Aw
variable {kr : ResO}
set_option maxHeartbeats 1000000 in
theorem c_number (ls : List D) (hl : ls.length ≤ 1000000000) (hls : ∀ y, y ∈ ls → y.size ≤ 1000000000) (n : Int) (hn0 : 0 ≤ n) (hn9 : n ≤ 65535) (f : D) : Pur Tryz.prog (GL kr) 103 [.pv (enc f), .pv (.slice (ls.map enc)), .pv (.int .i64 n)] (.pv (enc (numL ls n f))) := by
 refine pur_of fun σ hgl => ?_
 refine acalls_of tyOk Tryz.func103 rfl (by simp [Tryz.f103]) ?_
 refine awp_seq (aR (by simp [go_sem] <;> rfl) ?_)
 refine awp_seq (awp_seq (aR (by simp [go_sem] <;> rfl) ?_))
 refine awp_block ?_
 refine awp_loop_headK σ.objs.length σ.toks.length 2 [1, 2, 3, 6] (fun k : Nat => [(7, .pv (.int .i64 ↑k))]) (fun k => σ) (fun k => k ≤ ls.length ∧ NotYet (fun y => deq y f) ls k) (fun k => ls.length - k) 0 (⟨Nat.zero_le _, .zero⟩) ⟨by simp [go_sem], rfl, by simp, by simp, by simp [go_sem], fun ob h => .inl (by simpa [go_sem] using h), by simp [go_sem]⟩ ?_
 rintro k ⟨hk, hn⟩
 refine awp_seq (awp_seq (aR (by simp [go_sem] <;> rfl) ?_))
 refine awp_cond (by first | rfl | (simp [go_sem] <;> rfl)) (fun h2 => ?_) (fun h2 => ?_)
 ·have hlt : k < ls.length := by simp at h2; omega
  have hw : IntKind.i64.wrap (↑k + 1) = (k : Int) + 1 := wrap_succ (by omega)
  obtain ⟨x, hx, hxm⟩ := get_lt hlt
  have hwr : IntKind.i64.wrap (n + (k : Int)) = n + k := wrap_id (by omega) (by omega)
  refine awp_skip ?_
  refine awp_seq (awp_block ?_)
  refine awp_seq (awp_regDP tyOk tySz 5 (by kernel_rfl) (by decide) ?_)
  refine ul_run 5 (by simp [go_sem, hx, hwr] <;> rfl) ?_
  refine ul_nil ?_
  refine aF call15 ((c_Same x (hls x hxm) f) _ (by exact hgl)) (by simp [go_sem, hx, hwr] <;> rfl) (by simp [go_sem, hx, hwr]) ?_
  refine al_nil ?_
  refine awp_cond (by first | rfl | (simp [go_sem, hx, hwr] <;> rfl)) (fun h3 => ?_) (fun h3 => ?_)
  ·refine awp_seq ?_
   refine awp_reg ?_
   refine aL 3 (by simp [go_sem, hx, hwr] <;> rfl) ?_
   refine aF call26 ((c_pagodaref01_Num (n + k)) _ (by exact hgl)) (by simp [go_sem, hx, hwr] <;> rfl) (by simp [go_sem, hx, hwr]) ?_
   refine aL 1 (by simp [go_sem, hx, hwr] <;> rfl) ?_
   refine al_nil ?_
   refine awp_ret ?_
   refine inBlock_ret ?_
   refine then_ret ?_
   refine then_ret ?_
   refine inBlock_ret ?_
   refine then_ret ?_
   refine ends_ret (by simp [go_sem] <;> rfl) (by simp [go_sem]) ?_
   have hfi : idxOf (fun y => deq y f) ls = (k : Int) := idxOf_found hn hx h3
   have hs : numL ls n f = dnum (n + k) := by unfold numL; rw [hfi, if_neg (by omega)]
   exact ⟨by simp [go_sem, hs], by simp [go_sem]⟩
  ·refine awp_skip ?_
   refine aR (by simp [go_sem, hx, hwr] <;> rfl) ?_
   exact next_intro (k + 1) σ.objs.length σ.toks.length 2 (⟨hlt, hn.succ hx h3⟩) (by omega) ⟨by simp [go_sem, hx, hwr, hw], rfl, by simp, by simp, by simp [go_sem, hx, hwr, hw], fun ob h => .inl (by simpa [go_sem, hx, hwr, hw] using h), by simp [go_sem]⟩
 ·have hke : k = ls.length := by simp at h2; omega
  subst hke
  have hno : idxOf (fun y => deq y f) ls = -1 := idxOf_none hn
  refine awp_exit ?_
  refine then_exit ?_
  refine then_exit ?_
  refine inBlock_hit ?_
  refine awp_seq (aR (by simp [go_sem] <;> rfl) ?_)
  refine awp_ret ?_
  refine ends_ret (by simp [go_sem] <;> rfl) (by simp [go_sem]) ?_
  have hs : numL ls n f = f := by unfold numL; rw [hno, if_pos (by decide)]
  exact ⟨by simp [go_sem, hs], by simp [go_sem]⟩

set_option maxHeartbeats 1000000 in
theorem c_lawCalled (ls : List D) (hl : ls.length ≤ 1000000000) (hls : ∀ y, y ∈ ls → y.size ≤ 1000000000) (n : Int) (hn0 : 0 ≤ n) (hn9 : n ≤ 65535) (d : D) : ∀ (hg : GoodE d) (hd : d.size ≤ 900000000), Pur Tryz.prog (GL kr) 104 [.pv (enc d), .pv (.slice (ls.map enc)), .pv (.int .i64 n)] (.pv (enc (rexpr (numL ls n) id false d))) := by
 induction d using D.ind with
 | _ kind num text kids ih =>
 generalize hD : D.mk kind num text kids = d at *
 have hk : d.kids = kids := by rw [← hD]; rfl
 clear hD
 subst hk
 have hkl := D.kids_length_lt d
 intro hg hd
 refine pur_of fun σ hgl => ?_
 refine acalls_of tyOk Tryz.func104 rfl (by simp [Tryz.f104]) ?_
 refine awp_seq (aR (by simp [go_sem] <;> rfl) ?_)
 refine awp_seq (awp_seq (awp_reg ?_))
 refine aL 4 (by simp [go_sem] <;> rfl) ?_
 refine al_splitT 12 (by first | rfl | (simp [go_sem] <;> rfl)) (fun h0 => ?_) (fun h0 => ?_)
 ·refine aK 3 12 false ?_
  refine aL 1 (by simp [go_sem] <;> rfl) ?_
  refine al_nil ?_
  refine awp_cond (b := true) (by simp [go_sem, h0]) (fun h => ?_) (fun h => ?_)
  rotate_left
  ·cases h
  refine awp_seq (aR (by simp [go_sem] <;> rfl) ?_)
  refine awp_ret ?_
  refine then_ret ?_
  refine ends_ret (by simp [go_sem] <;> rfl) (by simp [go_sem]) ?_
  have hs : rexpr (numL ls n) id false d = d := rexpr_leaf hg (by first | exact .inl (by simpa using h0) | exact .inr (of_decide_eq_true h0))
  exact ⟨by simp [go_sem, hs], by simp [go_sem]⟩
 ·have hk3 : d.kind = 3 := by simpa using h0
  refine aLG 1 12 false (by simp [go_sem] <;> rfl) ?_
  refine al_fnG 12 false false (by simp [go_sem]) rfl (by simp [go_sem]) rfl rfl (by simp [go_sem] <;> rfl) call82 ((c_Word d) _ (by exact hgl)) (by simp [go_sem] <;> rfl) (by simp [go_sem]) rfl rfl ?_
  refine aLG 1 12 false (by simp [go_sem] <;> rfl) ?_
  refine aL 1 (by simp [go_sem] <;> rfl) ?_
  refine al_nil ?_
  refine awp_cond (by first | rfl | (simp [go_sem] <;> rfl)) (fun h1 => ?_) (fun h1 => ?_)
  ·refine awp_seq ?_
   refine aR (by simp [go_sem] <;> rfl) ?_
   refine awp_ret ?_
   refine then_ret ?_
   refine ends_ret (by simp [go_sem] <;> rfl) (by simp [go_sem]) ?_
   have hs : rexpr (numL ls n) id false d = d := rexpr_leaf hg (by first | exact .inl (by simpa using h1) | exact .inr (of_decide_eq_true h1))
   exact ⟨by simp [go_sem, hs], by simp [go_sem]⟩
  ·have hq : decide (word d = sQuote) = false := h1
   have hsp := rexpr_list (lab := numL ls n) hg hk3 hq
   refine awp_skip ?_
   refine awp_seq (aR (by simp [go_sem] <;> rfl) ?_)
   refine awp_seq (awp_seq (aR (by simp [go_sem] <;> rfl) ?_))
   refine awp_adopt' 7 24 4 (by simp [go_sem] <;> rfl) ?_
   refine awp_block ?_
   refine awp_loop_headK σ.objs.length (σ.toks.length + 1) 2 [1, 2, 3, 6] (fun k : Nat => [(7, .acc ((outR (numL ls n) d k).map enc) σ.toks.length), (8, .pv (.int .i64 ↑k))]) (fun k => { σ with toks := σ.toks ++ [⟨k, 24, 4⟩] }) (fun k => k ≤ d.kids.length) (fun k => d.kids.length - k) 0 (Nat.zero_le _) ⟨by simp [go_sem, outR_zero], rfl, by simp, by simp, by simp [go_sem, outR_zero], fun ob h => .inl (by simpa [go_sem, outR_zero] using h), by simp [go_sem]⟩ ?_
   intro k hk
   refine awp_seq (awp_seq (aR (by simp [go_sem] <;> rfl) ?_))
   refine awp_cond (by first | rfl | (simp [go_sem] <;> rfl)) (fun h2 => ?_) (fun h2 => ?_)
   ·have hlt : k < d.kids.length := by simp at h2; omega
    have hw : IntKind.i64.wrap (↑k + 1) = (k : Int) + 1 := wrap_succ (by omega)
    obtain ⟨x, hx, hxm⟩ := get_lt hlt
    have hon := outR_next (lab := numL ls n) hx
    have hol := outR_len (lab := numL ls n) hk
    have hbb : (k + 1) * 56 ≤ 140737488355328 := by omega
    refine awp_skip ?_
    refine awp_seq (awp_block ?_)
    refine awp_block ?_
    refine awp_seq (aR (by simp [go_sem, hx, hol, hbb] <;> rfl) ?_)
    refine awp_cond (by first | rfl | (simp [go_sem, hx, hol, hbb] <;> rfl)) (fun h3 => ?_) (fun h3 => ?_)
    ·have hk0 : k = 0 := by have := h3; simp only [beq_iff_eq] at this; omega
     have hx0 : d.kids[0]? = some x := by rw [← hk0]; exact hx
     have hrel : relI (numL ls n) d k x = x := by unfold relI; rw [if_pos hk0]
     refine aR (by simp [go_sem, hx, hol, hbb, hx0] <;> rfl) ?_
     refine aR (by simp [go_sem, hx, hol, hbb, hx0] <;> rfl) ?_
     exact next_intro (k + 1) σ.objs.length (σ.toks.length + 1) 2 (hlt) (by omega) ⟨by simp [go_sem, hx, hol, hbb, hx0, hw, hon, hrel], rfl, by simp, by simp, by simp [go_sem, hx, hol, hbb, hx0, hw, hon, hrel], fun ob h => .inl (by simpa [go_sem, hx, hol, hbb, hx0, hw, hon, hrel] using h), by simp [go_sem]⟩
    ·have hkn : k ≠ 0 := by have := h3; simp only [beq_eq_false_iff_ne] at this; omega
     refine awp_seq (awp_reg ?_)
     refine aL 3 (by simp [go_sem, hx, hol, hbb] <;> rfl) ?_
     refine al_splitT 49 (by first | rfl | (simp [go_sem, hx, hol, hbb] <;> rfl)) (fun h4 => ?_) (fun h4 => ?_)
     ·have hk1 : k = 1 := by have := h4; simp only [beq_iff_eq] at this; omega
      have hx1 : d.kids[1]? = some x := by rw [← hk1]; exact hx
      refine aLG 1 49 true (by simp [go_sem, hx, hol, hbb, hx1] <;> rfl) ?_
      refine al_fnG 49 true true (by simp [go_sem]) rfl (by simp [go_sem]) rfl rfl (by simp [go_sem, hx, hol, hbb, hx1] <;> rfl) call82 ((c_Word d) _ (by exact hgl)) (by simp [go_sem, hx, hol, hbb, hx1] <;> rfl) (by simp [go_sem, hx, hol, hbb, hx1]) rfl rfl ?_
      refine aLG 1 49 true (by simp [go_sem, hx, hol, hbb, hx1] <;> rfl) ?_
      refine aL 2 (by simp [go_sem, hx, hol, hbb, hx1] <;> rfl) ?_
      refine al_nil ?_
      refine awp_cond (by first | rfl | (simp [go_sem, hx, hol, hbb, hx1] <;> rfl)) (fun h5 => ?_) (fun h5 => ?_)
      ·have hwc : word d = sCall := of_decide_eq_true h5
       have hrel : relI (numL ls n) d k x = numL ls n x := by unfold relI; rw [if_neg hkn, if_pos ⟨hk1, hwc⟩]
       refine awp_reg ?_
       refine aL 7 (by simp [go_sem, hx, hol, hbb, hx1] <;> rfl) ?_
       refine aF call103 ((c_number ls hl hls n hn0 hn9 x) _ (by exact hgl)) (by simp [go_sem, hx, hol, hbb, hx1] <;> rfl) (by simp [go_sem, hx, hol, hbb, hx1]) ?_
       refine aL 3 (by simp [go_sem, hx, hol, hbb, hx1] <;> rfl) ?_
       refine al_nil ?_
       refine aR (by simp [go_sem, hx, hol, hbb, hx1] <;> rfl) ?_
       exact next_intro (k + 1) σ.objs.length (σ.toks.length + 1) 2 (hlt) (by omega) ⟨by simp [go_sem, hx, hol, hbb, hx1, hw, hon, hrel], rfl, by simp, by simp, by simp [go_sem, hx, hol, hbb, hx1, hw, hon, hrel], fun ob h => .inl (by simpa [go_sem, hx, hol, hbb, hx1, hw, hon, hrel] using h), by simp [go_sem]⟩
      ·have hwc : ¬ word d = sCall := of_decide_eq_false h5
       obtain ⟨k1, hkk⟩ : ∃ k1, k = k1 + 1 := ⟨k - 1, by omega⟩
       have hgx : GoodE x := hg.kid (i := k1) hk3 hq (by rw [← hkk]; exact hx) (fun h => by first | exact hwc h.2 | exact hk1 (by omega))
       have hrel : relI (numL ls n) d k x = rexpr (numL ls n) id false x := by unfold relI; rw [if_neg hkn, if_neg (fun h => by first | exact hwc h.2 | exact hk1 h.1)]
       refine awp_reg ?_
       refine aL 8 (by simp [go_sem, hx, hol, hbb, hx1] <;> rfl) ?_
       refine aF call104 ((ih x hxm hgx (by have := D.size_kid_lt hxm; omega)) _ (by exact hgl)) (by simp [go_sem, hx, hol, hbb, hx1] <;> rfl) (by simp [go_sem, hx, hol, hbb, hx1]) ?_
       refine aL 3 (by simp [go_sem, hx, hol, hbb, hx1] <;> rfl) ?_
       refine al_nil ?_
       refine aR (by simp [go_sem, hx, hol, hbb, hx1] <;> rfl) ?_
       exact next_intro (k + 1) σ.objs.length (σ.toks.length + 1) 2 (hlt) (by omega) ⟨by simp [go_sem, hx, hol, hbb, hx1, hw, hon, hrel], rfl, by simp, by simp, by simp [go_sem, hx, hol, hbb, hx1, hw, hon, hrel], fun ob h => .inl (by simpa [go_sem, hx, hol, hbb, hx1, hw, hon, hrel] using h), by simp [go_sem]⟩
     ·have hk1 : k ≠ 1 := by have := h4; simp only [beq_eq_false_iff_ne] at this; omega
      refine aK 3 49 true ?_
      refine aL 2 (by simp [go_sem, hx, hol, hbb] <;> rfl) ?_
      refine al_nil ?_
      refine awp_cond (b := false) (by simp [go_sem, hx, hol, hbb, h0, h1, h2, h3, h4]) (fun h => ?_) (fun h => ?_)
      ·cases h
      obtain ⟨k1, hkk⟩ : ∃ k1, k = k1 + 1 := ⟨k - 1, by omega⟩
      have hgx : GoodE x := hg.kid (i := k1) hk3 hq (by rw [← hkk]; exact hx) (fun h => by first | exact hwc h.2 | exact hk1 (by omega))
      have hrel : relI (numL ls n) d k x = rexpr (numL ls n) id false x := by unfold relI; rw [if_neg hkn, if_neg (fun h => by first | exact hwc h.2 | exact hk1 h.1)]
      refine awp_reg ?_
      refine aL 8 (by simp [go_sem, hx, hol, hbb] <;> rfl) ?_
      refine aF call104 ((ih x hxm hgx (by have := D.size_kid_lt hxm; omega)) _ (by exact hgl)) (by simp [go_sem, hx, hol, hbb] <;> rfl) (by simp [go_sem, hx, hol, hbb]) ?_
      refine aL 3 (by simp [go_sem, hx, hol, hbb] <;> rfl) ?_
      refine al_nil ?_
      refine aR (by simp [go_sem, hx, hol, hbb] <;> rfl) ?_
      exact next_intro (k + 1) σ.objs.length (σ.toks.length + 1) 2 (hlt) (by omega) ⟨by simp [go_sem, hx, hol, hbb, hw, hon, hrel], rfl, by simp, by simp, by simp [go_sem, hx, hol, hbb, hw, hon, hrel], fun ob h => .inl (by simpa [go_sem, hx, hol, hbb, hw, hon, hrel] using h), by simp [go_sem]⟩
   ·have hke : k = d.kids.length := by simp at h2; omega
    subst hke
    have hoa := outR_all (lab := numL ls n) (d := d)
    refine awp_exit ?_
    refine then_exit ?_
    refine then_exit ?_
    refine inBlock_hit ?_
    refine awp_seq (awp_reg ?_)
    refine aL 1 (by simp [go_sem] <;> rfl) ?_
    refine aF call59 ((c_List01 (outR (numL ls n) d d.kids.length) (by rw [outR_len (Nat.le_refl _)]; omega)) _ (by exact hgl)) (by simp [go_sem] <;> rfl) (by simp [go_sem]) ?_
    refine aL 1 (by simp [go_sem] <;> rfl) ?_
    refine al_nil ?_
    refine awp_ret ?_
    refine ends_ret (by simp [go_sem] <;> rfl) (by simp [go_sem]) ?_
    exact ⟨by rw [hsp, ← hoa]; simp [go_sem], by simp [go_sem]⟩

set_option maxHeartbeats 1000000 in
theorem c_renamed (p : D) (R : Right p) (n : Int) (hn0 : 0 ≤ n) (hn9 : n ≤ 65535) (ls : List D) (hls : ls = p.kids.map D.head) : Pur Tryz.prog (GL kr) 63 [.pv (enc p), .pv (.slice (ls.map enc)), .pv (.int .i64 n)] (.pv (enc (relab p n))) := by
 have hsz := R.sz
 have hkl := D.kids_length_lt p
 have hpl := (heads_ok R.heads).2.2.2.1
 have hll : ls.length = p.kids.length := by rw [hls, List.length_map]
 have hly : ∀ y, y ∈ ls → y.size ≤ 1000000000 := fun y hy => by rw [hls] at hy; obtain ⟨d, hd, rfl⟩ := List.mem_map.1 hy; have := R.head_size hd; omega
 obtain ⟨L, hL⟩ : ∃ L, L = numL ls n := ⟨_, rfl⟩
 have hrl : relab p n = dlist (p.kids.map (rnF L)) := by rw [hL, hls]; rfl
 refine pur_of fun σ hgl => ?_
 refine acalls_of tyOk Tryz.func63 rfl (by simp [Tryz.f63]) ?_
 refine awp_seq (aR (by simp [go_sem] <;> rfl) ?_)
 refine awp_seq (aR (by simp [go_sem] <;> rfl) ?_)
 refine awp_seq (awp_seq (aR (by simp [go_sem] <;> rfl) ?_))
 refine awp_adopt' 7 24 4 (by simp [go_sem] <;> rfl) ?_
 refine awp_block ?_
 refine awp_loop_headK σ.objs.length (σ.toks.length + 1) 2 [1, 2, 3, 6] (fun k : Nat => [(7, .acc ((outN p.kids (rnF L) k).map enc) σ.toks.length), (8, .pv (.int .i64 ↑k))]) (fun k => { σ with toks := σ.toks ++ [⟨k, 24, 4⟩] }) (fun k => k ≤ p.kids.length) (fun k => p.kids.length - k) 0 (Nat.zero_le _) ⟨by simp [go_sem, outN_zero], rfl, by simp, by simp, by simp [go_sem, outN_zero], fun ob h => .inl (by simpa [go_sem, outN_zero] using h), by simp [go_sem]⟩ ?_
 intro k hk
 refine awp_seq (awp_seq (aR (by simp [go_sem] <;> rfl) ?_))
 refine awp_cond (by first | rfl | (simp [go_sem] <;> rfl)) (fun h0 => ?_) (fun h0 => ?_)
 ·have hlt : k < p.kids.length := by simp at h0; omega
  have hw : IntKind.i64.wrap (↑k + 1) = (k : Int) + 1 := wrap_succ (by omega)
  obtain ⟨x, hx, hxm⟩ := get_lt hlt
  obtain ⟨x0, x1, x2, ns, hkk, hns, htd, hxh, _, hd2, _⟩ := R.df hxm
  have hgx := R.good hxm
  rw [hd2] at hgx
  have hx0 : x.kids[0]? = some x0 := by rw [hkk]; rfl
  have hx1 : x.kids[1]? = some x1 := by rw [hkk]; rfl
  have hx2 : x.kids[2]? = some x2 := by rw [hkk]; rfl
  have hsx := D.size_kid_lt hxm
  have hsx2 := D.size_kid_lt (List.mem_of_getElem? hx2)
  have hrf : dlist [L x0, x1, rexpr L id false x2] = rnF L x := (rnF_eq (formed_kids R.formed hxm) hkk hns).symm
  have hon := outN_next (h := rnF L) hx
  have hol := outN_len (l := p.kids) (h := rnF L) hk
  have hbb : (k + 1) * 56 ≤ 140737488355328 := by omega
  refine awp_skip ?_
  refine awp_seq (awp_block ?_)
  refine awp_seq (aR (by simp [go_sem, hx, hx0, hx1, hx2, hol, hbb, ← hL] <;> rfl) ?_)
  refine awp_regDC tyOk tySz 22 (by kernel_rfl) (by decide) ?_
  refine ul_run 7 (by simp [go_sem, hx, hx0, hx1, hx2, hol, hbb, ← hL] <;> rfl) ?_
  refine ul_fn (by first | (intro _ _ hh; exact hh) | simp [go_sem]) rfl rfl rfl rfl (by simp [go_sem, hx, hx0, hx1, hx2, hol, hbb, ← hL] <;> rfl) call103 ((c_number ls (by omega) hly n hn0 hn9 x0) _ (by exact hgl)) (by simp [go_sem, hx, hx0, hx1, hx2, hol, hbb, ← hL] <;> rfl) (by simp [go_sem, hx, hx0, hx1, hx2, hol, hbb, ← hL]) rfl rfl ?_
  refine ul_run 10 (by simp [go_sem, hx, hx0, hx1, hx2, hol, hbb, ← hL, ← hL] <;> rfl) ?_
  refine ul_fn (by first | (intro _ _ hh; exact hh) | simp [go_sem]) rfl rfl rfl rfl (by simp [go_sem, hx, hx0, hx1, hx2, hol, hbb, ← hL, ← hL] <;> rfl) call104 ((c_lawCalled ls (by omega) hly n hn0 hn9 x2 hgx (by omega)) _ (by exact hgl)) (by simp [go_sem, hx, hx0, hx1, hx2, hol, hbb, ← hL, ← hL] <;> rfl) (by simp [go_sem, hx, hx0, hx1, hx2, hol, hbb, ← hL, ← hL]) rfl rfl ?_
  refine ul_run 1 (by simp [go_sem, hx, hx0, hx1, hx2, hol, hbb, ← hL, ← hL] <;> rfl) ?_
  refine ul_fn (by first | (intro _ _ hh; exact hh) | simp [go_sem]) rfl rfl rfl rfl (by simp [go_sem, hx, hx0, hx1, hx2, hol, hbb, ← hL, ← hL] <;> rfl) call59 ((c_List01 [L x0, x1, rexpr L id false x2] (by simp)) _ (by exact hgl)) (by simp [go_sem, hx, hx0, hx1, hx2, hol, hbb, ← hL, ← hL] <;> rfl) (by simp [go_sem, hx, hx0, hx1, hx2, hol, hbb, ← hL, ← hL]) rfl rfl ?_
  refine ul_run 1 (by simp [go_sem, hx, hx0, hx1, hx2, hol, hbb, ← hL, ← hL, hrf] <;> rfl) ?_
  refine ul_nil ?_
  refine aL 2 (by simp [go_sem, hx, hx0, hx1, hx2, hol, hbb, ← hL, ← hL, hrf] <;> rfl) ?_
  refine al_nil ?_
  refine aR (by simp [go_sem, hx, hx0, hx1, hx2, hol, hbb, ← hL, ← hL, hrf] <;> rfl) ?_
  exact next_intro (k + 1) σ.objs.length (σ.toks.length + 1) 2 (hlt) (by omega) ⟨by simp [go_sem, hx, hx0, hx1, hx2, hol, hbb, ← hL, ← hL, hrf, hw, hon], rfl, by simp, by simp, by simp [go_sem, hx, hx0, hx1, hx2, hol, hbb, ← hL, ← hL, hrf, hw, hon], fun ob h => .inl (by simpa [go_sem, hx, hx0, hx1, hx2, hol, hbb, ← hL, ← hL, hrf, hw, hon] using h), by simp [go_sem]⟩
 ·have hke : k = p.kids.length := by simp at h0; omega
  subst hke
  refine awp_exit ?_
  refine then_exit ?_
  refine then_exit ?_
  refine inBlock_hit ?_
  refine awp_seq (awp_reg ?_)
  refine aL 1 (by simp [go_sem, outN_all] <;> rfl) ?_
  refine aF call59 ((c_List01 (p.kids.map (rnF L)) (by rw [List.length_map]; omega)) _ (by exact hgl)) (by simp [go_sem, outN_all] <;> rfl) (by simp [go_sem, outN_all]) ?_
  refine aL 1 (by simp [go_sem, outN_all] <;> rfl) ?_
  refine al_nil ?_
  refine awp_ret ?_
  refine ends_ret (by simp [go_sem] <;> rfl) (by simp [go_sem]) ?_
  exact ⟨by simp [go_sem, hrl], by simp [go_sem]⟩

set_option maxHeartbeats 1000000 in
theorem c_relab (p : D) (R : Right p) (n : Int) (hn0 : 0 ≤ n) (hn9 : n ≤ 65535) : Pur Tryz.prog (GL kr) 27 [.pv (enc p), .pv (.int .i64 n)] (.pv (enc (relab p n))) := by
 have hsz := R.sz
 obtain ⟨P, hP⟩ : ∃ P, P = rdefs p := ⟨_, rfl⟩
 have hPl := R.len
 rw [← hP] at hPl
 have hlab := R.refLabels
 rw [← hP] at hlab
 have hchk := R.chk
 refine pur_of fun σ hgl => ?_
 refine acalls_of tyOk Tryz.func27 rfl (by simp [Tryz.f27]) ?_
 refine awp_seq (aR (by simp [go_sem] <;> rfl) ?_)
 refine awp_seq (awp_reg ?_)
 refine aL 1 (by simp [go_sem] <;> rfl) ?_
 refine aF call10 ((c_refCheckO p (by omega) P 0 hP hchk.symm) _ (by exact hgl)) (by simp [go_sem] <;> rfl) (by simp [go_sem]) ?_
 refine aL 5 (by simp [go_sem] <;> rfl) ?_
 refine al_nil ?_
 refine awp_seq (awp_regDC tyOk tySz 4 (by kernel_rfl) (by decide) ?_)
 refine ul_run 2 (by simp [go_sem] <;> rfl) ?_
 refine ul_fn (by first | (intro _ _ hh; exact hh) | simp [go_sem]) rfl rfl rfl rfl (by simp [go_sem] <;> rfl) call19 ((c_refLabels P (by omega)) _ (by exact hgl)) (by simp [go_sem] <;> rfl) (by simp [go_sem]) rfl rfl ?_
 refine ul_run 1 (by simp [go_sem] <;> rfl) ?_
 refine ul_nil ?_
 refine aF call63 ((c_renamed p R n hn0 hn9 (P.map Df.lab) hlab) _ (by exact hgl)) (by simp [go_sem] <;> rfl) (by simp [go_sem]) ?_
 refine aL 1 (by simp [go_sem] <;> rfl) ?_
 refine al_nil ?_
 refine awp_ret ?_
 refine ends_ret (by simp [go_sem] <;> rfl) (by simp [go_sem]) ?_
 exact ⟨by simp [go_sem], by simp [go_sem]⟩

set_option maxHeartbeats 1000000 in
theorem c_turned (y lab : D) (hy : y.size ≤ 900000000) (hne : y.kids ≠ []) : Pur Tryz.prog (GL kr) 28 [.pv (enc y), .pv (enc lab)] (.pv (enc (turnD y lab))) := by
 have hkl := D.kids_length_lt y
 obtain ⟨y0, r, hyk⟩ := kids_cons hne
 have hy0 : y.kids[0]? = some y0 := by rw [hyk]; rfl
 have hyh : y0 = y.head := (head_cons hyk).symm
 have hpos : 1 ≤ y.kids.length := by rw [hyk]; simp
 have hw0 : IntKind.i64.wrap ((y.kids.length : Int) - 1) = y.kids.length - 1 := wrap_id (by omega) (by omega)
 have htd : turnD y lab = dlist (turnK y (y.kids.length - 1) ++ [extraD lab]) := by rw [turnK_all]; rfl
 have hex : dlist [lab, dlist [], dnum 1] = extraD lab := rfl
 refine pur_of fun σ hgl => ?_
 refine acalls_of tyOk Tryz.func28 rfl (by simp [Tryz.f28]) ?_
 refine awp_seq (aR (by simp [go_sem, hy0, hw0] <;> rfl) ?_)
 refine awp_seq (aR (by simp [go_sem, hy0, hw0] <;> rfl) ?_)
 refine awp_seq (awp_seq (aR (by simp [go_sem, hy0, hw0] <;> rfl) ?_))
 refine awp_adopt' 5 24 4 (by simp [go_sem] <;> rfl) ?_
 refine awp_block ?_
 refine awp_loop_headK σ.objs.length (σ.toks.length + 1) 3 [2, 3, 4] (fun k : Nat => [(5, .acc ((turnK y k).map enc) σ.toks.length), (6, .pv (.int .i64 ((y.kids.length : Int) - 1 - ↑k)))]) (fun k => { σ with toks := σ.toks ++ [⟨1 + k, 24, 4⟩] }) (fun k => k ≤ (y.kids.length - 1)) (fun k => (y.kids.length - 1) - k) 0 (Nat.zero_le _) ⟨by simp [go_sem, hy0, hw0, turnK_zero, hyh], rfl, by simp, by simp, by simp [go_sem, hy0, hw0, turnK_zero, hyh], fun ob h => .inl (by simpa [go_sem, hy0, hw0, turnK_zero, hyh] using h), by simp [go_sem]⟩ ?_
 intro k hk
 refine awp_seq (awp_seq (aR (by simp [go_sem, hy0, hw0] <;> rfl) ?_))
 refine awp_cond (by first | rfl | (simp [go_sem, hy0, hw0] <;> rfl)) (fun h0 => ?_) (fun h0 => ?_)
 ·have hlt : k < y.kids.length - 1 := by have := h0; simp only [decide_eq_true_eq] at this; omega
  obtain ⟨x, hx, hxm⟩ := get_lt (l := y.kids) (k := y.kids.length - 1 - k) (by omega)
  have hi0 : (k : Int) ≤ (y.kids.length : Int) - 1 := by omega
  have hi1 : (y.kids.length : Int) - 1 - ↑k < y.kids.length := by omega
  have hti : ((y.kids.length : Int) - 1 - ↑k).toNat = y.kids.length - 1 - k := by omega
  have hw : IntKind.i64.wrap ((y.kids.length : Int) - 1 - ↑k - 1) = (y.kids.length : Int) - 1 - (↑k + 1) := by rw [wrap_id (by omega) (by omega)]; omega
  have hon := turnK_next hlt hx
  have hol := turnK_len hk
  have hbb : (1 + k + 1) * 56 ≤ 140737488355328 := by omega
  refine awp_skip ?_
  refine awp_seq (awp_block ?_)
  refine aR (by simp [go_sem, hy0, hw0, hx, hi0, hi1, hti, hol, hbb] <;> rfl) ?_
  refine aR (by simp [go_sem, hy0, hw0, hx, hi0, hi1, hti, hol, hbb] <;> rfl) ?_
  exact next_intro (k + 1) σ.objs.length (σ.toks.length + 1) 3 (hlt) (by omega) ⟨by simp [go_sem, hy0, hw0, hx, hi0, hi1, hti, hol, hbb, hw, hon, Nat.add_assoc], rfl, by simp, by simp, by simp [go_sem, hy0, hw0, hx, hi0, hi1, hti, hol, hbb, hw, hon, Nat.add_assoc], fun ob h => .inl (by simpa [go_sem, hy0, hw0, hx, hi0, hi1, hti, hol, hbb, hw, hon, Nat.add_assoc] using h), by simp [go_sem]⟩
 ·have hke : k = y.kids.length - 1 := by have := h0; simp only [decide_eq_false_iff_not] at this; omega
  subst hke
  have hol := turnK_len (y := y) (Nat.le_refl _)
  have hbb : (1 + (y.kids.length - 1) + 1) * 56 ≤ 140737488355328 := by omega
  refine awp_exit ?_
  refine then_exit ?_
  refine then_exit ?_
  refine inBlock_hit ?_
  refine awp_seq (awp_regDC tyOk tySz 7 (by kernel_rfl) (by decide) ?_)
  refine ul_run 2 (by simp [go_sem, hy0, hw0, hol, hbb] <;> rfl) ?_
  refine ul_fn (by first | (intro _ _ hh; exact hh) | simp [go_sem]) rfl rfl rfl rfl (by simp [go_sem, hy0, hw0, hol, hbb] <;> rfl) call59 ((c_List01 [] (by simp)) _ (by exact hgl)) (by simp [go_sem, hy0, hw0, hol, hbb] <;> rfl) (by simp [go_sem, hy0, hw0, hol, hbb]) rfl rfl ?_
  refine ul_fn (by first | (intro _ _ hh; exact hh) | simp [go_sem]) rfl rfl rfl rfl (by simp [go_sem, hy0, hw0, hol, hbb] <;> rfl) call26 ((c_pagodaref01_Num 1) _ (by exact hgl)) (by simp [go_sem, hy0, hw0, hol, hbb] <;> rfl) (by simp [go_sem, hy0, hw0, hol, hbb]) rfl rfl ?_
  refine ul_run 1 (by simp [go_sem, hy0, hw0, hol, hbb] <;> rfl) ?_
  refine ul_fn (by first | (intro _ _ hh; exact hh) | simp [go_sem]) rfl rfl rfl rfl (by simp [go_sem, hy0, hw0, hol, hbb] <;> rfl) call59 ((c_List01 [lab, dlist [], dnum 1] (by simp)) _ (by exact hgl)) (by simp [go_sem, hy0, hw0, hol, hbb] <;> rfl) (by simp [go_sem, hy0, hw0, hol, hbb]) rfl rfl ?_
  refine ul_run 1 (by simp [go_sem, hy0, hw0, hol, hbb, hex] <;> rfl) ?_
  refine ul_nil ?_
  refine aL 1 (by simp [go_sem, hy0, hw0, hol, hbb, hex] <;> rfl) ?_
  refine aF call59 ((c_List01 (turnK y (y.kids.length - 1) ++ [extraD lab]) (by rw [List.length_append, turnK_len (Nat.le_refl _)]; simp; omega)) _ (by exact hgl)) (by simp [go_sem, hy0, hw0, hol, hbb, hex] <;> rfl) (by simp [go_sem, hy0, hw0, hol, hbb, hex]) ?_
  refine aL 1 (by simp [go_sem, hy0, hw0, hol, hbb, hex] <;> rfl) ?_
  refine al_nil ?_
  refine awp_ret ?_
  refine ends_ret (by simp [go_sem] <;> rfl) (by simp [go_sem]) ?_
  exact ⟨by simp [go_sem, htd], by simp [go_sem]⟩

end Go.Proofs.YtienmmfjjffjaaaGreatDoor

/- FlatCanon. -/
namespace Go.Proofs.YtienmmfjjffjaaaGreatDoor
open Go Go.Aw
variable {kr : ResO}
theorem c_flat_CanonO (p : D) (hp : p.size ≤ 900000000) (z : D × Int) (hz : z = fcanon p) : Pur Tryz.prog (GL kr) 21 [.pv (enc p)] (.tuple [.pv (enc z.1), .pv (.int .i64 z.2)]) := by rw [hz]; exact c_flat_Canon p hp
theorem c_flat_LabelsO (p : D) (hp : p.size ≤ 900000000) (l : List D) (e : Int) (hz : fLabels p = (l, e)) : Pur Tryz.prog (GL kr) 13 [.pv (enc p)] (.tuple [.pv (.slice (l.map enc)), .pv (.int .i64 e)]) := by have h := c_flat_Labels (kr := kr) p hp; rw [hz] at h; exact h
theorem c_flat_ReachO (p : D) (hp : p.size ≤ 900000000) (l : List D) (e : Int) (hz : fReach p = (l, e)) : Pur Tryz.prog (GL kr) 25 [.pv (enc p)] (.tuple [.pv (.slice (l.map enc)), .pv (.int .i64 e)]) := by have h := c_flat_Reach (kr := kr) p hp; rw [hz] at h; exact h
theorem c_flat_SameO (p q : D) (hp : p.size ≤ 900000000) (hq : q.size ≤ 900000000) (b : Bool) (e : Int) (hz : fSame p q = (b, e)) : Pur Tryz.prog (GL kr) 22 [.pv (enc p), .pv (enc q)] (.tuple [.pv (.bool b), .pv (.int .i64 e)]) := by have h := c_flat_Same (kr := kr) p q hp hq; rw [hz] at h; exact h
theorem c_relabO (p : D) (R : Right p) (n : Int) (h0 : 0 ≤ n) (hn9 : n ≤ 65535) (y : D) (hy : y = relab p n) : Pur Tryz.prog (GL kr) 27 [.pv (enc p), .pv (.int .i64 n)] (.pv (enc y)) := by rw [hy]; exact c_relab p R n h0 hn9
theorem c_turnedO (y lab : D) (hy : y.size ≤ 900000000) (hne : y.kids ≠ []) (z : D) (hz : z = turnD y lab) : Pur Tryz.prog (GL kr) 28 [.pv (enc y), .pv (enc lab)] (.pv (enc z)) := by rw [hz]; exact c_turned y lab hy hne

set_option maxHeartbeats 1000000 in
theorem c_FlatCanon (p : D) (n : Int) (hn0 : 0 ≤ n) (hn9 : n ≤ 65535) (σ : Store) (hσ : σ = ⟨(GL kr), [], []⟩) : PurAt Tryz.prog σ 5 [.pv (enc p), .pv (.int .u16 n)] (.pv (.bool true)) := by
 have hgl : σ.gl = (GL kr) := by rw [hσ]
 have hdn := deq_refl dnone
 refine purAt_of ?_
 refine acalls_of tyOk Tryz.func5 rfl (by simp [Tryz.f5]) ?_
 refine awp_seq (aR (by simp [go_sem, hdn, enc_none] <;> rfl) ?_)
 refine awp_seq (awp_reg ?_)
 refine aL 1 (by simp [go_sem, hdn, enc_none] <;> rfl) ?_
 refine al_callW rfl rfl rfl (by simp [go_sem, hdn, enc_none] <;> rfl) call9 (c_Cut17 p σ hgl) (by simp [go_sem, hdn, enc_none] <;> rfl) (by simp [go_sem, hdn, enc_none]) rfl rfl ?_
 rintro r σ1 ⟨x, rfl, hs1, hx⟩
 rw [hs1]
 clear hs1 σ1
 obtain ⟨zc, hzc⟩ : ∃ z, z = fcanon x := ⟨_, rfl⟩
 refine aL 2 (by simp [go_sem, hdn, enc_none] <;> rfl) ?_
 refine al_nil ?_
 refine awp_seq (awp_reg ?_)
 refine aL 1 (by simp [go_sem, hdn, enc_none] <;> rfl) ?_
 refine aF call21 ((c_flat_CanonO x (by omega) zc hzc) _ (by exact hgl)) (by simp [go_sem, hdn, enc_none] <;> rfl) (by simp [go_sem, hdn, enc_none]) ?_
 refine aL 6 (by simp [go_sem, hdn, enc_none] <;> rfl) ?_
 refine al_nil ?_
 refine awp_seq (awp_seq (aR (by simp [go_sem, hdn, enc_none] <;> rfl) ?_))
 refine awp_cond (by first | rfl | (simp [go_sem, hdn, enc_none] <;> rfl)) (fun h0 => ?_) (fun h0 => ?_)
 ·have hzn : zc.1 = dnone := by rw [hzc]; exact fcanon_none (by rw [← hzc]; exact h0)
  refine awp_seq (awp_reg ?_)
  refine aL 2 (by simp [go_sem, hdn, enc_none, hzn] <;> rfl) ?_
  refine aF call15 ((c_Same dnone (by decide) dnone) _ (by exact hgl)) (by simp [go_sem, hdn, enc_none, hzn] <;> rfl) (by simp [go_sem, hdn, enc_none, hzn, hzn, enc_none]) ?_
  refine aL 1 (by simp [go_sem, hdn, enc_none, hzn] <;> rfl) ?_
  refine al_splitT 35 (by first | rfl | (simp [go_sem, hdn, enc_none, hzn] <;> rfl)) (fun h1 => ?_) (fun h1 => ?_)
  ·refine al_fnG 35 true true (by simp [go_sem]) rfl (by simp [go_sem]) rfl rfl (by simp [go_sem, hdn, enc_none, hzn] <;> rfl) call16 (c_alive σ hσ) (by simp [go_sem, hdn, enc_none, hzn] <;> rfl) (by simp [go_sem, hdn, enc_none, hzn]) rfl rfl ?_
   refine aL 2 (by simp [go_sem, hdn, enc_none, hzn] <;> rfl) ?_
   refine al_nil ?_
   refine awp_ret ?_
   refine then_ret ?_
   refine ends_ret (by simp [go_sem, hdn, enc_none, hzn] <;> rfl) (by simp [go_sem]) ?_
   exact ⟨by simp [go_sem], by simp [go_sem]⟩
  ·first | (cases h1; done) | (simp at h1; done)
 ·have R : Right x := ⟨by have := h0; rw [hzc] at this; exact fcanon_ok (by simpa using this), by omega⟩
  obtain ⟨c, hc⟩ : ∃ c, c = canonD x := ⟨_, rfl⟩
  have hzz : zc = (c, 0) := by rw [hzc, R.fcanon, hc]
  have hcs := canon_size R
  rw [← hc] at hcs
  have hcc : (c, (0 : Int)) = fcanon c := by rw [hc, R.canon_fcanon]
  obtain ⟨ls, hls⟩ : ∃ ls, ls = c.kids.map D.head := ⟨_, rfl⟩
  have hlb : fLabels c = (ls, 0) := by rw [hls, hc]; exact R.canon_labels
  have hrc : fReach c = (ls, 0) := by rw [hls, hc]; exact R.canon_fReach
  have hck := D.kids_length_lt c
  have hll : ls.length = c.kids.length := by rw [hls, List.length_map]
  have hlk : ∀ (k : Nat) y, ls[k]? = some y → y = dnum k := fun k y h => by rw [hls, hc] at h; exact R.canon_label h
  have hd1 := deq_refl c
  have hd2 := deqs_refl ls
  have hlz : ∀ y, y ∈ ls → y.size ≤ 1000000000 := fun y hy => by obtain ⟨i, hi, rfl⟩ := List.getElem_of_mem hy; rw [hlk i _ (List.getElem?_eq_getElem hi)]; exact Nat.le_of_ble_eq_true rfl
  obtain ⟨y, hy⟩ : ∃ y, y = relab x n := ⟨_, rfl⟩
  have hys := R.relab_size (n := n)
  have Y := R.relabR hn0 hn9
  have hyc := R.relab_canon hn0 hn9
  rw [← hy] at hys Y hyc
  rw [← hc] at hyc
  have hyf : (c, (0 : Int)) = fcanon y := by rw [Y.fcanon, hyc]
  have hyn := Y.ne
  obtain ⟨z, hz⟩ : ∃ z, z = turnD y (dnum (n + 10000)) := ⟨_, rfl⟩
  have hzs := Y.turn_size (dnum (n + 10000))
  rw [← hz] at hzs
  have hds : (dnum (n + 10000)).size = 1 := rfl
  obtain ⟨zf, hzf⟩ : ∃ f, f = fcanon z := ⟨_, rfl⟩
  have hze := fcanon_err z
  rw [← hzf] at hze
  have hcv : IntKind.i64.wrap n = n := wrap_id (by omega) (by omega)
  have hwn : IntKind.i64.wrap (n + 10000) = n + 10000 := wrap_id (by omega) (by omega)
  refine awp_skip ?_
  refine awp_seq (awp_reg ?_)
  refine aL 1 (by simp [go_sem, hdn, enc_none, hzz, hd1, hd2, hcv, hwn] <;> rfl) ?_
  refine aF call21 ((c_flat_CanonO c (by omega) (c, 0) hcc) _ (by exact hgl)) (by simp [go_sem, hdn, enc_none, hzz, hd1, hd2, hcv, hwn] <;> rfl) (by simp [go_sem, hdn, enc_none, hzz, hd1, hd2, hcv, hwn]) ?_
  refine aL 6 (by simp [go_sem, hdn, enc_none, hzz, hd1, hd2, hcv, hwn] <;> rfl) ?_
  refine al_nil ?_
  refine awp_seq (awp_reg ?_)
  refine aL 1 (by simp [go_sem, hdn, enc_none, hzz, hd1, hd2, hcv, hwn] <;> rfl) ?_
  refine aF call13 ((c_flat_LabelsO c (by omega) ls 0 hlb) _ (by exact hgl)) (by simp [go_sem, hdn, enc_none, hzz, hd1, hd2, hcv, hwn] <;> rfl) (by simp [go_sem, hdn, enc_none, hzz, hd1, hd2, hcv, hwn]) ?_
  refine aL 5 (by simp [go_sem, hdn, enc_none, hzz, hd1, hd2, hcv, hwn] <;> rfl) ?_
  refine al_nil ?_
  refine awp_seq (awp_reg ?_)
  refine aL 1 (by simp [go_sem, hdn, enc_none, hzz, hd1, hd2, hcv, hwn] <;> rfl) ?_
  refine aF call25 ((c_flat_ReachO c (by omega) ls 0 hrc) _ (by exact hgl)) (by simp [go_sem, hdn, enc_none, hzz, hd1, hd2, hcv, hwn] <;> rfl) (by simp [go_sem, hdn, enc_none, hzz, hd1, hd2, hcv, hwn]) ?_
  refine aL 5 (by simp [go_sem, hdn, enc_none, hzz, hd1, hd2, hcv, hwn] <;> rfl) ?_
  refine al_nil ?_
  refine awp_seq (awp_seq (awp_reg ?_))
  refine aL 3 (by simp [go_sem, hdn, enc_none, hzz, hd1, hd2, hcv, hwn] <;> rfl) ?_
  refine al_splitT 55 (by first | rfl | (simp [go_sem, hdn, enc_none, hzz, hd1, hd2, hcv, hwn] <;> rfl)) (fun h2 => ?_) (fun h2 => ?_)
  ·first | (cases h2; done) | (simp at h2; done)
  ·refine aLG 2 55 false (by simp [go_sem, hdn, enc_none, hzz, hd1, hd2, hcv, hwn] <;> rfl) ?_
   refine aL 2 (by simp [go_sem, hdn, enc_none, hzz, hd1, hd2, hcv, hwn] <;> rfl) ?_
   refine al_splitT 59 (by first | rfl | (simp [go_sem, hdn, enc_none, hzz, hd1, hd2, hcv, hwn] <;> rfl)) (fun h3 => ?_) (fun h3 => ?_)
   ·first | (cases h3; done) | (simp at h3; done)
   ·refine aLG 2 59 false (by simp [go_sem, hdn, enc_none, hzz, hd1, hd2, hcv, hwn] <;> rfl) ?_
    refine aL 2 (by simp [go_sem, hdn, enc_none, hzz, hd1, hd2, hcv, hwn] <;> rfl) ?_
    refine al_splitT 63 (by first | rfl | (simp [go_sem, hdn, enc_none, hzz, hd1, hd2, hcv, hwn] <;> rfl)) (fun h4 => ?_) (fun h4 => ?_)
    ·first | (cases h4; done) | (simp at h4; done)
    ·refine aLG 2 63 false (by simp [go_sem, hdn, enc_none, hzz, hd1, hd2, hcv, hwn] <;> rfl) ?_
     refine al_fnG 63 false false (by simp [go_sem]) rfl (by simp [go_sem]) rfl rfl (by simp [go_sem, hdn, enc_none, hzz, hd1, hd2, hcv, hwn] <;> rfl) call15 ((c_Same c (by omega) c) _ (by exact hgl)) (by simp [go_sem, hdn, enc_none, hzz, hd1, hd2, hcv, hwn] <;> rfl) (by simp [go_sem, hdn, enc_none, hzz, hd1, hd2, hcv, hwn]) rfl rfl ?_
     refine aLG 1 63 false (by simp [go_sem, hdn, enc_none, hzz, hd1, hd2, hcv, hwn] <;> rfl) ?_
     refine aL 2 (by simp [go_sem, hdn, enc_none, hzz, hd1, hd2, hcv, hwn] <;> rfl) ?_
     refine al_splitT 69 (by first | rfl | (simp [go_sem, hdn, enc_none, hzz, hd1, hd2, hcv, hwn] <;> rfl)) (fun h5 => ?_) (fun h5 => ?_)
     ·first | (cases h5; done) | (simp at h5; done)
     ·refine aLG 2 69 false (by simp [go_sem, hdn, enc_none, hzz, hd1, hd2, hcv, hwn] <;> rfl) ?_
      refine al_fnG 69 false false (by simp [go_sem]) rfl (by simp [go_sem]) rfl rfl (by simp [go_sem, hdn, enc_none, hzz, hd1, hd2, hcv, hwn] <;> rfl) call18 ((c_Lists ls ls (by omega) (by omega) hlz) _ (by exact hgl)) (by simp [go_sem, hdn, enc_none, hzz, hd1, hd2, hcv, hwn] <;> rfl) (by simp [go_sem, hdn, enc_none, hzz, hd1, hd2, hcv, hwn]) rfl rfl ?_
      refine aLG 1 69 false (by simp [go_sem, hdn, enc_none, hzz, hd1, hd2, hcv, hwn] <;> rfl) ?_
      refine aL 1 (by simp [go_sem, hdn, enc_none, hzz, hd1, hd2, hcv, hwn] <;> rfl) ?_
      refine al_nil ?_
      refine awp_cond (by first | rfl | (simp [go_sem, hdn, enc_none, hzz, hd1, hd2, hcv, hwn] <;> rfl)) (fun h6 => ?_) (fun h6 => ?_)
      ·first | (cases h6; done) | (simp at h6; done)
      ·refine awp_skip ?_
       refine awp_seq (awp_seq (aR (by simp [go_sem, hdn, enc_none, hzz, hd1, hd2, hcv, hwn] <;> rfl) ?_))
       refine awp_block ?_
       refine awp_loop_headK σ.objs.length σ.toks.length 4 [1, 4, 5, 6, 10] (fun k : Nat => [(14, .pv (.int .i64 ↑k))]) (fun k => σ) (fun k => k ≤ ls.length) (fun k => ls.length - k) 0 (Nat.zero_le _) ⟨by simp [go_sem, hdn, enc_none, hzz, hd1, hd2, hcv, hwn], rfl, by simp, by simp, by simp [go_sem, hdn, enc_none, hzz, hd1, hd2, hcv, hwn], fun ob h => .inl (by simpa [go_sem, hdn, enc_none, hzz, hd1, hd2, hcv, hwn] using h), by simp [go_sem]⟩ ?_
       intro k hk
       refine awp_seq (awp_seq (aR (by simp [go_sem, hdn, enc_none, hzz, hd1, hd2, hcv, hwn] <;> rfl) ?_))
       refine awp_cond (by first | rfl | (simp [go_sem, hdn, enc_none, hzz, hd1, hd2, hcv, hwn] <;> rfl)) (fun h7 => ?_) (fun h7 => ?_)
       ·have hlt : k < ls.length := by simp at h7; omega
        have hw : IntKind.i64.wrap (↑k + 1) = (k : Int) + 1 := wrap_succ (by omega)
        obtain ⟨u, hu, hum⟩ := get_lt hlt
        have hdu : deq u (dnum k) = true := by rw [hlk k u hu]; exact deq_refl _
        refine awp_skip ?_
        refine awp_seq (awp_block ?_)
        refine awp_seq (awp_regDC tyOk tySz 6 (by kernel_rfl) (by decide) ?_)
        refine ul_run 5 (by simp [go_sem, hdn, enc_none, hzz, hd1, hd2, hcv, hwn, hu] <;> rfl) ?_
        refine ul_fn (by first | (intro _ _ hh; exact hh) | simp [go_sem]) rfl rfl rfl rfl (by simp [go_sem, hdn, enc_none, hzz, hd1, hd2, hcv, hwn, hu] <;> rfl) call26 ((c_pagodaref01_Num k) _ (by exact hgl)) (by simp [go_sem, hdn, enc_none, hzz, hd1, hd2, hcv, hwn, hu] <;> rfl) (by simp [go_sem, hdn, enc_none, hzz, hd1, hd2, hcv, hwn, hu]) rfl rfl ?_
        refine ul_nil ?_
        refine aF call15 ((c_Same u (hlz u hum) (dnum k)) _ (by exact hgl)) (by simp [go_sem, hdn, enc_none, hzz, hd1, hd2, hcv, hwn, hu] <;> rfl) (by simp [go_sem, hdn, enc_none, hzz, hd1, hd2, hcv, hwn, hu]) ?_
        refine aL 1 (by simp [go_sem, hdn, enc_none, hzz, hd1, hd2, hcv, hwn, hu, hdu] <;> rfl) ?_
        refine al_nil ?_
        refine awp_cond (by first | rfl | (simp [go_sem, hdn, enc_none, hzz, hd1, hd2, hcv, hwn, hu, hdu] <;> rfl)) (fun h8 => ?_) (fun h8 => ?_)
        ·first | (cases h8; done) | (simp at h8; done)
        ·refine awp_skip ?_
         refine aR (by simp [go_sem, hdn, enc_none, hzz, hd1, hd2, hcv, hwn, hu, hdu] <;> rfl) ?_
         exact next_intro (k + 1) σ.objs.length σ.toks.length 4 (hlt) (by omega) ⟨by simp [go_sem, hdn, enc_none, hzz, hd1, hd2, hcv, hwn, hu, hdu, hw], rfl, by simp, by simp, by simp [go_sem, hdn, enc_none, hzz, hd1, hd2, hcv, hwn, hu, hdu, hw], fun ob h => .inl (by simpa [go_sem, hdn, enc_none, hzz, hd1, hd2, hcv, hwn, hu, hdu, hw] using h), by simp [go_sem]⟩
       ·have hke : k = ls.length := by simp at h7; omega
        subst hke
        refine awp_exit ?_
        refine then_exit ?_
        refine then_exit ?_
        refine inBlock_hit ?_
        refine awp_seq (awp_reg ?_)
        refine aL 3 (by simp [go_sem, hdn, enc_none, hzz, hd1, hd2, hcv, hwn] <;> rfl) ?_
        refine aF call27 ((c_relabO x R n hn0 hn9 y hy) _ (by exact hgl)) (by simp [go_sem, hdn, enc_none, hzz, hd1, hd2, hcv, hwn] <;> rfl) (by simp [go_sem, hdn, enc_none, hzz, hd1, hd2, hcv, hwn]) ?_
        refine aL 2 (by simp [go_sem, hdn, enc_none, hzz, hd1, hd2, hcv, hwn] <;> rfl) ?_
        refine al_nil ?_
        refine awp_seq (awp_regDC tyOk tySz 7 (by kernel_rfl) (by decide) ?_)
        refine ul_run 4 (by simp [go_sem, hdn, enc_none, hzz, hd1, hd2, hcv, hwn] <;> rfl) ?_
        refine ul_fn (by first | (intro _ _ hh; exact hh) | simp [go_sem]) rfl rfl rfl rfl (by simp [go_sem, hdn, enc_none, hzz, hd1, hd2, hcv, hwn] <;> rfl) call26 ((c_pagodaref01_Num (n + 10000)) _ (by exact hgl)) (by simp [go_sem, hdn, enc_none, hzz, hd1, hd2, hcv, hwn] <;> rfl) (by simp [go_sem, hdn, enc_none, hzz, hd1, hd2, hcv, hwn]) rfl rfl ?_
        refine ul_fn (by first | (intro _ _ hh; exact hh) | simp [go_sem]) rfl rfl rfl rfl (by simp [go_sem, hdn, enc_none, hzz, hd1, hd2, hcv, hwn] <;> rfl) call28 ((c_turnedO y (dnum (n + 10000)) (by omega) hyn z hz) _ (by exact hgl)) (by simp [go_sem, hdn, enc_none, hzz, hd1, hd2, hcv, hwn] <;> rfl) (by simp [go_sem, hdn, enc_none, hzz, hd1, hd2, hcv, hwn]) rfl rfl ?_
        refine ul_run 1 (by simp [go_sem, hdn, enc_none, hzz, hd1, hd2, hcv, hwn] <;> rfl) ?_
        refine ul_nil ?_
        refine aL 1 (by simp [go_sem, hdn, enc_none, hzz, hd1, hd2, hcv, hwn] <;> rfl) ?_
        refine al_nil ?_
        refine awp_seq (awp_reg ?_)
        refine aL 1 (by simp [go_sem, hdn, enc_none, hzz, hd1, hd2, hcv, hwn] <;> rfl) ?_
        refine aF call21 ((c_flat_CanonO y (by omega) (c, 0) hyf) _ (by exact hgl)) (by simp [go_sem, hdn, enc_none, hzz, hd1, hd2, hcv, hwn] <;> rfl) (by simp [go_sem, hdn, enc_none, hzz, hd1, hd2, hcv, hwn]) ?_
        refine aL 6 (by simp [go_sem, hdn, enc_none, hzz, hd1, hd2, hcv, hwn] <;> rfl) ?_
        refine al_nil ?_
        refine awp_seq (awp_reg ?_)
        refine aL 1 (by simp [go_sem, hdn, enc_none, hzz, hd1, hd2, hcv, hwn] <;> rfl) ?_
        refine aF call21 ((c_flat_CanonO z (by omega) zf hzf) _ (by exact hgl)) (by simp [go_sem, hdn, enc_none, hzz, hd1, hd2, hcv, hwn] <;> rfl) (by simp [go_sem, hdn, enc_none, hzz, hd1, hd2, hcv, hwn]) ?_
        refine aL 6 (by simp [go_sem, hdn, enc_none, hzz, hd1, hd2, hcv, hwn] <;> rfl) ?_
        refine al_nil ?_
        refine awp_seq (awp_seq (awp_reg ?_))
        refine aL 3 (by simp [go_sem, hdn, enc_none, hzz, hd1, hd2, hcv, hwn] <;> rfl) ?_
        refine al_splitT 111 (by first | rfl | (simp [go_sem, hdn, enc_none, hzz, hd1, hd2, hcv, hwn] <;> rfl)) (fun h9 => ?_) (fun h9 => ?_)
        ·first | (cases h9; done) | (simp at h9; done)
        ·refine aLG 2 111 false (by simp [go_sem, hdn, enc_none, hzz, hd1, hd2, hcv, hwn] <;> rfl) ?_
         refine al_fnG 111 false false (by simp [go_sem]) rfl (by simp [go_sem]) rfl rfl (by simp [go_sem, hdn, enc_none, hzz, hd1, hd2, hcv, hwn] <;> rfl) call15 ((c_Same c (by omega) c) _ (by exact hgl)) (by simp [go_sem, hdn, enc_none, hzz, hd1, hd2, hcv, hwn] <;> rfl) (by simp [go_sem, hdn, enc_none, hzz, hd1, hd2, hcv, hwn]) rfl rfl ?_
         refine aLG 1 111 false (by simp [go_sem, hdn, enc_none, hzz, hd1, hd2, hcv, hwn] <;> rfl) ?_
         refine aL 1 (by simp [go_sem, hdn, enc_none, hzz, hd1, hd2, hcv, hwn] <;> rfl) ?_
         refine al_nil ?_
         refine awp_cond (by first | rfl | (simp [go_sem, hdn, enc_none, hzz, hd1, hd2, hcv, hwn] <;> rfl)) (fun h10 => ?_) (fun h10 => ?_)
         ·first | (cases h10; done) | (simp at h10; done)
         ·refine awp_skip ?_
          refine awp_seq (awp_seq (awp_reg ?_))
          refine aL 5 (by simp [go_sem, hdn, enc_none, hzz, hd1, hd2, hcv, hwn] <;> rfl) ?_
          refine al_splitT 121 (by first | rfl | (simp [go_sem, hdn, enc_none, hzz, hd1, hd2, hcv, hwn] <;> rfl)) (fun h11 => ?_) (fun h11 => ?_)
          ·have hne : (zf.2 != 0) = true := by rw [hze]; simpa using fcheck_turn (z := z) (by first | exact .inl (by have := h11; simp only [decide_eq_true_eq] at this; omega) | exact .inr (by simpa using h11))
           refine aK 3 121 false ?_
           refine aL 1 (by simp [go_sem, hdn, enc_none, hzz, hd1, hd2, hcv, hwn, hne] <;> rfl) ?_
           refine al_nil ?_
           refine awp_cond (b := true) (by simp [go_sem, hdn, enc_none, hzz, hd1, hd2, hcv, hwn, hne, h0, h2, h3, h4, h5, h6, h9, h10, h11]) (fun h => ?_) (fun h => ?_)
           rotate_left
           ·cases h
           refine awp_seq (awp_reg ?_)
           refine aL 3 (by simp [go_sem, hdn, enc_none, hzz, hd1, hd2, hcv, hwn, hne] <;> rfl) ?_
           refine al_splitT 128 (by first | rfl | (simp [go_sem, hdn, enc_none, hzz, hd1, hd2, hcv, hwn, hne] <;> rfl)) (fun h12 => ?_) (fun h12 => ?_)
           ·refine al_fnG 128 true true (by simp [go_sem]) rfl (by simp [go_sem]) rfl rfl (by simp [go_sem, hdn, enc_none, hzz, hd1, hd2, hcv, hwn, hne] <;> rfl) call16 (c_alive σ hσ) (by simp [go_sem, hdn, enc_none, hzz, hd1, hd2, hcv, hwn, hne] <;> rfl) (by simp [go_sem, hdn, enc_none, hzz, hd1, hd2, hcv, hwn, hne]) rfl rfl ?_
            refine aL 2 (by simp [go_sem, hdn, enc_none, hzz, hd1, hd2, hcv, hwn, hne] <;> rfl) ?_
            refine al_nil ?_
            refine awp_ret ?_
            refine then_ret ?_
            refine ends_ret (by simp [go_sem, hdn, enc_none, hzz, hd1, hd2, hcv, hwn, hne] <;> rfl) (by simp [go_sem]) ?_
            exact ⟨by simp [go_sem], by simp [go_sem]⟩
           ·first | (cases h12; done) | (simp at h12; done)
          ·have hg4 := h11
           refine aLG 1 121 false (by simp [go_sem, hdn, enc_none, hzz, hd1, hd2, hcv, hwn] <;> rfl) ?_
           refine al_fnG 121 false false (by simp [go_sem]) rfl (by simp [go_sem]) rfl rfl (by simp [go_sem, hdn, enc_none, hzz, hd1, hd2, hcv, hwn] <;> rfl) call29 ((c_Check01 z (by omega)) _ (by exact hgl)) (by simp [go_sem, hdn, enc_none, hzz, hd1, hd2, hcv, hwn] <;> rfl) (by simp [go_sem, hdn, enc_none, hzz, hd1, hd2, hcv, hwn]) rfl rfl ?_
           refine aLG 1 121 false (by simp [go_sem, hdn, enc_none, hzz, hd1, hd2, hcv, hwn] <;> rfl) ?_
           refine aL 1 (by simp [go_sem, hdn, enc_none, hzz, hd1, hd2, hcv, hwn] <;> rfl) ?_
           refine al_nil ?_
           refine awp_cond (by first | rfl | (simp [go_sem, hdn, enc_none, hzz, hd1, hd2, hcv, hwn] <;> rfl)) (fun h13 => ?_) (fun h13 => ?_)
           ·have hne : (zf.2 != 0) = true := by rw [hze]; simpa using fcheck_turn (z := z) (by first | exact .inl (by have := h13; simp only [decide_eq_true_eq] at this; omega) | exact .inr (by simpa using h13))
            refine awp_seq (awp_reg ?_)
            refine aL 3 (by simp [go_sem, hdn, enc_none, hzz, hd1, hd2, hcv, hwn, hne] <;> rfl) ?_
            refine al_splitT 128 (by first | rfl | (simp [go_sem, hdn, enc_none, hzz, hd1, hd2, hcv, hwn, hne] <;> rfl)) (fun h14 => ?_) (fun h14 => ?_)
            ·refine al_fnG 128 true true (by simp [go_sem]) rfl (by simp [go_sem]) rfl rfl (by simp [go_sem, hdn, enc_none, hzz, hd1, hd2, hcv, hwn, hne] <;> rfl) call16 (c_alive σ hσ) (by simp [go_sem, hdn, enc_none, hzz, hd1, hd2, hcv, hwn, hne] <;> rfl) (by simp [go_sem, hdn, enc_none, hzz, hd1, hd2, hcv, hwn, hne]) rfl rfl ?_
             refine aL 2 (by simp [go_sem, hdn, enc_none, hzz, hd1, hd2, hcv, hwn, hne] <;> rfl) ?_
             refine al_nil ?_
             refine awp_ret ?_
             refine then_ret ?_
             refine ends_ret (by simp [go_sem, hdn, enc_none, hzz, hd1, hd2, hcv, hwn, hne] <;> rfl) (by simp [go_sem]) ?_
             exact ⟨by simp [go_sem], by simp [go_sem]⟩
            ·first | (cases h14; done) | (simp at h14; done)
           ·obtain ⟨Z, hzcan⟩ := R.turnR hn0 hn9 (by rw [← hy, ← hz]; have := hg4; simp only [decide_eq_false_iff_not] at this; omega) (by rw [← hy, ← hz]; simpa using h13)
            rw [← hy, ← hz] at Z hzcan
            rw [← hc] at hzcan
            have hzok : zf = (c, 0) := by rw [hzf, Z.fcanon, hzcan]
            have hsm : fSame x z = (true, 0) := by rw [fSame_good R Z, hzcan, ← hc, hd1]
            refine awp_skip ?_
            refine awp_seq (awp_reg ?_)
            refine aL 2 (by simp [go_sem, hdn, enc_none, hzz, hd1, hd2, hcv, hwn, hzok] <;> rfl) ?_
            refine aF call22 ((c_flat_SameO x z (by omega) (by omega) true 0 hsm) _ (by exact hgl)) (by simp [go_sem, hdn, enc_none, hzz, hd1, hd2, hcv, hwn, hzok] <;> rfl) (by simp [go_sem, hdn, enc_none, hzz, hd1, hd2, hcv, hwn, hzok]) ?_
            refine aL 5 (by simp [go_sem, hdn, enc_none, hzz, hd1, hd2, hcv, hwn, hzok] <;> rfl) ?_
            refine al_nil ?_
            refine awp_seq (awp_reg ?_)
            refine aL 3 (by simp [go_sem, hdn, enc_none, hzz, hd1, hd2, hcv, hwn, hzok] <;> rfl) ?_
            refine al_splitT 139 (by first | rfl | (simp [go_sem, hdn, enc_none, hzz, hd1, hd2, hcv, hwn, hzok] <;> rfl)) (fun h15 => ?_) (fun h15 => ?_)
            ·refine aLG 2 139 true (by simp [go_sem, hdn, enc_none, hzz, hd1, hd2, hcv, hwn, hzok] <;> rfl) ?_
             refine al_fnG 139 true true (by simp [go_sem]) rfl (by simp [go_sem]) rfl rfl (by simp [go_sem, hdn, enc_none, hzz, hd1, hd2, hcv, hwn, hzok] <;> rfl) call15 ((c_Same c (by omega) c) _ (by exact hgl)) (by simp [go_sem, hdn, enc_none, hzz, hd1, hd2, hcv, hwn, hzok] <;> rfl) (by simp [go_sem, hdn, enc_none, hzz, hd1, hd2, hcv, hwn, hzok]) rfl rfl ?_
             refine aL 2 (by simp [go_sem, hdn, enc_none, hzz, hd1, hd2, hcv, hwn, hzok] <;> rfl) ?_
             refine al_splitT 144 (by first | rfl | (simp [go_sem, hdn, enc_none, hzz, hd1, hd2, hcv, hwn, hzok] <;> rfl)) (fun h16 => ?_) (fun h16 => ?_)
             ·refine aLG 1 144 true (by simp [go_sem, hdn, enc_none, hzz, hd1, hd2, hcv, hwn, hzok] <;> rfl) ?_
              refine aL 2 (by simp [go_sem, hdn, enc_none, hzz, hd1, hd2, hcv, hwn, hzok] <;> rfl) ?_
              refine al_splitT 147 (by first | rfl | (simp [go_sem, hdn, enc_none, hzz, hd1, hd2, hcv, hwn, hzok] <;> rfl)) (fun h17 => ?_) (fun h17 => ?_)
              ·refine aLG 2 147 true (by simp [go_sem, hdn, enc_none, hzz, hd1, hd2, hcv, hwn, hzok] <;> rfl) ?_
               refine aL 2 (by simp [go_sem, hdn, enc_none, hzz, hd1, hd2, hcv, hwn, hzok] <;> rfl) ?_
               refine al_splitT 151 (by first | rfl | (simp [go_sem, hdn, enc_none, hzz, hd1, hd2, hcv, hwn, hzok] <;> rfl)) (fun h18 => ?_) (fun h18 => ?_)
               ·refine al_fnG 151 true true (by simp [go_sem]) rfl (by simp [go_sem]) rfl rfl (by simp [go_sem, hdn, enc_none, hzz, hd1, hd2, hcv, hwn, hzok] <;> rfl) call16 (c_alive σ hσ) (by simp [go_sem, hdn, enc_none, hzz, hd1, hd2, hcv, hwn, hzok] <;> rfl) (by simp [go_sem, hdn, enc_none, hzz, hd1, hd2, hcv, hwn, hzok]) rfl rfl ?_
                refine aL 2 (by simp [go_sem, hdn, enc_none, hzz, hd1, hd2, hcv, hwn, hzok] <;> rfl) ?_
                refine al_nil ?_
                refine awp_ret ?_
                refine ends_ret (by simp [go_sem, hdn, enc_none, hzz, hd1, hd2, hcv, hwn, hzok] <;> rfl) (by simp [go_sem]) ?_
                exact ⟨by simp [go_sem], by simp [go_sem]⟩
               ·first | (cases h18; done) | (simp at h18; done)
              ·first | (cases h17; done) | (simp at h17; done)
             ·first | (cases h16; done) | (simp at h16; done)
            ·first | (cases h15; done) | (simp at h15; done)

end Go.Proofs.YtienmmfjjffjaaaGreatDoor

/- The laid tables and the data of this seat, as abstract values. -/
namespace Go.Proofs.YtienmmfjjffjaaaGreatDoor
open Go Go.Aw
variable {kr : ResO}
theorem dty : DatumTy Tryz.prog 24 22 3 2 9 :=
  { und := ⟨_, _, _, _, Tryz.underlying24, rfl, rfl, rfl, rfl, rfl, rfl, rfl, rfl⟩, i := Tryz.underlying3, n := Tryz.underlying2, s := Tryz.underlying9, k := Tryz.underlying22, cD := by kernel_rfl, ci := by kernel_rfl, cn := by kernel_rfl, cs := by kernel_rfl, ck := by kernel_rfl }
theorem gReserved : Tryz.prog.globalNamed "pagoda/node.reserved" = some 0 := by kernel_rfl
theorem gPrim : Tryz.prog.globalNamed "pagoda/prim.names" = some 1 := by kernel_rfl
theorem tReserved : (Tryz.prog.globals[0]?).map (·.type) = some 70 := by kernel_rfl
theorem tPrim : (Tryz.prog.globals[1]?).map (·.type) = some 126 := by kernel_rfl
theorem tPow : (Tryz.prog.globals[2]?).map (·.type) = some 154 := by kernel_rfl
theorem rows_pow : (Rows.laid_internal_strconv_uint64pow10 : DataW Unit) = Lib.tabData .u64 Lib.pow10Tab := by kernel_rfl
/-- What the row's listed variables are when the call begins. -/
theorem of_laid {W : World} (h : laidMetH Tryz.prog [("math/bits.deBruijn32tab", Rows.laid_math_bits_deBruijn32tab), ("math/bits.deBruijn64tab", Rows.laid_math_bits_deBruijn64tab), ("internal/strconv.uint64pow10", Rows.laid_internal_strconv_uint64pow10), ("pagoda/node.reserved", Rows.laid_pagoda_node_reserved), ("pagoda/prim.names", Rows.laid_pagoda_prim_names)] W) :
    ∃ kr : ResO, ∀ n p, (n, p) ∈ (GL kr) → RP W.heap.size (fun _ _ => False) W p (.pointer (some ⟨n, 0, none⟩)) := by
  rw [MakeChecks.laidMetH_plain _ _ _ (by kernel_rfl)] at h
  obtain ⟨ps, ⟨_, _, _, _, _, _, _, _, _, _, ⟨_, _, _, _, _, _, _, _, _, _, ⟨g2, t2, cs2, f2, p2, q2, hg2, ht2, hv2, hd2, ⟨g0, t0, cs0, f0, p0, q0, hg0, ht0, hv0, hd0, ⟨g1, t1, cs1, f1, p1, q1, hg1, ht1, hv1, hd1, _, _⟩, _⟩, _⟩, _⟩, _⟩, _, _⟩ := h
  obtain rfl := Option.some.inj (gReserved.symm.trans hg0)
  obtain rfl := Option.some.inj (gPrim.symm.trans hg1)
  obtain rfl := Option.some.inj (gPow.symm.trans hg2)
  obtain rfl := Option.some.inj (tReserved.symm.trans ht0)
  obtain rfl := Option.some.inj (tPrim.symm.trans ht1)
  obtain rfl := Option.some.inj (tPow.symm.trans ht2)
  obtain ⟨b, l, hc0, hl, hrp0⟩ := open_set (S := fun _ _ => False) (names := resNames) Tryz.underlying70 Tryz.underlying9 Tryz.underlying4 hd0
  obtain ⟨v, hc1, hone, hrp1⟩ := open_table (S := fun _ _ => False) (L := primNames) Tryz.underlying126 Tryz.underlying127 Tryz.underlying9 Tryz.underlying3 rfl rfl (by kernel_rfl) (by kernel_rfl) (by kernel_rfl) hd1
  rw [rows_pow] at hd2
  have hc2 := Lib.cells_of_tab Tryz.underlying154 Tryz.underlying140 (by kernel_rfl) (by kernel_rfl) hd2
  have hblk : ∃ e c, W.heap[(2 : Nat)]? = some (.cells (Lib.pow10Tab.map (Value.int .u64)).toArray e c) := by
    simp only [World.var?, gPow, Option.bind_some] at hv2
    split at hv2
    · rename_i cs e c hh
      cases hv2
      refine ⟨e, c, ?_⟩
      rw [hh, ← Array.toArray_toList (xs := cs2), hc2]
    · cases hv2
  obtain ⟨e2, c2, hblk⟩ := hblk
  have hcell0 : W.cell? ⟨0, 0, none⟩ = some (.map (some b)) := by
    have := World.var?_cell hg0 hv0 0
    rw [Array.eq_one_of_toList hc0] at this
    simpa using this
  have hcell1 : W.cell? ⟨1, 0, none⟩ = some v := by
    have := World.var?_cell hg1 hv1 0
    rw [Array.eq_one_of_toList hc1] at this
    simpa using this
  refine ⟨resO l hl, fun n p hm => ?_⟩
  simp only [GL, flatG, List.cons_append, List.nil_append, List.mem_cons, Prod.mk.injEq, List.not_mem_nil, or_false] at hm
  rcases hm with ⟨rfl, rfl⟩ | ⟨rfl, rfl⟩ | ⟨rfl, rfl⟩
  · rw [resV_of hl] at hrp0
    exact rp_var (cell_lt hcell0) hcell0 rfl hrp0
  · rw [primV_of] at hrp1
    exact rp_var (cell_lt hcell1) hcell1 hone hrp1
  · refine RP.tab ?_ hblk
    by_cases hlt : 2 < W.heap.size
    · exact hlt
    · rw [Array.getElem?_eq_none (by show W.heap.size ≤ _; omega)] at hblk; cases hblk

end Go.Proofs.YtienmmfjjffjaaaGreatDoor

/- FlatCanon: for every datum and every number the law returns true, and they read as they did. -/
namespace Go.Proofs.YtienmmfjjffjaaaGreatDoor
open Go Go.Aw
variable {kr : ResO}
open Go.ChangeShapes Go.WideShapes Go.ChangeAt Go.WideMaps Go.WideElems Go.RowKit
theorem own : ownKnob Tryz.prog.godebug = none := by kernel_rfl
theorem laidOut : laidOutB Tryz.prog = true := by kernel_rfl
theorem door_met (os : Os) (args : Array Value) : laidMetH Tryz.prog Rows.flatCanonRow.laid ((World.doorLaid Tryz.prog 90 os).forCall (fun _ _ => 0) ⟨#[], args, []⟩).memory :=
  laidMetH_of_parts3 (fuel := 8) (laidMet_of_run' 8 (by kernel_rfl) (by kernel_rfl)) (by kernel_rfl) (by kernel_rfl)
/-- The call, as the machine makes it. -/
theorem flatCanon_calls {W : World} (hL : laidMetH Tryz.prog Rows.flatCanonRow.laid W) {v0 v1 : Value} {d0 : D} {d1 : Int} (h0 : RP W.heap.size (fun _ _ => False) W (enc d0) v0) (h1 : RP W.heap.size (fun _ _ => False) W (.int .u16 d1) v1) (b1 : (Lit.int .u16 d1).wf = true) :
    Calls Tryz.prog 5 #[v0, v1] W fun r W' => r = .returned (.bool true) ∧ Below W.heap.size W W' := by
  obtain ⟨kr, hg⟩ := of_laid hL
  refine (c_FlatCanon (kr := kr) d0 d1 (wf_u16 b1).1 (wf_u16 b1).2 ⟨(GL kr), [], []⟩ rfl (g0 W) W [v0, v1] (inv0 hg) rfl (fun i x v hx hv => ?_)).mono ?_
  · match i with
    | 0 => simp at hx hv; subst hx hv; exact .pv h0
    | 1 => simp at hx hv; subst hx hv; exact .pv h1
    | i + 2 => simp at hx
  · rintro r W' ⟨v, x, σ', g', rfl, ⟨rfl, rfl⟩, _, hext, hra⟩
    rw [hra.pv_inv.bool_inv]
    exact ⟨rfl, below_of hext⟩
abbrev zeroDatum : Value := .agg #[.int .i64 0, .int .i64 0, .string ⟨#[]⟩, .slice none 0 0]
set_option maxRecDepth 100000 in
theorem flatCanon_lifted (os : Os) (started : os.Started) (H : Type) (enc' : TypeId × Value → H) :
    ReturnsInHanded {} Tryz.checked os 5 .any (fun w args => (Rows.flatCanonSpec.pre enc' Tryz.prog Tryz.f5 [] false w args ∧ laidMetH Tryz.prog Rows.flatCanonRow.laid w) ∧ sizedMet enc' Tryz.prog Tryz.f5 (OpenSpec.ofChange Rows.flatCanonSpec) false w args)
      (Rows.flatCanonSpec.post enc' Tryz.prog Tryz.f5 false true false false) := by
  refine returnsInHanded_of_change_and (C := Tryz.checked) (X := fun w _ => laidMetH Tryz.prog Rows.flatCanonRow.laid w) (fun _ _ _ hh h => h.of_heap hh) own started (by kernel_rfl) Tryz.func5
    (ChangeSpec.witness_shaped (enc := enc') (C := Tryz.checked) (os := os) (X := fun w _ => laidMetH Tryz.prog Rows.flatCanonRow.laid w) false (World.doorLaid Tryz.prog 90 os) #[zeroDatum, .int .u16 0] 8 rfl (World.shaped_of_RefB (by kernel_rfl) (by kernel_rfl)) (by kernel_rfl) (by kernel_rfl) (by kernel_rfl) (door_met os _)) ?_
  intro W base args ds gs before hval0 hW _ _ hL _
  have hW' := hW
  obtain ⟨p, q, hA0, hV, rfl, hfz, hnd⟩ := hW
  have hA : DataW.TrodAll enc' Tryz.prog W 0 (fun _ => true) true Tryz.f5.params.toList args.toList ds p := hA0
  rw [Tryz.params5] at hA
  obtain ⟨v0, v1, x0, x1, p0, p1, rfl, rfl, rfl, h0, h1⟩ := trodAll_two hA
  obtain ⟨rfl, rfl⟩ := trodVars_none hV
  clear hA0
  simp only [List.append_nil] at hW'
  obtain ⟨n0, t0⟩ := id h0
  obtain ⟨n1, t1⟩ := id h1
  obtain ⟨e0, u0, hc0, ho0, hr0⟩ := open_datum (S := fun _ _ => False) dty n0 _ _ t0
  have hv0 := open_agg hc0
  obtain ⟨m1, hv1, w1⟩ := open_intV Tryz.underlying53 (hval0 1 53 v1 rfl rfl) t1
  clear hval0
  have hlt := hW'.lt
  refine (flatCanon_calls hL (hv0 ▸ rp_datum ho0 hr0) (by rw [hv1]; exact .int) w1).mono fun r W' ⟨hr, hb⟩ => ?_
  subst hr
  exact ⟨_, rfl, post_of_below (pa := p0 ++ p1) (pv := []) hW' (fun _ _ _ => trodAll_mk1 (shut_bool Tryz.underlying4 true))
    (fun sp hs => trodAll_mk2 (Trod_stays laidOut (by kernel_rfl) (of_decide_eq_true (by kernel_rfl)) h0 (fun x hx => hb.same (hlt x (by simp [hx]))) (fun x hx => hs x (by simp [hx]))) (Trod_stays laidOut (by kernel_rfl) (of_decide_eq_true (by kernel_rfl)) h1 (fun x hx => hb.same (hlt x (by simp [hx]))) (fun x hx => hs x (by simp [hx]))))
    (fun _ _ => rfl) (by simp) hb (ok_one (by kernel_rfl) rfl (okWide_bool_mk Tryz.underlying4 _))⟩
theorem flatCanon_holds : Rows.FlatCanonSaid :=
  OpenClaim.holds_of_wide 5 Tryz.f5 rfl rfl rfl rfl rfl rfl rfl ⟨rfl, rfl, rfl, rfl, rfl⟩ rfl rfl rfl rfl rfl (by kernel_rfl) Tryz.func5 (by kernel_rfl)
    (of_decide_eq_true (by kernel_rfl)) (by unfold Func.isWrapper; rw [if_neg (by decide +kernel)]; exact ⟨rfl, rfl⟩)
    (fun os started H enc _ => flatCanon_lifted os started H enc)
/-- The tied card. -/
theorem flatCanonCard_holds : Rows.FlatCanonCardSaid :=
  Claim7.holds_tied_plain_at .later [] [.data, .data, .data, .mapped, .data] true (true, "90130382fac7d9d0ed5a2357e0a309ea32f779a7967c3879cd180699234b33dc") false
    flatCanon_holds (fun _ h => by cases h) (by kernel_rfl) (fun _ h => by cases h) flatCanon_row_tie rfl ⟨rfl, rfl⟩ (by kernel_rfl) rfl
    (fun f fn hf hfn => by
      obtain rfl : f = 5 := Option.some.inj ((show Tryz.prog.funcNamed "pagoda/pagodalaw17.FlatCanon" = some 5 by kernel_rfl).symm.trans hf) |>.symm
      obtain rfl : fn = Tryz.f5 := (Option.some.inj (Tryz.func5.symm.trans hfn)).symm
      exact ⟨by kernel_rfl, fun j t ht => by
        rw [Tryz.params5] at ht
        rcases j with _ | _ | j
        · obtain rfl : 24 = t := by simpa using ht
          exact (show Tryz.prog.wantsStandIn 24 = false by kernel_rfl)
        · obtain rfl : 53 = t := by simpa using ht
          exact (show Tryz.prog.wantsStandIn 53 = false by kernel_rfl)
        · simp at ht⟩)
    (by kernel_rfl)
end Go.Proofs.YtienmmfjjffjaaaGreatDoor
