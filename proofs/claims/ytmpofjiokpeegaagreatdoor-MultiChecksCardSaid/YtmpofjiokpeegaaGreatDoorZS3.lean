/- Part of the proof that the statement holds for every input that its row lets in: the contracts of the program's functions, printed by a program out of annotations; the statement itself stands at the end of the last part. -/
import Derived.Test.YtmpofjiokpeegaaGreatDoorZS2
import Derived.Test.YtmpofjiokpeegaaGreatDoorZA4
import Derived.Test.YtmpofjiokpeegaaGreatDoorRows
import Derived.Test.YtmpofjiokpeegaaGreatDoorCards
import Derived.Test.YtmpofjiokpeegaaGreatDoorTie
set_option linter.unusedSimpArgs false
set_option linter.unusedVariables false
/- The example, alive; MultiChecks. -/
namespace Go.Proofs.YtmpofjiokpeegaaGreatDoor
open Go Go.Aw
variable {kr : KR}
set_option maxHeartbeats 1000000 in
theorem c_texts (a b : List ByteArray) (hl : a.length ≤ 1000000000) (hl2 : b.length ≤ 1000000000) : Pur Tryz.prog (GL kr) 23 [.pv (.slice (a.map .str)), .pv (.slice (b.map .str))] (.pv (.bool (decide (a = b)))) := by
 refine pur_of fun σ hgl => ?_
 refine acalls_of tyOk Tryz.func23 rfl (by simp [Tryz.f23]) ?_
 refine awp_seq (aR (by simp [go_sem] <;> rfl) ?_)
 refine awp_seq (awp_seq (aR (by simp [go_sem] <;> rfl) ?_))
 refine awp_cond (by first | rfl | (simp [go_sem] <;> rfl)) (fun h0 => ?_) (fun h0 => ?_)
 ·refine awp_seq ?_
  refine aR (by simp [go_sem] <;> rfl) ?_
  refine awp_ret ?_
  refine then_ret ?_
  refine ends_ret (by simp [go_sem] <;> rfl) (by simp [go_sem]) ?_
  have hs : ¬ a = b := fun e => by subst e; simp at h0
  exact ⟨by simp [go_sem, hs], by simp [go_sem]⟩
 ·have hlen : a.length = b.length := by have := h0; simp only [bne_eq_false_iff_eq] at this; omega
  have hzl : (a.zip b).length = a.length := by simp; omega
  refine awp_skip ?_
  refine awp_seq (awp_seq (aR (by simp [go_sem] <;> rfl) ?_))
  refine awp_block ?_
  refine awp_loop_headK σ.objs.length σ.toks.length 0 [0, 1, 4] (fun k : Nat => [(5, .pv (.int .i64 ↑k))]) (fun k => σ) (fun k => k ≤ a.length ∧ NotYet (fun x => !(decide (x.1 = x.2))) (a.zip b) k) (fun k => a.length - k) 0 (⟨Nat.zero_le _, .zero⟩) ⟨by simp [go_sem], rfl, by simp, by simp, by simp [go_sem], fun ob h => .inl (by simpa [go_sem] using h), by simp [go_sem]⟩ ?_
  rintro k ⟨hk, hn⟩
  refine awp_seq (awp_seq (aR (by simp [go_sem] <;> rfl) ?_))
  refine awp_cond (by first | rfl | (simp [go_sem] <;> rfl)) (fun h1 => ?_) (fun h1 => ?_)
  ·have hlt : k < a.length := by simp at h1; omega
   have hw : IntKind.i64.wrap (↑k + 1) = (k : Int) + 1 := wrap_succ (by omega)
   obtain ⟨x, hx, hxm⟩ := get_lt hlt
   obtain ⟨y, hy, hym⟩ := get_lt (l := b) (k := k) (by omega)
   refine awp_skip ?_
   refine awp_seq (awp_block ?_)
   refine awp_seq (awp_regDP tyOk tySz 8 (by kernel_rfl) (by decide) ?_)
   refine ul_run 8 (by simp [go_sem, hx, hy] <;> rfl) ?_
   refine ul_nil ?_
   refine aL 1 (by simp [go_sem, hx, hy] <;> rfl) ?_
   refine al_nil ?_
   refine awp_cond (by first | rfl | (simp [go_sem, hx, hy] <;> rfl)) (fun h2 => ?_) (fun h2 => ?_)
   ·refine awp_seq ?_
    refine aR (by simp [go_sem, hx, hy] <;> rfl) ?_
    refine awp_ret ?_
    refine inBlock_ret ?_
    refine then_ret ?_
    refine then_ret ?_
    refine inBlock_ret ?_
    refine then_ret ?_
    refine ends_ret (by simp [go_sem] <;> rfl) (by simp [go_sem]) ?_
    have hs : ¬ a = b := fun e => by subst e; rw [hx] at hy; cases hy; simp at h2
    exact ⟨by simp [go_sem, hs], by simp [go_sem]⟩
   ·refine awp_skip ?_
    refine aR (by simp [go_sem, hx, hy] <;> rfl) ?_
    exact next_intro (k + 1) σ.objs.length σ.toks.length 0 (⟨hlt, hn.succ (zip_get hx hy) (by simpa using h2)⟩) (by omega) ⟨by simp [go_sem, hx, hy, hw], rfl, by simp, by simp, by simp [go_sem, hx, hy, hw], fun ob h => .inl (by simpa [go_sem, hx, hy, hw] using h), by simp [go_sem]⟩
  ·have hke : k = a.length := by simp at h1; omega
   subst hke
   have hab : a = b := texts_eq hlen hzl hn
   refine awp_exit ?_
   refine then_exit ?_
   refine then_exit ?_
   refine inBlock_hit ?_
   refine awp_seq (aR (by simp [go_sem] <;> rfl) ?_)
   refine awp_ret ?_
   refine ends_ret (by simp [go_sem] <;> rfl) (by simp [go_sem]) ?_
   exact ⟨by simp [go_sem, hab], by simp [go_sem]⟩

set_option maxHeartbeats 1000000 in
theorem c_alive (σ : Store) (hσ : σ = ⟨(GL kr), [], []⟩) : PurAt Tryz.prog σ 22 [] (.pv (.bool true)) := by
 have hgl : σ.gl = (GL kr) := by rw [hσ]
 have hP := ex_plain
 have hL := ex_lifted
 have hC3 := ex_check3
 have hS3 := ex_size3
 have hC6 := ex_check6
 obtain ⟨z1, z2, z3, z4, z5, z6⟩ := ex_sizes
 have hr1 := c_read1 (kr := kr)
 have hr2 := c_read2 (kr := kr)
 have hr3 := c_read3 (kr := kr)
 have hr4 := c_read4 (kr := kr)
 have hr5 := c_read5 (kr := kr)
 have hr6 := c_read6 (kr := kr)
 rw [← hσ] at hr1 hr2 hr3 hr4 hr5 hr6
 clear hσ
 generalize ex1 = x1 at *
 generalize ex2 = x2 at *
 generalize ex3 = x3 at *
 generalize ex4 = x4 at *
 generalize ex5 = x5 at *
 generalize ex6 = x6 at *
 have hd4 := deq_refl x4
 have hd5 := deq_refl x5
 refine purAt_of ?_
 refine acalls_of tyOk Tryz.func22 rfl (by simp [Tryz.f22]) ?_
 refine awp_seq (aR (by simp [go_sem, hP, hL, hC3, hS3, hC6, hd4, hd5] <;> rfl) ?_)
 refine awp_seq (awp_reg ?_)
 refine aF call68 (hr1) (by simp [go_sem, hP, hL, hC3, hS3, hC6, hd4, hd5] <;> rfl) (by simp [go_sem, hP, hL, hC3, hS3, hC6, hd4, hd5]) ?_
 refine aF call36 ((c_mPlain x1 (by omega)) _ (by exact hgl)) (by simp [go_sem, hP, hL, hC3, hS3, hC6, hd4, hd5] <;> rfl) (by simp [go_sem, hP, hL, hC3, hS3, hC6, hd4, hd5]) ?_
 refine aL 6 (by simp [go_sem, hP, hL, hC3, hS3, hC6, hd4, hd5] <;> rfl) ?_
 refine al_nil ?_
 refine awp_seq (awp_reg ?_)
 refine aF call68 (hr2) (by simp [go_sem, hP, hL, hC3, hS3, hC6, hd4, hd5] <;> rfl) (by simp [go_sem, hP, hL, hC3, hS3, hC6, hd4, hd5]) ?_
 refine aF call16 ((c_mLifted x2 (by omega)) _ (by exact hgl)) (by simp [go_sem, hP, hL, hC3, hS3, hC6, hd4, hd5] <;> rfl) (by simp [go_sem, hP, hL, hC3, hS3, hC6, hd4, hd5]) ?_
 refine aL 6 (by simp [go_sem, hP, hL, hC3, hS3, hC6, hd4, hd5] <;> rfl) ?_
 refine al_nil ?_
 refine awp_seq (awp_reg ?_)
 refine aF call68 (hr3) (by simp [go_sem, hP, hL, hC3, hS3, hC6, hd4, hd5] <;> rfl) (by simp [go_sem, hP, hL, hC3, hS3, hC6, hd4, hd5]) ?_
 refine aF call19 ((c_mSize x3 (by omega)) _ (by exact hgl)) (by simp [go_sem, hP, hL, hC3, hS3, hC6, hd4, hd5] <;> rfl) (by simp [go_sem, hP, hL, hC3, hS3, hC6, hd4, hd5]) ?_
 refine aL 5 (by simp [go_sem, hP, hL, hC3, hS3, hC6, hd4, hd5] <;> rfl) ?_
 refine al_nil ?_
 refine awp_seq (awp_regDC tyOk tySz 14 (drawOk_of (by kernel_rfl)) (by decide) ?_)
 refine ul_run 3 (by simp [go_sem, hP, hL, hC3, hS3, hC6, hd4, hd5] <;> rfl) ?_
 refine ul_splitT 24 (by first | rfl | (simp [go_sem, hP, hL, hC3, hS3, hC6, hd4, hd5] <;> rfl)) (fun h20 => ?_) (fun h20 => ?_)
 ·refine ul_runG 1 24 true true (by simp [go_sem]) rfl (by simp [go_sem]) rfl rfl (by simp [go_sem, hP, hL, hC3, hS3, hC6, hd4, hd5] <;> rfl) ?_
  refine ul_fnG 24 true true (by simp [go_sem]) rfl (by first | (intro _ _ hh; exact hh) | simp [go_sem]) (by simp [go_sem]) rfl rfl rfl (by simp [go_sem, hP, hL, hC3, hS3, hC6, hd4, hd5] <;> rfl) call68 (hr4) (by simp [go_sem, hP, hL, hC3, hS3, hC6, hd4, hd5] <;> rfl) (by simp [go_sem, hP, hL, hC3, hS3, hC6, hd4, hd5]) rfl rfl ?_
  refine ul_fnG 24 true true (by simp [go_sem]) rfl (by first | (intro _ _ hh; exact hh) | simp [go_sem]) (by simp [go_sem]) rfl rfl rfl (by simp [go_sem, hP, hL, hC3, hS3, hC6, hd4, hd5] <;> rfl) call35 ((c_Same x4 (by omega) x4) _ (by exact hgl)) (by simp [go_sem, hP, hL, hC3, hS3, hC6, hd4, hd5] <;> rfl) (by simp [go_sem, hP, hL, hC3, hS3, hC6, hd4, hd5]) rfl rfl ?_
  refine ul_run 2 (by simp [go_sem, hP, hL, hC3, hS3, hC6, hd4, hd5] <;> rfl) ?_
  refine ul_splitT 29 (by first | rfl | (simp [go_sem, hP, hL, hC3, hS3, hC6, hd4, hd5] <;> rfl)) (fun h21 => ?_) (fun h21 => ?_)
  ·refine ul_runG 2 29 true true (by simp [go_sem]) rfl (by simp [go_sem]) rfl rfl (by simp [go_sem, hP, hL, hC3, hS3, hC6, hd4, hd5] <;> rfl) ?_
   refine ul_run 2 (by simp [go_sem, hP, hL, hC3, hS3, hC6, hd4, hd5] <;> rfl) ?_
   refine ul_splitT 33 (by first | rfl | (simp [go_sem, hP, hL, hC3, hS3, hC6, hd4, hd5] <;> rfl)) (fun h22 => ?_) (fun h22 => ?_)
   ·refine ul_runG 1 33 true true (by simp [go_sem]) rfl (by simp [go_sem]) rfl rfl (by simp [go_sem, hP, hL, hC3, hS3, hC6, hd4, hd5] <;> rfl) ?_
    refine ul_fnG 33 true true (by simp [go_sem]) rfl (by first | (intro _ _ hh; exact hh) | simp [go_sem]) (by simp [go_sem]) rfl rfl rfl (by simp [go_sem, hP, hL, hC3, hS3, hC6, hd4, hd5] <;> rfl) call68 (hr5) (by simp [go_sem, hP, hL, hC3, hS3, hC6, hd4, hd5] <;> rfl) (by simp [go_sem, hP, hL, hC3, hS3, hC6, hd4, hd5]) rfl rfl ?_
    refine ul_nil ?_
    refine al_fnG 33 true true (by simp [go_sem]) rfl (by simp [go_sem]) rfl rfl (by simp [go_sem, hP, hL, hC3, hS3, hC6, hd4, hd5] <;> rfl) call35 ((c_Same x5 (by omega) x5) _ (by exact hgl)) (by simp [go_sem, hP, hL, hC3, hS3, hC6, hd4, hd5] <;> rfl) (by simp [go_sem, hP, hL, hC3, hS3, hC6, hd4, hd5]) rfl rfl ?_
    refine aL 2 (by simp [go_sem, hP, hL, hC3, hS3, hC6, hd4, hd5] <;> rfl) ?_
    refine al_splitT 38 (by first | rfl | (simp [go_sem, hP, hL, hC3, hS3, hC6, hd4, hd5] <;> rfl)) (fun h23 => ?_) (fun h23 => ?_)
    ·refine aLG 2 38 true (by simp [go_sem, hP, hL, hC3, hS3, hC6, hd4, hd5] <;> rfl) ?_
     refine aL 2 (by simp [go_sem, hP, hL, hC3, hS3, hC6, hd4, hd5] <;> rfl) ?_
     refine al_splitT 42 (by first | rfl | (simp [go_sem, hP, hL, hC3, hS3, hC6, hd4, hd5] <;> rfl)) (fun h24 => ?_) (fun h24 => ?_)
     ·refine aLG 2 42 true (by simp [go_sem, hP, hL, hC3, hS3, hC6, hd4, hd5] <;> rfl) ?_
      refine aL 2 (by simp [go_sem, hP, hL, hC3, hS3, hC6, hd4, hd5] <;> rfl) ?_
      refine al_splitT 46 (by first | rfl | (simp [go_sem, hP, hL, hC3, hS3, hC6, hd4, hd5] <;> rfl)) (fun h25 => ?_) (fun h25 => ?_)
      ·refine al_fnG 46 true true (by simp [go_sem]) rfl (by simp [go_sem]) rfl rfl (by simp [go_sem, hP, hL, hC3, hS3, hC6, hd4, hd5] <;> rfl) call68 (hr6) (by simp [go_sem, hP, hL, hC3, hS3, hC6, hd4, hd5] <;> rfl) (by simp [go_sem, hP, hL, hC3, hS3, hC6, hd4, hd5]) rfl rfl ?_
       refine al_fnG 46 true true (by simp [go_sem]) rfl (by simp [go_sem]) rfl rfl (by simp [go_sem, hP, hL, hC3, hS3, hC6, hd4, hd5] <;> rfl) call21 ((c_mCheck x6 (by omega)) _ (by exact hgl)) (by simp [go_sem, hP, hL, hC3, hS3, hC6, hd4, hd5] <;> rfl) (by simp [go_sem, hP, hL, hC3, hS3, hC6, hd4, hd5]) rfl rfl ?_
       refine aLG 1 46 true (by simp [go_sem, hP, hL, hC3, hS3, hC6, hd4, hd5] <;> rfl) ?_
       refine aL 2 (by simp [go_sem, hP, hL, hC3, hS3, hC6, hd4, hd5] <;> rfl) ?_
       refine al_nil ?_
       refine awp_ret ?_
       refine ends_ret (by simp [go_sem] <;> rfl) (by simp [go_sem]) ?_
       exact ⟨by simp [go_sem], by simp [go_sem]⟩
      ·cases h25
     ·cases h24
    ·cases h23
   ·cases h22
  ·cases h21
 ·cases h20

set_option maxHeartbeats 1000000 in
theorem c_MultiChecks (p : D) (σ : Store) (hσ : σ = ⟨(GL kr), [], []⟩) : PurAt Tryz.prog σ 4 [.pv (enc p)] (.pv (.bool true)) := by
 have hgl : σ.gl = (GL kr) := by rw [hσ]
 refine purAt_of ?_
 refine acalls_of tyOk Tryz.func4 rfl (by simp [Tryz.f4]) ?_
 refine awp_seq (aR (by simp [go_sem] <;> rfl) ?_)
 refine awp_seq (awp_reg ?_)
 refine aL 1 (by simp [go_sem] <;> rfl) ?_
 refine al_callW rfl rfl rfl (by simp [go_sem] <;> rfl) call17 (c_Cut25 p σ hgl) (by simp [go_sem] <;> rfl) (by simp [go_sem]) rfl rfl ?_
 rintro r σ1 ⟨x, rfl, hs1, hx⟩
 rw [hs1]
 clear hs1 σ1
 refine aL 2 (by simp [go_sem] <;> rfl) ?_
 refine al_nil ?_
 refine awp_seq (awp_reg ?_)
 refine aL 1 (by simp [go_sem] <;> rfl) ?_
 refine aF call11 ((c_rCheck x (by omega)) _ (by exact hgl)) (by simp [go_sem] <;> rfl) (by simp [go_sem]) ?_
 refine aL 1 (by simp [go_sem] <;> rfl) ?_
 refine al_nil ?_
 refine awp_seq (awp_reg ?_)
 refine aL 1 (by simp [go_sem] <;> rfl) ?_
 refine aF call18 ((c_mFree x (by omega)) _ (by exact hgl)) (by simp [go_sem] <;> rfl) (by simp [go_sem]) ?_
 refine aL 5 (by simp [go_sem] <;> rfl) ?_
 refine al_nil ?_
 refine awp_seq (awp_reg ?_)
 refine aL 1 (by simp [go_sem] <;> rfl) ?_
 refine aF call19 ((c_mSize x (by omega)) _ (by exact hgl)) (by simp [go_sem] <;> rfl) (by simp [go_sem]) ?_
 refine aL 5 (by simp [go_sem] <;> rfl) ?_
 refine al_nil ?_
 refine awp_seq (awp_reg ?_)
 refine aL 1 (by simp [go_sem] <;> rfl) ?_
 refine aF call20 ((c_mLevels x (by omega)) _ (by exact hgl)) (by simp [go_sem] <;> rfl) (by simp [go_sem]) ?_
 refine aL 7 (by simp [go_sem] <;> rfl) ?_
 refine al_nil ?_
 refine awp_seq (awp_seq (awp_reg ?_))
 refine aL 1 (by simp [go_sem] <;> rfl) ?_
 refine aF call21 ((c_mCheck x (by omega)) _ (by exact hgl)) (by simp [go_sem] <;> rfl) (by simp [go_sem]) ?_
 refine aL 3 (by simp [go_sem] <;> rfl) ?_
 refine al_splitT 36 (by first | rfl | (simp [go_sem] <;> rfl)) (fun h0 => ?_) (fun h0 => ?_)
 ·first | (cases h0; done) | (simp at h0; done)
 ·refine aLG 3 36 false (by simp [go_sem] <;> rfl) ?_
  refine aL 2 (by simp [go_sem] <;> rfl) ?_
  refine al_splitT 41 (by first | rfl | (simp [go_sem] <;> rfl)) (fun h1 => ?_) (fun h1 => ?_)
  ·first | (cases h1; done) | (simp at h1; done)
  ·refine aLG 3 41 false (by simp [go_sem] <;> rfl) ?_
   refine aL 2 (by simp [go_sem] <;> rfl) ?_
   refine al_splitT 46 (by first | rfl | (simp [go_sem] <;> rfl)) (fun h2 => ?_) (fun h2 => ?_)
   ·first | (cases h2; done) | (simp at h2; done)
   ·refine aLG 3 46 false (by simp [go_sem] <;> rfl) ?_
    refine aL 1 (by simp [go_sem] <;> rfl) ?_
    refine al_nil ?_
    refine awp_cond (by first | rfl | (simp [go_sem] <;> rfl)) (fun h3 => ?_) (fun h3 => ?_)
    ·first | (cases h3; done) | (simp at h3; done)
    ·refine awp_skip ?_
     refine awp_seq (awp_seq (aR (by simp [go_sem] <;> rfl) ?_))
     refine awp_cond (by first | rfl | (simp [go_sem] <;> rfl)) (fun h4 => ?_) (fun h4 => ?_)
     ·have hb : ¬ mcheck x = 0 := by simpa using h4
      refine awp_seq (awp_reg ?_)
      refine aL 4 (by simp [go_sem, hb] <;> rfl) ?_
      refine al_splitT 56 (by first | rfl | (simp [go_sem, hb] <;> rfl)) (fun h5 => ?_) (fun h5 => ?_)
      ·refine aLG 2 56 true (by simp [go_sem, hb] <;> rfl) ?_
       refine aL 2 (by simp [go_sem, hb] <;> rfl) ?_
       refine al_splitT 60 (by first | rfl | (simp [go_sem, hb] <;> rfl)) (fun h6 => ?_) (fun h6 => ?_)
       ·refine aLG 2 60 true (by simp [go_sem, hb] <;> rfl) ?_
        refine aL 2 (by simp [go_sem, hb] <;> rfl) ?_
        refine al_splitT 64 (by first | rfl | (simp [go_sem, hb] <;> rfl)) (fun h7 => ?_) (fun h7 => ?_)
        ·refine aLG 2 64 true (by simp [go_sem, hb] <;> rfl) ?_
         refine aL 2 (by simp [go_sem, hb] <;> rfl) ?_
         refine al_splitT 68 (by first | rfl | (simp [go_sem, hb] <;> rfl)) (fun h8 => ?_) (fun h8 => ?_)
         ·refine al_fnG 68 true true (by simp [go_sem]) rfl (by simp [go_sem]) rfl rfl (by simp [go_sem, hb] <;> rfl) call22 (c_alive σ hσ) (by simp [go_sem, hb] <;> rfl) (by simp [go_sem, hb]) rfl rfl ?_
          refine aL 2 (by simp [go_sem, hb] <;> rfl) ?_
          refine al_nil ?_
          refine awp_ret ?_
          refine then_ret ?_
          refine ends_ret (by simp [go_sem, hb] <;> rfl) (by simp [go_sem]) ?_
          exact ⟨by simp [go_sem], by simp [go_sem]⟩
         ·first | (cases h8; done) | (simp at h8; done)
        ·first | (cases h7; done) | (simp at h7; done)
       ·first | (cases h6; done) | (simp at h6; done)
      ·first | (cases h5; done) | (simp at h5; done)
     ·have hz : mcheck x = 0 := by simpa using h4
      have hg := mcheck_good hz
      have hfl := mfree_len x [] []
      simp only [List.length_nil, Nat.zero_add] at hfl
      have hcl := rcount_eq hg (w := sLift) (by decide)
      have hcr := rcount_eq hg (w := sRun) (by decide)
      have hsz := mcount_size x
      have hps : mcount pSize x = (mall x).length := hsz
      refine awp_skip ?_
      refine awp_seq (awp_reg ?_)
      refine aL 2 (by simp [go_sem, hz, hcl, hcr, hps] <;> rfl) ?_
      refine aF call13 ((c_rFree x hg (by omega)) _ (by exact hgl)) (by simp [go_sem, hz, hcl, hcr, hps] <;> rfl) (by simp [go_sem, hz, hcl, hcr, hps]) ?_
      refine aF call23 ((c_texts (mfree x [] []) (mfree x [] []) (by omega) (by omega)) _ (by exact hgl)) (by simp [go_sem, hz, hcl, hcr, hps] <;> rfl) (by simp [go_sem, hz, hcl, hcr, hps]) ?_
      refine aL 1 (by simp [go_sem, hz, hcl, hcr, hps] <;> rfl) ?_
      refine al_splitT 75 (by first | rfl | (simp [go_sem, hz, hcl, hcr, hps] <;> rfl)) (fun h9 => ?_) (fun h9 => ?_)
      ·refine aLG 2 75 true (by simp [go_sem, hz, hcl, hcr, hps] <;> rfl) ?_
       refine al_fnG 75 true true (by simp [go_sem]) rfl (by simp [go_sem]) rfl rfl (by simp [go_sem, hz, hcl, hcr, hps] <;> rfl) call24 ((c_All x hg (by omega)) _ (by exact hgl)) (by simp [go_sem, hz, hcl, hcr, hps] <;> rfl) (by simp [go_sem, hz, hcl, hcr, hps]) rfl rfl ?_
       refine aLG 2 75 true (by simp [go_sem, hz, hcl, hcr, hps] <;> rfl) ?_
       refine aL 2 (by simp [go_sem, hz, hcl, hcr, hps] <;> rfl) ?_
       refine al_splitT 82 (by first | rfl | (simp [go_sem, hz, hcl, hcr, hps] <;> rfl)) (fun h10 => ?_) (fun h10 => ?_)
       ·refine aLG 2 82 true (by simp [go_sem, hz, hcl, hcr, hps] <;> rfl) ?_
        refine al_fnG 82 true true (by simp [go_sem]) rfl (by simp [go_sem]) rfl rfl (by simp [go_sem, hz, hcl, hcr, hps] <;> rfl) call25 ((c_Count x hg (by omega) sLift) _ (by exact hgl)) (by simp [go_sem, hz, hcl, hcr, hps] <;> rfl) (by simp [go_sem, hz, hcl, hcr, hps, eLift]) rfl rfl ?_
        refine aLG 1 82 true (by simp [go_sem, hz, hcl, hcr, hps] <;> rfl) ?_
        refine aL 2 (by simp [go_sem, hz, hcl, hcr, hps] <;> rfl) ?_
        refine al_splitT 88 (by first | rfl | (simp [go_sem, hz, hcl, hcr, hps] <;> rfl)) (fun h11 => ?_) (fun h11 => ?_)
        ·refine aLG 2 88 true (by simp [go_sem, hz, hcl, hcr, hps] <;> rfl) ?_
         refine al_fnG 88 true true (by simp [go_sem]) rfl (by simp [go_sem]) rfl rfl (by simp [go_sem, hz, hcl, hcr, hps] <;> rfl) call25 ((c_Count x hg (by omega) sRun) _ (by exact hgl)) (by simp [go_sem, hz, hcl, hcr, hps] <;> rfl) (by simp [go_sem, hz, hcl, hcr, hps, eRun]) rfl rfl ?_
         refine aLG 1 88 true (by simp [go_sem, hz, hcl, hcr, hps] <;> rfl) ?_
         refine aL 2 (by simp [go_sem, hz, hcl, hcr, hps] <;> rfl) ?_
         refine al_splitT 94 (by first | rfl | (simp [go_sem, hz, hcl, hcr, hps] <;> rfl)) (fun h12 => ?_) (fun h12 => ?_)
         ·refine al_fnG 94 true true (by simp [go_sem]) rfl (by simp [go_sem]) rfl rfl (by simp [go_sem, hz, hcl, hcr, hps] <;> rfl) call22 (c_alive σ hσ) (by simp [go_sem, hz, hcl, hcr, hps] <;> rfl) (by simp [go_sem, hz, hcl, hcr, hps]) rfl rfl ?_
          refine aL 2 (by simp [go_sem, hz, hcl, hcr, hps] <;> rfl) ?_
          refine al_nil ?_
          refine awp_ret ?_
          refine ends_ret (by simp [go_sem, hz, hcl, hcr, hps] <;> rfl) (by simp [go_sem]) ?_
          exact ⟨by simp [go_sem], by simp [go_sem]⟩
         ·first | (cases h12; done) | (simp at h12; done)
        ·first | (cases h11; done) | (simp at h11; done)
       ·first | (cases h10; done) | (simp at h10; done)
      ·first | (cases h9; done) | (simp at h9; done)

end Go.Proofs.YtmpofjiokpeegaaGreatDoor

/- The laid tables and the data of this seat, as abstract values. -/
namespace Go.Proofs.YtmpofjiokpeegaaGreatDoor
open Go Go.Aw
variable {kr : KR}
theorem dty : DatumTy Tryz.prog 24 22 3 2 9 :=
  { und := ⟨_, _, _, _, Tryz.underlying24, rfl, rfl, rfl, rfl, rfl, rfl, rfl, rfl⟩, i := Tryz.underlying3, n := Tryz.underlying2, s := Tryz.underlying9, k := Tryz.underlying22, cD := by kernel_rfl, ci := by kernel_rfl, cn := by kernel_rfl, cs := by kernel_rfl, ck := by kernel_rfl }
theorem gShapes : Tryz.prog.globalNamed "pagoda/multi.shapes" = some 0 := by kernel_rfl
theorem gPrim : Tryz.prog.globalNamed "pagoda/prim.names" = some 1 := by kernel_rfl
theorem gRange : Tryz.prog.globalNamed "strconv.ErrRange" = some 3 := by kernel_rfl
theorem gSyntax : Tryz.prog.globalNamed "strconv.ErrSyntax" = some 2 := by kernel_rfl
theorem tShapes : (Tryz.prog.globals[0]?).map (·.type) = some 131 := by kernel_rfl
theorem tPrim : (Tryz.prog.globals[1]?).map (·.type) = some 180 := by kernel_rfl
theorem tPow : (Tryz.prog.globals[4]?).map (·.type) = some 237 := by kernel_rfl
theorem tRange : (Tryz.prog.globals[3]?).map (·.type) = some 153 := by kernel_rfl
theorem tSyntax : (Tryz.prog.globals[2]?).map (·.type) = some 153 := by kernel_rfl
theorem rows_pow : (Rows.laid_internal_strconv_uint64pow10 : DataW Unit) = Lib.tabData .u64 Lib.pow10Tab := by kernel_rfl
theorem rows_range : (Rows.laid_strconv_ErrRange : DataW Unit) = .iface "*errors.errorString" (.ptr (.agg [.lit (.string [118, 97, 108, 117, 101, 32, 111, 117, 116, 32, 111, 102, 32, 114, 97, 110, 103, 101])])) := rfl
theorem rows_syntax : (Rows.laid_strconv_ErrSyntax : DataW Unit) = .iface "*errors.errorString" (.ptr (.agg [.lit (.string [105, 110, 118, 97, 108, 105, 100, 32, 115, 121, 110, 116, 97, 120])])) := rfl
def shS : List (List UInt8 × (Nat × Nat)) := [([97, 112, 112], (0, 3)), ([102, 110], (2, 4)), ([105, 102], (0, 4)), ([108, 101, 116], (1, 4)), ([108, 105, 102, 116], (0, 2)), ([113, 117, 111, 116, 101], (0, 2)), ([114, 117, 110], (0, 3)), ([115, 97, 121], (0, 2))]
theorem rows_shapes : (Rows.laid_pagoda_multi_shapes : DataW Unit) = .map (shS.map datSh) := by kernel_rfl
theorem shS_perm : shS.Perm shapesB := List.isPerm_iff.1 (by kernel_rfl)
theorem err_row (u : TypeId) (hu : Tryz.prog.typeName? 3 u = some "*errors.errorString") : u = 244 :=
  typeName_ptr_named (nm := "errors.errorString") (by kernel_rfl) (by kernel_rfl) (by decide +kernel) u hu
set_option maxRecDepth 100000 in
/-- What the row's listed variables are when the call begins. -/
theorem of_laid {W : World} (h : laidMetH Tryz.prog [("math/bits.deBruijn32tab", Rows.laid_math_bits_deBruijn32tab), ("math/bits.deBruijn64tab", Rows.laid_math_bits_deBruijn64tab), ("internal/strconv.uint64pow10", Rows.laid_internal_strconv_uint64pow10), ("strconv.ErrRange", Rows.laid_strconv_ErrRange), ("strconv.ErrSyntax", Rows.laid_strconv_ErrSyntax), ("pagoda/prim.names", Rows.laid_pagoda_prim_names), ("pagoda/multi.shapes", Rows.laid_pagoda_multi_shapes)] W) :
    ∃ kr : ShO, ∀ n p, (n, p) ∈ (GL kr) → RP W.heap.size (fun _ _ => False) W p (.pointer (some ⟨n, 0, none⟩)) := by
  rw [MakeChecks.laidMetH_plain _ _ _ (by kernel_rfl)] at h
  obtain ⟨ps, ⟨_, _, _, _, _, q6, _, _, _, _, ⟨_, _, _, _, _, q5, _, _, _, _, ⟨g2, t2, cs2, f2, p2, q2, hg2, ht2, hv2, hd2, ⟨g3, t3, cs3, f3, p3, q3, hg3, ht3, hv3, hd3, ⟨g4, t4, cs4, f4, p4, q4, hg4, ht4, hv4, hd4, ⟨g1, t1, cs1, f1, p1, q1, hg1, ht1, hv1, hd1, ⟨g0, t0, cs0, f0, p0, q0, hg0, ht0, hv0, hd0, _, _⟩, _⟩, e4⟩, e3⟩, e2⟩, e5⟩, e6⟩, _, hz⟩ := h
  obtain rfl := Option.some.inj (gShapes.symm.trans hg0)
  obtain rfl := Option.some.inj (gPrim.symm.trans hg1)
  obtain rfl := Option.some.inj (gPow.symm.trans hg2)
  obtain rfl := Option.some.inj (gRange.symm.trans hg3)
  obtain rfl := Option.some.inj (gSyntax.symm.trans hg4)
  obtain rfl := Option.some.inj (tShapes.symm.trans ht0)
  obtain rfl := Option.some.inj (tPrim.symm.trans ht1)
  obtain rfl := Option.some.inj (tPow.symm.trans ht2)
  obtain rfl := Option.some.inj (tRange.symm.trans ht3)
  obtain rfl := Option.some.inj (tSyntax.symm.trans ht4)
  rw [rows_shapes] at hd0
  obtain ⟨b, kr, hc0, hrp0⟩ := open_shapes (S := fun _ _ => False) Tryz.underlying131 Tryz.underlying9 Tryz.underlying130 Tryz.underlying3 Tryz.underlying3 rfl rfl (by kernel_rfl) (by kernel_rfl) (by kernel_rfl) hd0 shS_perm
  obtain ⟨v, hc1, hone, hrp1⟩ := open_table (S := fun _ _ => False) (L := primNames) Tryz.underlying180 Tryz.underlying181 Tryz.underlying9 Tryz.underlying3 rfl rfl (by kernel_rfl) (by kernel_rfl) (by kernel_rfl) hd1
  rw [rows_pow] at hd2
  have hc2 := Lib.cells_of_tab Tryz.underlying237 Tryz.underlying193 (by kernel_rfl) (by kernel_rfl) hd2
  have hblk : ∃ e c, W.heap[(4 : Nat)]? = some (.cells (Lib.pow10Tab.map (Value.int .u64)).toArray e c) := by
    simp only [World.var?, gPow, Option.bind_some] at hv2
    split at hv2
    · rename_i cs e c hh
      cases hv2
      refine ⟨e, c, ?_⟩
      rw [hh, ← Array.toArray_toList (xs := cs2), hc2]
    · cases hv2
  obtain ⟨e2', c2, hblk⟩ := hblk
  have hcell0 : W.cell? ⟨0, 0, none⟩ = some (.map (some b)) := by
    have := World.var?_cell hg0 hv0 0
    rw [Array.eq_one_of_toList hc0] at this
    simpa using this
  have hcell1 : W.cell? ⟨1, 0, none⟩ = some v := by
    have := World.var?_cell hg1 hv1 0
    rw [Array.eq_one_of_toList hc1] at this
    simpa using this
  have hi3 : ∀ u v, cs3.toList = [.iface u v] → W.cell? ⟨3, 0, none⟩ = some (.iface u v) := fun u v hh => by
    have := World.var?_cell hg3 hv3 0
    rw [Array.eq_one_of_toList hh] at this
    simpa using this
  have hi4 : ∀ u v, cs4.toList = [.iface u v] → W.cell? ⟨2, 0, none⟩ = some (.iface u v) := fun u v hh => by
    have := World.var?_cell hg4 hv4 0
    rw [Array.eq_one_of_toList hh] at this
    simpa using this
  have hm3 : ∀ u v, cs3.toList = [.iface u v] → MemPlace.cell 3 0 ∈ ps := fun u v hh => by
    have hs : cs3.size = 1 := by rw [Array.eq_one_of_toList hh]; rfl
    rw [e6, e5, e2, e3, hs]
    simp [MemPlace.row]
  have hm4 : ∀ u v, cs4.toList = [.iface u v] → MemPlace.cell 2 0 ∈ ps := fun u v hh => by
    have hs : cs4.size = 1 := by rw [Array.eq_one_of_toList hh]; rfl
    rw [e6, e5, e2, e3, e4, hs]
    simp [MemPlace.row]
  rw [rows_range] at hd3
  rw [rows_syntax] at hd4
  have ok3 : ∀ u v, cs3.toList = [.iface u v] → Value.okWide Tryz.prog W .any 0 u v := by
    intro u v hh
    have hzz := hz 3 0 (hm3 u v hh)
    obtain ⟨_, hzy⟩ := hzz
    exact hzy u v (hi3 u v hh)
  obtain ⟨a3, s3, hc3, ha3, _⟩ := errorString_of_trod Tryz.underlying153 err_row Tryz.underlying244 Tryz.underlying246 rfl rfl Tryz.underlying9 (by kernel_rfl) (by kernel_rfl) hd3 ok3
  have ok4 : ∀ u v, cs4.toList = [.iface u v] → Value.okWide Tryz.prog W .any 0 u v := by
    intro u v hh
    have hzz := hz 2 0 (hm4 u v hh)
    obtain ⟨_, hzy⟩ := hzz
    exact hzy u v (hi4 u v hh)
  obtain ⟨a4, s4, hc4, ha4, _⟩ := errorString_of_trod Tryz.underlying153 err_row Tryz.underlying244 Tryz.underlying246 rfl rfl Tryz.underlying9 (by kernel_rfl) (by kernel_rfl) hd4 ok4
  have hcell3 := hi3 _ _ hc3
  have hcell4 := hi4 _ _ hc4
  refine ⟨kr, fun n p hm => ?_⟩
  simp only [GL, List.cons_append, List.nil_append, List.mem_cons, Prod.mk.injEq, List.not_mem_nil, or_false] at hm
  rcases hm with ⟨rfl, rfl⟩ | ⟨rfl, rfl⟩ | ⟨rfl, rfl⟩ | ⟨rfl, rfl⟩ | ⟨rfl, rfl⟩
  · exact rp_var (cell_lt hcell0) hcell0 rfl hrp0
  · rw [primV_of] at hrp1
    exact rp_var (cell_lt hcell1) hcell1 hone hrp1
  · refine RP.tab ?_ hblk
    by_cases hlt : 4 < W.heap.size
    · exact hlt
    · rw [Array.getElem?_eq_none (by show W.heap.size ≤ _; omega)] at hblk; cases hblk
  all_goals first | exact rp_error (cell_lt hcell3) hcell3 ha3 | exact rp_error (cell_lt hcell4) hcell4 ha4

end Go.Proofs.YtmpofjiokpeegaaGreatDoor

/- MultiChecks: for every datum the law returns true, and it reads as it did. -/
namespace Go.Proofs.YtmpofjiokpeegaaGreatDoor
open Go Go.Aw
variable {kr : KR}
open Go.ChangeShapes Go.WideShapes Go.ChangeAt Go.WideMaps Go.WideElems Go.RowKit
theorem own : ownKnob Tryz.prog.godebug = none := by kernel_rfl
theorem laidOut : laidOutB Tryz.prog = true := by kernel_rfl
theorem door_met (os : Os) (args : Array Value) : laidMetH Tryz.prog Rows.multiChecksRow.laid ((World.doorLaid Tryz.prog 136 os).forCall (fun _ _ => 0) ⟨#[], args, []⟩).memory :=
  laidMetH_of_parts3 (fuel := 8) (laidMet_of_run' 8 (by kernel_rfl) (by kernel_rfl)) (by kernel_rfl) (by kernel_rfl)
/-- The call, as the machine makes it. -/
theorem multiChecks_calls {W : World} (hL : laidMetH Tryz.prog Rows.multiChecksRow.laid W) {v0 : Value} {d0 : D} (h0 : RP W.heap.size (fun _ _ => False) W (enc d0) v0) :
    Calls Tryz.prog 4 #[v0] W fun r W' => r = .returned (.bool true) ∧ Below W.heap.size W W' := by
  obtain ⟨kr, hg⟩ := of_laid hL
  refine (c_MultiChecks (kr := kr) d0 ⟨(GL kr), [], []⟩ rfl (g0 W) W [v0] (inv0 hg) rfl (fun i x v hx hv => ?_)).mono ?_
  · match i with
    | 0 => simp at hx hv; subst hx hv; exact .pv h0
    | i + 1 => simp at hx
  · rintro r W' ⟨v, x, σ', g', rfl, ⟨rfl, rfl⟩, _, hext, hra⟩
    rw [hra.pv_inv.bool_inv]
    exact ⟨rfl, below_of hext⟩
abbrev zeroDatum : Value := .agg #[.int .i64 0, .int .i64 0, .string ⟨#[]⟩, .slice none 0 0]
set_option maxRecDepth 100000 in
theorem multiChecks_lifted (os : Os) (started : os.Started) (H : Type) (enc' : TypeId × Value → H) :
    ReturnsInHanded {} Tryz.checked os 4 .any (fun w args => (Rows.multiChecksSpec.pre enc' Tryz.prog Tryz.f4 [] false w args ∧ laidMetH Tryz.prog Rows.multiChecksRow.laid w) ∧ sizedMet enc' Tryz.prog Tryz.f4 (OpenSpec.ofChange Rows.multiChecksSpec) false w args)
      (Rows.multiChecksSpec.post enc' Tryz.prog Tryz.f4 false true false false) := by
  refine returnsInHanded_of_change_and (C := Tryz.checked) (X := fun w _ => laidMetH Tryz.prog Rows.multiChecksRow.laid w) (fun _ _ _ hh h => h.of_heap hh) own started (by kernel_rfl) Tryz.func4
    (ChangeSpec.witness_shaped (enc := enc') (C := Tryz.checked) (os := os) (X := fun w _ => laidMetH Tryz.prog Rows.multiChecksRow.laid w) false (World.doorLaid Tryz.prog 136 os) #[zeroDatum] 8 rfl (World.shaped_of_RefB (by kernel_rfl) (by kernel_rfl)) (by kernel_rfl) (by kernel_rfl) (by kernel_rfl) (door_met os _)) ?_
  intro W base args ds gs before hval0 hW _ _ hL _
  have hW' := hW
  obtain ⟨p, q, hA0, hV, rfl, hfz, hnd⟩ := hW
  have hA : DataW.TrodAll enc' Tryz.prog W 0 (fun _ => true) true Tryz.f4.params.toList args.toList ds p := hA0
  rw [Tryz.params4] at hA
  obtain ⟨v0, x0, rfl, rfl, h0⟩ := trodAll_one hA
  obtain ⟨rfl, rfl⟩ := trodVars_none hV
  clear hA0
  simp only [List.append_nil] at hW'
  obtain ⟨n0, t0⟩ := id h0
  obtain ⟨e0, u0, hc0, ho0, hr0⟩ := open_datum (S := fun _ _ => False) dty n0 _ _ t0
  have hv0 := open_agg hc0
  clear hval0
  have hlt := hW'.lt
  refine (multiChecks_calls hL (hv0 ▸ rp_datum ho0 hr0)).mono fun r W' ⟨hr, hb⟩ => ?_
  subst hr
  exact ⟨_, rfl, post_of_below (pa := p) (pv := []) hW' (fun _ _ _ => trodAll_mk1 (shut_bool Tryz.underlying4 true))
    (fun sp hs => trodAll_mk1 (Trod_stays laidOut (by kernel_rfl) (of_decide_eq_true (by kernel_rfl)) h0 (fun x hx => hb.same (hlt x (by simp [hx]))) (fun x hx => hs x (by simp [hx]))))
    (fun _ _ => rfl) (by simp) hb (ok_one (by kernel_rfl) rfl (okWide_bool_mk Tryz.underlying4 _))⟩
theorem multiChecks_holds : Rows.MultiChecksSaid :=
  OpenClaim.holds_of_wide 4 Tryz.f4 rfl rfl rfl rfl rfl rfl rfl ⟨rfl, rfl, rfl, rfl, rfl⟩ rfl rfl rfl rfl rfl (by kernel_rfl) Tryz.func4 (by kernel_rfl)
    (of_decide_eq_true (by kernel_rfl)) (by unfold Func.isWrapper; rw [if_neg (by decide +kernel)]; exact ⟨rfl, rfl⟩)
    (fun os started H enc _ => multiChecks_lifted os started H enc)
/-- The tied card. -/
theorem multiChecksCard_holds : Rows.MultiChecksCardSaid :=
  Claim7.holds_tied_plain_at .later [] [.data, .data, .data, .sentinel, .sentinel, .data, .mapped] true (true, "276281381aeeddcbf331b1d3fd2842c84a196ad6d3eeb788474b70cc62e3ca80") true
    multiChecks_holds (fun _ h => by cases h) (by kernel_rfl) (fun _ h => by cases h) multiChecks_row_tie rfl ⟨rfl, rfl⟩ (by kernel_rfl) rfl
    (fun f fn hf hfn => by
      obtain rfl : f = 4 := Option.some.inj ((show Tryz.prog.funcNamed "pagoda/pagodalaw25.MultiChecks" = some 4 by kernel_rfl).symm.trans hf) |>.symm
      obtain rfl : fn = Tryz.f4 := (Option.some.inj (Tryz.func4.symm.trans hfn)).symm
      exact ⟨by kernel_rfl, fun j t ht => by
        rw [Tryz.params4] at ht
        rcases j with _ | j
        · obtain rfl : 24 = t := by simpa using ht
          exact (show Tryz.prog.wantsStandIn 24 = false by kernel_rfl)
        · simp at ht⟩)
    (by kernel_rfl)
end Go.Proofs.YtmpofjiokpeegaaGreatDoor
