/- Part of the proof that the statement holds for every input that its row lets in: the contracts of the program's functions, printed by a program out of annotations; the statement itself stands at the end of the last part. -/
import Derived.Test.YtmpofjiokpeegaaGreatDoorZS2
import Derived.Test.YtmpofjiokpeegaaGreatDoorZA4
import Derived.Test.YtmpofjiokpeegaaGreatDoorRows
import Derived.Test.YtmpofjiokpeegaaGreatDoorCards
import Derived.Test.YtmpofjiokpeegaaGreatDoorTie
set_option linter.unusedSimpArgs false
set_option linter.unusedVariables false
/- MultiPlain. -/
namespace Go.Proofs.YtmpofjiokpeegaaGreatDoor
open Go Go.Aw
variable {kr : KR}
theorem plain_none {x : D} (h : (mplain x).2 ≠ 0) : (mplain x).1 = dnone := by
  unfold mplain at h ⊢
  split
  · rfl
  · rename_i h1
    rw [if_neg h1] at h
    split
    · rfl
    · rename_i h2
      rw [if_neg h2] at h
      split
      · rfl
      · rename_i h3; rw [if_neg h3] at h; exact absurd rfl h

set_option maxHeartbeats 8000000 in
theorem c_MultiPlain (s t u : D) (σ : Store) (hσ : σ = ⟨(GL kr), [], []⟩) : PurAt Tryz.prog σ 8 [.pv (enc s), .pv (enc t), .pv (enc u)] (.pv (.bool true)) := by
 have hgl : σ.gl = (GL kr) := by rw [hσ]
 refine purAt_of ?_
 refine acalls_of tyOk Tryz.func8 rfl (by simp [Tryz.f8]) ?_
 refine awp_seq (aR (by simp [go_sem, enc_none] <;> rfl) ?_)
 refine awp_seq (awp_regDA3 tyOk tySz 6 (by kernel_rfl) rfl rfl rfl (by decide) (by decide) (by decide) ?_)
 refine ul_run 1 (by simp [go_sem, enc_none] <;> rfl) ?_
 refine ul_callW (by simp [go_sem]) rfl rfl rfl rfl (by simp [go_sem, enc_none] <;> rfl) call17 (c_Cut25 s σ hgl) (by simp [go_sem, enc_none] <;> rfl) (by simp [go_sem, enc_none]) rfl rfl ⟨_, _, dnone, rfl, rfl, by simp [dnone, D.size, D.sizes]⟩ ?_
 rintro r σ1 ⟨x, rfl, hs1, hx⟩
 rw [hs1]
 clear hs1 σ1
 refine ul_run 1 (by simp [go_sem, enc_none] <;> rfl) ?_
 refine ul_callW (by simp [go_sem]) rfl rfl rfl rfl (by simp [go_sem, enc_none] <;> rfl) call17 (c_Cut25 t σ hgl) (by simp [go_sem, enc_none] <;> rfl) (by simp [go_sem, enc_none]) rfl rfl ⟨_, _, dnone, rfl, rfl, by simp [dnone, D.size, D.sizes]⟩ ?_
 rintro r σ1 ⟨y, rfl, hs1, hy⟩
 rw [hs1]
 clear hs1 σ1
 refine ul_run 1 (by simp [go_sem, enc_none] <;> rfl) ?_
 refine ul_callW (by simp [go_sem]) rfl rfl rfl rfl (by simp [go_sem, enc_none] <;> rfl) call17 (c_Cut25 u σ hgl) (by simp [go_sem, enc_none] <;> rfl) (by simp [go_sem, enc_none]) rfl rfl ⟨_, _, dnone, rfl, rfl, by simp [dnone, D.size, D.sizes]⟩ ?_
 rintro r σ1 ⟨z, rfl, hs1, hz⟩
 rw [hs1]
 clear hs1 σ1
 obtain ⟨p, hp⟩ : ∃ v0, v0 = (mplain x).1 := ⟨_, rfl⟩
 obtain ⟨g, hg⟩ : ∃ v0, v0 = (mplain x).2 := ⟨_, rfl⟩
 have hPx : Pur Tryz.prog (GL kr) 36 [.pv (enc x)] (.tuple [.pv (enc p), .pv (.int .i64 g)]) := by rw [hp, hg]; exact c_mPlain x (by omega)
 have hps : p.size ≤ 1000000000 := by rw [hp]; exact mplain_size (by omega)
 have hdp := deq_refl p
 obtain ⟨n0, hn0⟩ : ∃ n0 : Nat, n0 = 0 := ⟨_, rfl⟩
 have hc0 : (0 : Int) = ((n0 : Nat) : Int) := by rw [hn0]; rfl
 obtain ⟨i1, hi1⟩ : ∃ v0, v0 = (msame x y).1 := ⟨_, rfl⟩
 obtain ⟨e1, he1⟩ : ∃ v0, v0 = (msame x y).2 := ⟨_, rfl⟩
 have hS1 : Pur Tryz.prog (GL kr) 37 [.pv (enc x), .pv (enc y)] (.tuple [.pv (.bool i1), .pv (.int .i64 e1)]) := by rw [hi1, he1]; exact c_mSame x y (by omega) (by omega)
 obtain ⟨i2, hi2⟩ : ∃ v0, v0 = (msame y x).1 := ⟨_, rfl⟩
 obtain ⟨e2, he2⟩ : ∃ v0, v0 = (msame y x).2 := ⟨_, rfl⟩
 have hS2 : Pur Tryz.prog (GL kr) 37 [.pv (enc y), .pv (enc x)] (.tuple [.pv (.bool i2), .pv (.int .i64 e2)]) := by rw [hi2, he2]; exact c_mSame y x (by omega) (by omega)
 obtain ⟨i3, hi3⟩ : ∃ v0, v0 = (msame y z).1 := ⟨_, rfl⟩
 obtain ⟨e3, he3⟩ : ∃ v0, v0 = (msame y z).2 := ⟨_, rfl⟩
 have hS3 : Pur Tryz.prog (GL kr) 37 [.pv (enc y), .pv (enc z)] (.tuple [.pv (.bool i3), .pv (.int .i64 e3)]) := by rw [hi3, he3]; exact c_mSame y z (by omega) (by omega)
 obtain ⟨i4, hi4⟩ : ∃ v0, v0 = (msame x z).1 := ⟨_, rfl⟩
 obtain ⟨e4, he4⟩ : ∃ v0, v0 = (msame x z).2 := ⟨_, rfl⟩
 have hS4 : Pur Tryz.prog (GL kr) 37 [.pv (enc x), .pv (enc z)] (.tuple [.pv (.bool i4), .pv (.int .i64 e4)]) := by rw [hi4, he4]; exact c_mSame x z (by omega) (by omega)
 refine ul_nil ?_
 intro us hus
 simp only [List.mem_cons, List.not_mem_nil, or_false] at hus
 rcases hus with rfl | rfl | rfl | rfl | rfl | rfl
 ·refine ul_run 3 (by simp [go_sem, enc_none] <;> rfl) ?_
  refine ul_nil ?_
  refine aL 3 (by simp [go_sem, enc_none] <;> rfl) ?_
  refine al_nil ?_
  refine awp_seq (awp_reg ?_)
  refine aL 1 (by simp [go_sem, enc_none] <;> rfl) ?_
  refine aF call36 ((hPx) _ (by exact hgl)) (by simp [go_sem, enc_none] <;> rfl) (by simp [go_sem, enc_none]) ?_
  refine aL 6 (by simp [go_sem, enc_none] <;> rfl) ?_
  refine al_nil ?_
  refine awp_seq (awp_seq (aR (by simp [go_sem, enc_none] <;> rfl) ?_))
  refine awp_cond (by first | rfl | (simp [go_sem, enc_none] <;> rfl)) (fun h20 => ?_) (fun h20 => ?_)
  ·have hgz : g ≠ 0 := by simpa using h20
   have hpd : deq p dnone = true := by rw [hp, plain_none (by rw [← hg]; exact hgz)]; exact deq_refl _
   refine awp_seq (awp_reg ?_)
   refine aL 2 (by simp [go_sem, enc_none, hpd] <;> rfl) ?_
   refine aF call35 ((c_Same p hps dnone) _ (by exact hgl)) (by simp [go_sem, enc_none, hpd] <;> rfl) (by simp [go_sem, enc_none, hpd]) ?_
   refine aL 1 (by simp [go_sem, enc_none, hpd] <;> rfl) ?_
   refine al_splitT 42 (by first | rfl | (simp [go_sem, enc_none, hpd] <;> rfl)) (fun h21 => ?_) (fun h21 => ?_)
   ·refine al_fnG 42 true true (by simp [go_sem]) rfl (by simp [go_sem]) rfl rfl (by simp [go_sem, enc_none, hpd] <;> rfl) call22 (c_alive σ hσ) (by simp [go_sem, enc_none, hpd] <;> rfl) (by simp [go_sem, enc_none, hpd]) rfl rfl ?_
    refine aL 2 (by simp [go_sem, enc_none, hpd] <;> rfl) ?_
    refine al_nil ?_
    refine awp_ret ?_
    refine then_ret ?_
    refine ends_ret (by simp [go_sem, enc_none, hpd] <;> rfl) (by simp [go_sem]) ?_
    exact ⟨by simp [go_sem], by simp [go_sem]⟩
   ·first | (cases h21; done) | (simp at h21; done)
  ·have hg0 : g = 0 := by simpa using h20
   have hx0 : (mplain x).2 = 0 := by rw [← hg]; exact hg0
   have hzx := plain_zero hx0
   have hgd := mcheck_good hzx
   have hpp := plain_plain (x := x) (by omega) hx0
   rw [← hp] at hpp
   have hpsz : p.size ≤ x.size := by rw [hp, plain_fst hzx hx0]; exact mren_size hgd []
   have hPp : Pur Tryz.prog (GL kr) 36 [.pv (enc p)] (.tuple [.pv (enc p), .pv (.int .i64 0)]) := by have h := c_mPlain (kr := kr) p (by omega); rw [hpp] at h; exact h
   obtain ⟨r, hr⟩ : ∃ v0, v0 = (brn x [] [] 0).1 := ⟨_, rfl⟩
   obtain ⟨m, hm⟩ : ∃ v0, v0 = (brn x [] [] 0).2 := ⟨_, rfl⟩
   have hRn : Pur Tryz.prog (GL kr) 39 [.pv (enc x), .pv (.slice []), .pv (.slice []), .pv (.int .i64 0)] (.tuple [.pv (enc r), .pv (.int .i64 ((m : Nat) : Int))]) := by rw [hr, hm]; exact c_renamedL x hgd [] [] 0 rfl (by simp; omega)
   have hrs : r.size ≤ x.size := by rw [hr]; exact ((brn_al hgd [] [] 0 rfl (fun y hy => by simp at hy) (by omega)).good (fun z hz => by obtain ⟨i, hi, rfl⟩ := hz; exact dotB_ok (by decide) (by omega) (by omega)) hgd (fun z hz => by simp at hz)).2.1
   obtain ⟨ir, hir⟩ : ∃ v0, v0 = (msame x r).1 := ⟨_, rfl⟩
   obtain ⟨er, her⟩ : ∃ v0, v0 = (msame x r).2 := ⟨_, rfl⟩
   have hSr : Pur Tryz.prog (GL kr) 37 [.pv (enc x), .pv (enc r)] (.tuple [.pv (.bool ir), .pv (.int .i64 er)]) := by rw [hir, her]; exact c_mSame x r (by omega) (by omega)
   refine awp_skip ?_
   refine awp_seq (awp_reg ?_)
   refine aL 1 (by simp [go_sem, enc_none, hg0, hdp] <;> rfl) ?_
   refine aF call36 ((hPp) _ (by exact hgl)) (by simp [go_sem, enc_none, hg0, hdp] <;> rfl) (by simp [go_sem, enc_none, hg0, hdp]) ?_
   refine aL 6 (by simp [go_sem, enc_none, hg0, hdp] <;> rfl) ?_
   refine al_nil ?_
   refine awp_seq (awp_seq (awp_reg ?_))
   refine aL 3 (by simp [go_sem, enc_none, hg0, hdp] <;> rfl) ?_
   refine al_splitT 52 (by first | rfl | (simp [go_sem, enc_none, hg0, hdp] <;> rfl)) (fun h22 => ?_) (fun h22 => ?_)
   ·first | (cases h22; done) | (simp at h22; done)
   ·refine aLG 2 52 false (by simp [go_sem, enc_none, hg0, hdp] <;> rfl) ?_
    refine al_fnG 52 false false (by simp [go_sem]) rfl (by simp [go_sem]) rfl rfl (by simp [go_sem, enc_none, hg0, hdp] <;> rfl) call35 ((c_Same p hps p) _ (by exact hgl)) (by simp [go_sem, enc_none, hg0, hdp] <;> rfl) (by simp [go_sem, enc_none, hg0, hdp]) rfl rfl ?_
    refine aLG 1 52 false (by simp [go_sem, enc_none, hg0, hdp] <;> rfl) ?_
    refine aL 1 (by simp [go_sem, enc_none, hg0, hdp] <;> rfl) ?_
    refine al_nil ?_
    refine awp_cond (by first | rfl | (simp [go_sem, enc_none, hg0, hdp] <;> rfl)) (fun h23 => ?_) (fun h23 => ?_)
    ·first | (cases h23; done) | (simp at h23; done)
    ·refine awp_skip ?_
     refine awp_seq (awp_reg ?_)
     refine aL 1 (by simp [go_sem, enc_none, hg0, hdp] <;> rfl) ?_
     refine aF call39 ((hRn) _ (by exact hgl)) (by simp [go_sem, enc_none, hg0, hdp] <;> rfl) (by simp [go_sem, enc_none, hg0, hdp]) ?_
     refine aL 6 (by simp [go_sem, enc_none, hg0, hdp] <;> rfl) ?_
     refine al_nil ?_
     refine awp_seq (awp_reg ?_)
     refine aL 2 (by simp [go_sem, enc_none, hg0, hdp] <;> rfl) ?_
     refine aF call37 ((hSr) _ (by exact hgl)) (by simp [go_sem, enc_none, hg0, hdp] <;> rfl) (by simp [go_sem, enc_none, hg0, hdp]) ?_
     refine aL 5 (by simp [go_sem, enc_none, hg0, hdp] <;> rfl) ?_
     refine al_nil ?_
     refine awp_seq (awp_seq (awp_reg ?_))
     refine aL 1 (by simp [go_sem, enc_none, hg0, hdp] <;> rfl) ?_
     refine aF call40 ((c_names x hgd (by omega)) _ (by exact hgl)) (by simp [go_sem, enc_none, hg0, hdp] <;> rfl) (by simp [go_sem, enc_none, hg0, hdp]) ?_
     refine aL 2 (by simp [go_sem, enc_none, hg0, hdp] <;> rfl) ?_
     refine al_splitT 72 (by first | rfl | (simp [go_sem, enc_none, hg0, hdp] <;> rfl)) (fun h24 => ?_) (fun h24 => ?_)
     ·have hnn : mnames x = false := by simpa using h24
      have hsr := same_ren (x := x) (by omega) hx0 hnn
      rw [← hr] at hsr
      have hir1 : ir = true := by rw [hir, hsr]
      have her1 : er = 0 := by rw [her, hsr]
      refine aLG 3 72 true (by simp [go_sem, enc_none, hg0, hdp, hir1, her1] <;> rfl) ?_
      refine al_splitT 75 (by first | rfl | (simp [go_sem, enc_none, hg0, hdp, hir1, her1] <;> rfl)) (fun h25 => ?_) (fun h25 => ?_)
      ·first | (cases h25; done) | (simp at h25; done)
      ·refine aLG 2 75 false (by simp [go_sem, enc_none, hg0, hdp, hir1, her1] <;> rfl) ?_
       refine aLG 1 72 true (by simp [go_sem, enc_none, hg0, hdp, hir1, her1] <;> rfl) ?_
       refine aL 1 (by simp [go_sem, enc_none, hg0, hdp, hir1, her1] <;> rfl) ?_
       refine al_nil ?_
       refine awp_cond (by first | rfl | (simp [go_sem, enc_none, hg0, hdp, hir1, her1] <;> rfl)) (fun h26 => ?_) (fun h26 => ?_)
       ·first | (cases h26; done) | (simp at h26; done)
       ·refine awp_skip ?_
        refine awp_seq (awp_reg ?_)
        refine aL 2 (by simp [go_sem, enc_none, hg0, hdp, hir1, her1] <;> rfl) ?_
        refine aF call37 ((hS1) _ (by exact hgl)) (by simp [go_sem, enc_none, hg0, hdp, hir1, her1] <;> rfl) (by simp [go_sem, enc_none, hg0, hdp, hir1, her1]) ?_
        refine aL 5 (by simp [go_sem, enc_none, hg0, hdp, hir1, her1] <;> rfl) ?_
        refine al_nil ?_
        refine awp_seq (awp_reg ?_)
        refine aL 2 (by simp [go_sem, enc_none, hg0, hdp, hir1, her1] <;> rfl) ?_
        refine aF call37 ((hS2) _ (by exact hgl)) (by simp [go_sem, enc_none, hg0, hdp, hir1, her1] <;> rfl) (by simp [go_sem, enc_none, hg0, hdp, hir1, her1]) ?_
        refine aL 5 (by simp [go_sem, enc_none, hg0, hdp, hir1, her1] <;> rfl) ?_
        refine al_nil ?_
        refine awp_seq (awp_reg ?_)
        refine aL 2 (by simp [go_sem, enc_none, hg0, hdp, hir1, her1] <;> rfl) ?_
        refine aF call37 ((hS3) _ (by exact hgl)) (by simp [go_sem, enc_none, hg0, hdp, hir1, her1] <;> rfl) (by simp [go_sem, enc_none, hg0, hdp, hir1, her1]) ?_
        refine aL 5 (by simp [go_sem, enc_none, hg0, hdp, hir1, her1] <;> rfl) ?_
        refine al_nil ?_
        refine awp_seq (awp_reg ?_)
        refine aL 2 (by simp [go_sem, enc_none, hg0, hdp, hir1, her1] <;> rfl) ?_
        refine aF call37 ((hS4) _ (by exact hgl)) (by simp [go_sem, enc_none, hg0, hdp, hir1, her1] <;> rfl) (by simp [go_sem, enc_none, hg0, hdp, hir1, her1]) ?_
        refine aL 5 (by simp [go_sem, enc_none, hg0, hdp, hir1, her1] <;> rfl) ?_
        refine al_nil ?_
        refine awp_seq (awp_seq (awp_reg ?_))
        refine aL 3 (by simp [go_sem, enc_none, hg0, hdp, hir1, her1] <;> rfl) ?_
        refine al_splitT 106 (by first | rfl | (simp [go_sem, enc_none, hg0, hdp, hir1, her1] <;> rfl)) (fun h27 => ?_) (fun h27 => ?_)
        ·have he10 : e1 = 0 := by simpa using h27
         obtain ⟨hsy1, hsy2⟩ := msame_sym (x := x) (y := y) (by rw [← he1]; exact he10)
         have he20 : e2 = 0 := by rw [he2]; exact hsy1
         have hi12 : i2 = i1 := by rw [hi1, hi2]; exact hsy2.symm
         refine aLG 3 106 true (by simp [go_sem, enc_none, hg0, hdp, hir1, her1, he20, hi12, he10] <;> rfl) ?_
         refine al_splitT 109 (by first | rfl | (simp [go_sem, enc_none, hg0, hdp, hir1, her1, he20, hi12, he10] <;> rfl)) (fun h28 => ?_) (fun h28 => ?_)
         ·first | (cases h28; done) | (simp at h28; done)
         ·refine aLG 3 109 false (by simp [go_sem, enc_none, hg0, hdp, hir1, her1, he20, hi12, he10] <;> rfl) ?_
          refine aLG 1 106 true (by simp [go_sem, enc_none, hg0, hdp, hir1, her1, he20, hi12, he10] <;> rfl) ?_
          refine aL 1 (by simp [go_sem, enc_none, hg0, hdp, hir1, her1, he20, hi12, he10] <;> rfl) ?_
          refine al_nil ?_
          refine awp_cond (by first | rfl | (simp [go_sem, enc_none, hg0, hdp, hir1, her1, he20, hi12, he10] <;> rfl)) (fun h29 => ?_) (fun h29 => ?_)
          ·first | (cases h29; done) | (simp at h29; done)
          ·refine awp_skip ?_
           refine awp_seq (awp_reg ?_)
           refine aL 3 (by simp [go_sem, enc_none, hg0, hdp, hir1, her1, he20, hi12, he10] <;> rfl) ?_
           refine al_splitT 117 (by first | rfl | (simp [go_sem, enc_none, hg0, hdp, hir1, her1, he20, hi12, he10] <;> rfl)) (fun h30 => ?_) (fun h30 => ?_)
           ·first | (cases h30; done) | (simp at h30; done) | exact absurd (by simpa using h30) he1z
           ·have w1 : e1 = 0 := he10
            refine aLG 2 117 false (by simp [go_sem, enc_none, hg0, hdp, hir1, her1, he20, hi12, he10] <;> rfl) ?_
            refine aL 2 (by simp [go_sem, enc_none, hg0, hdp, hir1, her1, he20, hi12, he10] <;> rfl) ?_
            refine al_splitT 121 (by first | rfl | (simp [go_sem, enc_none, hg0, hdp, hir1, her1, he20, hi12, he10] <;> rfl)) (fun h31 => ?_) (fun h31 => ?_)
            ·refine aK 2 121 false ?_
             refine aL 2 (by simp [go_sem, enc_none, hg0, hdp, hir1, her1, he20, hi12, he10] <;> rfl) ?_
             refine aK 2 125 false ?_
             refine aL 2 (by simp [go_sem, enc_none, hg0, hdp, hir1, her1, he20, hi12, he10] <;> rfl) ?_
             refine aK 3 129 false ?_
             refine aK 1 132 true ?_
             refine aK 1 129 false ?_
             refine aL 2 (by simp [go_sem, enc_none, hg0, hdp, hir1, her1, he20, hi12, he10] <;> rfl) ?_
             refine al_fnG 136 true true (by simp [go_sem]) rfl (by simp [go_sem]) rfl rfl (by simp [go_sem, enc_none, hg0, hdp, hir1, her1, he20, hi12, he10] <;> rfl) call22 (c_alive σ hσ) (by simp [go_sem, enc_none, hg0, hdp, hir1, her1, he20, hi12, he10] <;> rfl) (by simp [go_sem, enc_none, hg0, hdp, hir1, her1, he20, hi12, he10]) rfl rfl ?_
             refine aL 2 (by simp [go_sem, enc_none, hg0, hdp, hir1, her1, he20, hi12, he10] <;> rfl) ?_
             refine al_nil ?_
             refine awp_ret ?_
             refine ends_ret (by simp [go_sem, enc_none, hg0, hdp, hir1, her1, he20, hi12, he10] <;> rfl) (by simp [go_sem]) ?_
             exact ⟨by simp [go_sem], by simp [go_sem]⟩
            ·have w2 : e3 = 0 := by simpa using h31
             refine aLG 2 121 false (by simp [go_sem, enc_none, hg0, hdp, hir1, her1, he20, hi12, he10] <;> rfl) ?_
             refine aL 2 (by simp [go_sem, enc_none, hg0, hdp, hir1, her1, he20, hi12, he10] <;> rfl) ?_
             refine al_splitT 125 (by first | rfl | (simp [go_sem, enc_none, hg0, hdp, hir1, her1, he20, hi12, he10] <;> rfl)) (fun h32 => ?_) (fun h32 => ?_)
             ·refine aK 2 125 false ?_
              refine aL 2 (by simp [go_sem, enc_none, hg0, hdp, hir1, her1, he20, hi12, he10] <;> rfl) ?_
              refine aK 3 129 false ?_
              refine aK 1 132 true ?_
              refine aK 1 129 false ?_
              refine aL 2 (by simp [go_sem, enc_none, hg0, hdp, hir1, her1, he20, hi12, he10] <;> rfl) ?_
              refine al_fnG 136 true true (by simp [go_sem]) rfl (by simp [go_sem]) rfl rfl (by simp [go_sem, enc_none, hg0, hdp, hir1, her1, he20, hi12, he10] <;> rfl) call22 (c_alive σ hσ) (by simp [go_sem, enc_none, hg0, hdp, hir1, her1, he20, hi12, he10] <;> rfl) (by simp [go_sem, enc_none, hg0, hdp, hir1, her1, he20, hi12, he10]) rfl rfl ?_
              refine aL 2 (by simp [go_sem, enc_none, hg0, hdp, hir1, her1, he20, hi12, he10] <;> rfl) ?_
              refine al_nil ?_
              refine awp_ret ?_
              refine ends_ret (by simp [go_sem, enc_none, hg0, hdp, hir1, her1, he20, hi12, he10] <;> rfl) (by simp [go_sem]) ?_
              exact ⟨by simp [go_sem], by simp [go_sem]⟩
             ·have w3 : i1 = true := by simpa using h32
              refine aLG 2 125 false (by simp [go_sem, enc_none, hg0, hdp, hir1, her1, he20, hi12, he10] <;> rfl) ?_
              refine aL 2 (by simp [go_sem, enc_none, hg0, hdp, hir1, her1, he20, hi12, he10] <;> rfl) ?_
              refine al_splitT 129 (by first | rfl | (simp [go_sem, enc_none, hg0, hdp, hir1, her1, he20, hi12, he10] <;> rfl)) (fun h33 => ?_) (fun h33 => ?_)
              ·refine aK 3 129 false ?_
               refine aK 1 132 true ?_
               refine aK 1 129 false ?_
               refine aL 2 (by simp [go_sem, enc_none, hg0, hdp, hir1, her1, he20, hi12, he10] <;> rfl) ?_
               refine al_fnG 136 true true (by simp [go_sem]) rfl (by simp [go_sem]) rfl rfl (by simp [go_sem, enc_none, hg0, hdp, hir1, her1, he20, hi12, he10] <;> rfl) call22 (c_alive σ hσ) (by simp [go_sem, enc_none, hg0, hdp, hir1, her1, he20, hi12, he10] <;> rfl) (by simp [go_sem, enc_none, hg0, hdp, hir1, her1, he20, hi12, he10]) rfl rfl ?_
               refine aL 2 (by simp [go_sem, enc_none, hg0, hdp, hir1, her1, he20, hi12, he10] <;> rfl) ?_
               refine al_nil ?_
               refine awp_ret ?_
               refine ends_ret (by simp [go_sem, enc_none, hg0, hdp, hir1, her1, he20, hi12, he10] <;> rfl) (by simp [go_sem]) ?_
               exact ⟨by simp [go_sem], by simp [go_sem]⟩
              ·have w4 : i3 = true := by simpa using h33
               obtain ⟨htr1, htr2⟩ := msame_trans (x := x) (y := y) (z := z) (by rw [← he1]; exact w1) (by rw [← he3]; exact w2) (by rw [← hi1]; exact w3) (by rw [← hi3]; exact w4)
               have he40 : e4 = 0 := by rw [he4]; exact htr1
               have hi41 : i4 = true := by rw [hi4]; exact htr2
               refine aLG 3 129 false (by simp [go_sem, enc_none, hg0, hdp, hir1, her1, he20, hi12, he10, he40, hi41] <;> rfl) ?_
               refine al_splitT 132 (by first | rfl | (simp [go_sem, enc_none, hg0, hdp, hir1, her1, he20, hi12, he10, he40, hi41] <;> rfl)) (fun h34 => ?_) (fun h34 => ?_)
               ·refine aLG 1 132 true (by simp [go_sem, enc_none, hg0, hdp, hir1, her1, he20, hi12, he10, he40, hi41] <;> rfl) ?_
                refine aLG 1 129 false (by simp [go_sem, enc_none, hg0, hdp, hir1, her1, he20, hi12, he10, he40, hi41] <;> rfl) ?_
                refine aL 2 (by simp [go_sem, enc_none, hg0, hdp, hir1, her1, he20, hi12, he10, he40, hi41] <;> rfl) ?_
                refine al_splitT 136 (by first | rfl | (simp [go_sem, enc_none, hg0, hdp, hir1, her1, he20, hi12, he10, he40, hi41] <;> rfl)) (fun h35 => ?_) (fun h35 => ?_)
                ·refine al_fnG 136 true true (by simp [go_sem]) rfl (by simp [go_sem]) rfl rfl (by simp [go_sem, enc_none, hg0, hdp, hir1, her1, he20, hi12, he10, he40, hi41] <;> rfl) call22 (c_alive σ hσ) (by simp [go_sem, enc_none, hg0, hdp, hir1, her1, he20, hi12, he10, he40, hi41] <;> rfl) (by simp [go_sem, enc_none, hg0, hdp, hir1, her1, he20, hi12, he10, he40, hi41]) rfl rfl ?_
                 refine aL 2 (by simp [go_sem, enc_none, hg0, hdp, hir1, her1, he20, hi12, he10, he40, hi41] <;> rfl) ?_
                 refine al_nil ?_
                 refine awp_ret ?_
                 refine ends_ret (by simp [go_sem, enc_none, hg0, hdp, hir1, her1, he20, hi12, he10, he40, hi41] <;> rfl) (by simp [go_sem]) ?_
                 exact ⟨by simp [go_sem], by simp [go_sem]⟩
                ·first | (cases h35; done) | (simp at h35; done)
               ·first | (cases h34; done) | (simp at h34; done)
        ·have he1z : ¬ e1 = 0 := by simpa using h27
         refine aK 3 106 true ?_
         refine aK 3 109 false ?_
         refine aK 1 106 true ?_
         refine aL 1 (by simp [go_sem, enc_none, hg0, hdp, hir1, her1, he1z] <;> rfl) ?_
         refine al_nil ?_
         refine awp_cond (b := false) (by simp [go_sem, enc_none, hg0, hdp, hir1, her1, he1z, h20, h22, h23, h24, h25, h26, h27]) (fun h => ?_) (fun h => ?_)
         ·cases h
         refine awp_skip ?_
         refine awp_seq (awp_reg ?_)
         refine aL 3 (by simp [go_sem, enc_none, hg0, hdp, hir1, her1, he1z] <;> rfl) ?_
         refine al_splitT 117 (by first | rfl | (simp [go_sem, enc_none, hg0, hdp, hir1, her1, he1z] <;> rfl)) (fun h36 => ?_) (fun h36 => ?_)
         ·refine aK 2 117 false ?_
          refine aL 2 (by simp [go_sem, enc_none, hg0, hdp, hir1, her1, he1z] <;> rfl) ?_
          refine aK 2 121 false ?_
          refine aL 2 (by simp [go_sem, enc_none, hg0, hdp, hir1, her1, he1z] <;> rfl) ?_
          refine aK 2 125 false ?_
          refine aL 2 (by simp [go_sem, enc_none, hg0, hdp, hir1, her1, he1z] <;> rfl) ?_
          refine aK 3 129 false ?_
          refine aK 1 132 true ?_
          refine aK 1 129 false ?_
          refine aL 2 (by simp [go_sem, enc_none, hg0, hdp, hir1, her1, he1z] <;> rfl) ?_
          refine al_fnG 136 true true (by simp [go_sem]) rfl (by simp [go_sem]) rfl rfl (by simp [go_sem, enc_none, hg0, hdp, hir1, her1, he1z] <;> rfl) call22 (c_alive σ hσ) (by simp [go_sem, enc_none, hg0, hdp, hir1, her1, he1z] <;> rfl) (by simp [go_sem, enc_none, hg0, hdp, hir1, her1, he1z]) rfl rfl ?_
          refine aL 2 (by simp [go_sem, enc_none, hg0, hdp, hir1, her1, he1z] <;> rfl) ?_
          refine al_nil ?_
          refine awp_ret ?_
          refine ends_ret (by simp [go_sem, enc_none, hg0, hdp, hir1, her1, he1z] <;> rfl) (by simp [go_sem]) ?_
          exact ⟨by simp [go_sem], by simp [go_sem]⟩
         ·first | (cases h36; done) | (simp at h36; done) | exact absurd (by simpa using h36) he1z
     ·refine aK 3 72 true ?_
      refine aK 2 75 false ?_
      refine aK 1 72 true ?_
      refine aL 1 (by simp [go_sem, enc_none, hg0, hdp] <;> rfl) ?_
      refine al_nil ?_
      refine awp_cond (b := false) (by simp [go_sem, enc_none, hg0, hdp, h20, h22, h23, h24]) (fun h => ?_) (fun h => ?_)
      ·cases h
      refine awp_skip ?_
      refine awp_seq (awp_reg ?_)
      refine aL 2 (by simp [go_sem, enc_none, hg0, hdp] <;> rfl) ?_
      refine aF call37 ((hS1) _ (by exact hgl)) (by simp [go_sem, enc_none, hg0, hdp] <;> rfl) (by simp [go_sem, enc_none, hg0, hdp]) ?_
      refine aL 5 (by simp [go_sem, enc_none, hg0, hdp] <;> rfl) ?_
      refine al_nil ?_
      refine awp_seq (awp_reg ?_)
      refine aL 2 (by simp [go_sem, enc_none, hg0, hdp] <;> rfl) ?_
      refine aF call37 ((hS2) _ (by exact hgl)) (by simp [go_sem, enc_none, hg0, hdp] <;> rfl) (by simp [go_sem, enc_none, hg0, hdp]) ?_
      refine aL 5 (by simp [go_sem, enc_none, hg0, hdp] <;> rfl) ?_
      refine al_nil ?_
      refine awp_seq (awp_reg ?_)
      refine aL 2 (by simp [go_sem, enc_none, hg0, hdp] <;> rfl) ?_
      refine aF call37 ((hS3) _ (by exact hgl)) (by simp [go_sem, enc_none, hg0, hdp] <;> rfl) (by simp [go_sem, enc_none, hg0, hdp]) ?_
      refine aL 5 (by simp [go_sem, enc_none, hg0, hdp] <;> rfl) ?_
      refine al_nil ?_
      refine awp_seq (awp_reg ?_)
      refine aL 2 (by simp [go_sem, enc_none, hg0, hdp] <;> rfl) ?_
      refine aF call37 ((hS4) _ (by exact hgl)) (by simp [go_sem, enc_none, hg0, hdp] <;> rfl) (by simp [go_sem, enc_none, hg0, hdp]) ?_
      refine aL 5 (by simp [go_sem, enc_none, hg0, hdp] <;> rfl) ?_
      refine al_nil ?_
      refine awp_seq (awp_seq (awp_reg ?_))
      refine aL 3 (by simp [go_sem, enc_none, hg0, hdp] <;> rfl) ?_
      refine al_splitT 106 (by first | rfl | (simp [go_sem, enc_none, hg0, hdp] <;> rfl)) (fun h37 => ?_) (fun h37 => ?_)
      ·have he10 : e1 = 0 := by simpa using h37
       obtain ⟨hsy1, hsy2⟩ := msame_sym (x := x) (y := y) (by rw [← he1]; exact he10)
       have he20 : e2 = 0 := by rw [he2]; exact hsy1
       have hi12 : i2 = i1 := by rw [hi1, hi2]; exact hsy2.symm
       refine aLG 3 106 true (by simp [go_sem, enc_none, hg0, hdp, he20, hi12, he10] <;> rfl) ?_
       refine al_splitT 109 (by first | rfl | (simp [go_sem, enc_none, hg0, hdp, he20, hi12, he10] <;> rfl)) (fun h38 => ?_) (fun h38 => ?_)
       ·first | (cases h38; done) | (simp at h38; done)
       ·refine aLG 3 109 false (by simp [go_sem, enc_none, hg0, hdp, he20, hi12, he10] <;> rfl) ?_
        refine aLG 1 106 true (by simp [go_sem, enc_none, hg0, hdp, he20, hi12, he10] <;> rfl) ?_
        refine aL 1 (by simp [go_sem, enc_none, hg0, hdp, he20, hi12, he10] <;> rfl) ?_
        refine al_nil ?_
        refine awp_cond (by first | rfl | (simp [go_sem, enc_none, hg0, hdp, he20, hi12, he10] <;> rfl)) (fun h39 => ?_) (fun h39 => ?_)
        ·first | (cases h39; done) | (simp at h39; done)
        ·refine awp_skip ?_
         refine awp_seq (awp_reg ?_)
         refine aL 3 (by simp [go_sem, enc_none, hg0, hdp, he20, hi12, he10] <;> rfl) ?_
         refine al_splitT 117 (by first | rfl | (simp [go_sem, enc_none, hg0, hdp, he20, hi12, he10] <;> rfl)) (fun h40 => ?_) (fun h40 => ?_)
         ·first | (cases h40; done) | (simp at h40; done) | exact absurd (by simpa using h40) he1z
         ·have w1 : e1 = 0 := he10
          refine aLG 2 117 false (by simp [go_sem, enc_none, hg0, hdp, he20, hi12, he10] <;> rfl) ?_
          refine aL 2 (by simp [go_sem, enc_none, hg0, hdp, he20, hi12, he10] <;> rfl) ?_
          refine al_splitT 121 (by first | rfl | (simp [go_sem, enc_none, hg0, hdp, he20, hi12, he10] <;> rfl)) (fun h41 => ?_) (fun h41 => ?_)
          ·refine aK 2 121 false ?_
           refine aL 2 (by simp [go_sem, enc_none, hg0, hdp, he20, hi12, he10] <;> rfl) ?_
           refine aK 2 125 false ?_
           refine aL 2 (by simp [go_sem, enc_none, hg0, hdp, he20, hi12, he10] <;> rfl) ?_
           refine aK 3 129 false ?_
           refine aK 1 132 true ?_
           refine aK 1 129 false ?_
           refine aL 2 (by simp [go_sem, enc_none, hg0, hdp, he20, hi12, he10] <;> rfl) ?_
           refine al_fnG 136 true true (by simp [go_sem]) rfl (by simp [go_sem]) rfl rfl (by simp [go_sem, enc_none, hg0, hdp, he20, hi12, he10] <;> rfl) call22 (c_alive σ hσ) (by simp [go_sem, enc_none, hg0, hdp, he20, hi12, he10] <;> rfl) (by simp [go_sem, enc_none, hg0, hdp, he20, hi12, he10]) rfl rfl ?_
           refine aL 2 (by simp [go_sem, enc_none, hg0, hdp, he20, hi12, he10] <;> rfl) ?_
           refine al_nil ?_
           refine awp_ret ?_
           refine ends_ret (by simp [go_sem, enc_none, hg0, hdp, he20, hi12, he10] <;> rfl) (by simp [go_sem]) ?_
           exact ⟨by simp [go_sem], by simp [go_sem]⟩
          ·have w2 : e3 = 0 := by simpa using h41
           refine aLG 2 121 false (by simp [go_sem, enc_none, hg0, hdp, he20, hi12, he10] <;> rfl) ?_
           refine aL 2 (by simp [go_sem, enc_none, hg0, hdp, he20, hi12, he10] <;> rfl) ?_
           refine al_splitT 125 (by first | rfl | (simp [go_sem, enc_none, hg0, hdp, he20, hi12, he10] <;> rfl)) (fun h42 => ?_) (fun h42 => ?_)
           ·refine aK 2 125 false ?_
            refine aL 2 (by simp [go_sem, enc_none, hg0, hdp, he20, hi12, he10] <;> rfl) ?_
            refine aK 3 129 false ?_
            refine aK 1 132 true ?_
            refine aK 1 129 false ?_
            refine aL 2 (by simp [go_sem, enc_none, hg0, hdp, he20, hi12, he10] <;> rfl) ?_
            refine al_fnG 136 true true (by simp [go_sem]) rfl (by simp [go_sem]) rfl rfl (by simp [go_sem, enc_none, hg0, hdp, he20, hi12, he10] <;> rfl) call22 (c_alive σ hσ) (by simp [go_sem, enc_none, hg0, hdp, he20, hi12, he10] <;> rfl) (by simp [go_sem, enc_none, hg0, hdp, he20, hi12, he10]) rfl rfl ?_
            refine aL 2 (by simp [go_sem, enc_none, hg0, hdp, he20, hi12, he10] <;> rfl) ?_
            refine al_nil ?_
            refine awp_ret ?_
            refine ends_ret (by simp [go_sem, enc_none, hg0, hdp, he20, hi12, he10] <;> rfl) (by simp [go_sem]) ?_
            exact ⟨by simp [go_sem], by simp [go_sem]⟩
           ·have w3 : i1 = true := by simpa using h42
            refine aLG 2 125 false (by simp [go_sem, enc_none, hg0, hdp, he20, hi12, he10] <;> rfl) ?_
            refine aL 2 (by simp [go_sem, enc_none, hg0, hdp, he20, hi12, he10] <;> rfl) ?_
            refine al_splitT 129 (by first | rfl | (simp [go_sem, enc_none, hg0, hdp, he20, hi12, he10] <;> rfl)) (fun h43 => ?_) (fun h43 => ?_)
            ·refine aK 3 129 false ?_
             refine aK 1 132 true ?_
             refine aK 1 129 false ?_
             refine aL 2 (by simp [go_sem, enc_none, hg0, hdp, he20, hi12, he10] <;> rfl) ?_
             refine al_fnG 136 true true (by simp [go_sem]) rfl (by simp [go_sem]) rfl rfl (by simp [go_sem, enc_none, hg0, hdp, he20, hi12, he10] <;> rfl) call22 (c_alive σ hσ) (by simp [go_sem, enc_none, hg0, hdp, he20, hi12, he10] <;> rfl) (by simp [go_sem, enc_none, hg0, hdp, he20, hi12, he10]) rfl rfl ?_
             refine aL 2 (by simp [go_sem, enc_none, hg0, hdp, he20, hi12, he10] <;> rfl) ?_
             refine al_nil ?_
             refine awp_ret ?_
             refine ends_ret (by simp [go_sem, enc_none, hg0, hdp, he20, hi12, he10] <;> rfl) (by simp [go_sem]) ?_
             exact ⟨by simp [go_sem], by simp [go_sem]⟩
            ·have w4 : i3 = true := by simpa using h43
             obtain ⟨htr1, htr2⟩ := msame_trans (x := x) (y := y) (z := z) (by rw [← he1]; exact w1) (by rw [← he3]; exact w2) (by rw [← hi1]; exact w3) (by rw [← hi3]; exact w4)
             have he40 : e4 = 0 := by rw [he4]; exact htr1
             have hi41 : i4 = true := by rw [hi4]; exact htr2
             refine aLG 3 129 false (by simp [go_sem, enc_none, hg0, hdp, he20, hi12, he10, he40, hi41] <;> rfl) ?_
             refine al_splitT 132 (by first | rfl | (simp [go_sem, enc_none, hg0, hdp, he20, hi12, he10, he40, hi41] <;> rfl)) (fun h44 => ?_) (fun h44 => ?_)
             ·refine aLG 1 132 true (by simp [go_sem, enc_none, hg0, hdp, he20, hi12, he10, he40, hi41] <;> rfl) ?_
              refine aLG 1 129 false (by simp [go_sem, enc_none, hg0, hdp, he20, hi12, he10, he40, hi41] <;> rfl) ?_
              refine aL 2 (by simp [go_sem, enc_none, hg0, hdp, he20, hi12, he10, he40, hi41] <;> rfl) ?_
              refine al_splitT 136 (by first | rfl | (simp [go_sem, enc_none, hg0, hdp, he20, hi12, he10, he40, hi41] <;> rfl)) (fun h45 => ?_) (fun h45 => ?_)
              ·refine al_fnG 136 true true (by simp [go_sem]) rfl (by simp [go_sem]) rfl rfl (by simp [go_sem, enc_none, hg0, hdp, he20, hi12, he10, he40, hi41] <;> rfl) call22 (c_alive σ hσ) (by simp [go_sem, enc_none, hg0, hdp, he20, hi12, he10, he40, hi41] <;> rfl) (by simp [go_sem, enc_none, hg0, hdp, he20, hi12, he10, he40, hi41]) rfl rfl ?_
               refine aL 2 (by simp [go_sem, enc_none, hg0, hdp, he20, hi12, he10, he40, hi41] <;> rfl) ?_
               refine al_nil ?_
               refine awp_ret ?_
               refine ends_ret (by simp [go_sem, enc_none, hg0, hdp, he20, hi12, he10, he40, hi41] <;> rfl) (by simp [go_sem]) ?_
               exact ⟨by simp [go_sem], by simp [go_sem]⟩
              ·first | (cases h45; done) | (simp at h45; done)
             ·first | (cases h44; done) | (simp at h44; done)
      ·have he1z : ¬ e1 = 0 := by simpa using h37
       refine aK 3 106 true ?_
       refine aK 3 109 false ?_
       refine aK 1 106 true ?_
       refine aL 1 (by simp [go_sem, enc_none, hg0, hdp, he1z] <;> rfl) ?_
       refine al_nil ?_
       refine awp_cond (b := false) (by simp [go_sem, enc_none, hg0, hdp, he1z, h20, h22, h23, h24, h37]) (fun h => ?_) (fun h => ?_)
       ·cases h
       refine awp_skip ?_
       refine awp_seq (awp_reg ?_)
       refine aL 3 (by simp [go_sem, enc_none, hg0, hdp, he1z] <;> rfl) ?_
       refine al_splitT 117 (by first | rfl | (simp [go_sem, enc_none, hg0, hdp, he1z] <;> rfl)) (fun h46 => ?_) (fun h46 => ?_)
       ·refine aK 2 117 false ?_
        refine aL 2 (by simp [go_sem, enc_none, hg0, hdp, he1z] <;> rfl) ?_
        refine aK 2 121 false ?_
        refine aL 2 (by simp [go_sem, enc_none, hg0, hdp, he1z] <;> rfl) ?_
        refine aK 2 125 false ?_
        refine aL 2 (by simp [go_sem, enc_none, hg0, hdp, he1z] <;> rfl) ?_
        refine aK 3 129 false ?_
        refine aK 1 132 true ?_
        refine aK 1 129 false ?_
        refine aL 2 (by simp [go_sem, enc_none, hg0, hdp, he1z] <;> rfl) ?_
        refine al_fnG 136 true true (by simp [go_sem]) rfl (by simp [go_sem]) rfl rfl (by simp [go_sem, enc_none, hg0, hdp, he1z] <;> rfl) call22 (c_alive σ hσ) (by simp [go_sem, enc_none, hg0, hdp, he1z] <;> rfl) (by simp [go_sem, enc_none, hg0, hdp, he1z]) rfl rfl ?_
        refine aL 2 (by simp [go_sem, enc_none, hg0, hdp, he1z] <;> rfl) ?_
        refine al_nil ?_
        refine awp_ret ?_
        refine ends_ret (by simp [go_sem, enc_none, hg0, hdp, he1z] <;> rfl) (by simp [go_sem]) ?_
        exact ⟨by simp [go_sem], by simp [go_sem]⟩
       ·first | (cases h46; done) | (simp at h46; done) | exact absurd (by simpa using h46) he1z
 ·refine ul_run 3 (by simp [go_sem, enc_none] <;> rfl) ?_
  refine ul_nil ?_
  refine aL 3 (by simp [go_sem, enc_none] <;> rfl) ?_
  refine al_nil ?_
  refine awp_seq (awp_reg ?_)
  refine aL 1 (by simp [go_sem, enc_none] <;> rfl) ?_
  refine aF call36 ((hPx) _ (by exact hgl)) (by simp [go_sem, enc_none] <;> rfl) (by simp [go_sem, enc_none]) ?_
  refine aL 6 (by simp [go_sem, enc_none] <;> rfl) ?_
  refine al_nil ?_
  refine awp_seq (awp_seq (aR (by simp [go_sem, enc_none] <;> rfl) ?_))
  refine awp_cond (by first | rfl | (simp [go_sem, enc_none] <;> rfl)) (fun h47 => ?_) (fun h47 => ?_)
  ·have hgz : g ≠ 0 := by simpa using h47
   have hpd : deq p dnone = true := by rw [hp, plain_none (by rw [← hg]; exact hgz)]; exact deq_refl _
   refine awp_seq (awp_reg ?_)
   refine aL 2 (by simp [go_sem, enc_none, hpd] <;> rfl) ?_
   refine aF call35 ((c_Same p hps dnone) _ (by exact hgl)) (by simp [go_sem, enc_none, hpd] <;> rfl) (by simp [go_sem, enc_none, hpd]) ?_
   refine aL 1 (by simp [go_sem, enc_none, hpd] <;> rfl) ?_
   refine al_splitT 42 (by first | rfl | (simp [go_sem, enc_none, hpd] <;> rfl)) (fun h48 => ?_) (fun h48 => ?_)
   ·refine al_fnG 42 true true (by simp [go_sem]) rfl (by simp [go_sem]) rfl rfl (by simp [go_sem, enc_none, hpd] <;> rfl) call22 (c_alive σ hσ) (by simp [go_sem, enc_none, hpd] <;> rfl) (by simp [go_sem, enc_none, hpd]) rfl rfl ?_
    refine aL 2 (by simp [go_sem, enc_none, hpd] <;> rfl) ?_
    refine al_nil ?_
    refine awp_ret ?_
    refine then_ret ?_
    refine ends_ret (by simp [go_sem, enc_none, hpd] <;> rfl) (by simp [go_sem]) ?_
    exact ⟨by simp [go_sem], by simp [go_sem]⟩
   ·first | (cases h48; done) | (simp at h48; done)
  ·have hg0 : g = 0 := by simpa using h47
   have hx0 : (mplain x).2 = 0 := by rw [← hg]; exact hg0
   have hzx := plain_zero hx0
   have hgd := mcheck_good hzx
   have hpp := plain_plain (x := x) (by omega) hx0
   rw [← hp] at hpp
   have hpsz : p.size ≤ x.size := by rw [hp, plain_fst hzx hx0]; exact mren_size hgd []
   have hPp : Pur Tryz.prog (GL kr) 36 [.pv (enc p)] (.tuple [.pv (enc p), .pv (.int .i64 0)]) := by have h := c_mPlain (kr := kr) p (by omega); rw [hpp] at h; exact h
   obtain ⟨r, hr⟩ : ∃ v0, v0 = (brn x [] [] 0).1 := ⟨_, rfl⟩
   obtain ⟨m, hm⟩ : ∃ v0, v0 = (brn x [] [] 0).2 := ⟨_, rfl⟩
   have hRn : Pur Tryz.prog (GL kr) 39 [.pv (enc x), .pv (.slice []), .pv (.slice []), .pv (.int .i64 0)] (.tuple [.pv (enc r), .pv (.int .i64 ((m : Nat) : Int))]) := by rw [hr, hm]; exact c_renamedL x hgd [] [] 0 rfl (by simp; omega)
   have hrs : r.size ≤ x.size := by rw [hr]; exact ((brn_al hgd [] [] 0 rfl (fun y hy => by simp at hy) (by omega)).good (fun z hz => by obtain ⟨i, hi, rfl⟩ := hz; exact dotB_ok (by decide) (by omega) (by omega)) hgd (fun z hz => by simp at hz)).2.1
   obtain ⟨ir, hir⟩ : ∃ v0, v0 = (msame x r).1 := ⟨_, rfl⟩
   obtain ⟨er, her⟩ : ∃ v0, v0 = (msame x r).2 := ⟨_, rfl⟩
   have hSr : Pur Tryz.prog (GL kr) 37 [.pv (enc x), .pv (enc r)] (.tuple [.pv (.bool ir), .pv (.int .i64 er)]) := by rw [hir, her]; exact c_mSame x r (by omega) (by omega)
   refine awp_skip ?_
   refine awp_seq (awp_reg ?_)
   refine aL 1 (by simp [go_sem, enc_none, hg0, hdp] <;> rfl) ?_
   refine aF call36 ((hPp) _ (by exact hgl)) (by simp [go_sem, enc_none, hg0, hdp] <;> rfl) (by simp [go_sem, enc_none, hg0, hdp]) ?_
   refine aL 6 (by simp [go_sem, enc_none, hg0, hdp] <;> rfl) ?_
   refine al_nil ?_
   refine awp_seq (awp_seq (awp_reg ?_))
   refine aL 3 (by simp [go_sem, enc_none, hg0, hdp] <;> rfl) ?_
   refine al_splitT 52 (by first | rfl | (simp [go_sem, enc_none, hg0, hdp] <;> rfl)) (fun h49 => ?_) (fun h49 => ?_)
   ·first | (cases h49; done) | (simp at h49; done)
   ·refine aLG 2 52 false (by simp [go_sem, enc_none, hg0, hdp] <;> rfl) ?_
    refine al_fnG 52 false false (by simp [go_sem]) rfl (by simp [go_sem]) rfl rfl (by simp [go_sem, enc_none, hg0, hdp] <;> rfl) call35 ((c_Same p hps p) _ (by exact hgl)) (by simp [go_sem, enc_none, hg0, hdp] <;> rfl) (by simp [go_sem, enc_none, hg0, hdp]) rfl rfl ?_
    refine aLG 1 52 false (by simp [go_sem, enc_none, hg0, hdp] <;> rfl) ?_
    refine aL 1 (by simp [go_sem, enc_none, hg0, hdp] <;> rfl) ?_
    refine al_nil ?_
    refine awp_cond (by first | rfl | (simp [go_sem, enc_none, hg0, hdp] <;> rfl)) (fun h50 => ?_) (fun h50 => ?_)
    ·first | (cases h50; done) | (simp at h50; done)
    ·refine awp_skip ?_
     refine awp_seq (awp_reg ?_)
     refine aL 1 (by simp [go_sem, enc_none, hg0, hdp] <;> rfl) ?_
     refine aF call39 ((hRn) _ (by exact hgl)) (by simp [go_sem, enc_none, hg0, hdp] <;> rfl) (by simp [go_sem, enc_none, hg0, hdp]) ?_
     refine aL 6 (by simp [go_sem, enc_none, hg0, hdp] <;> rfl) ?_
     refine al_nil ?_
     refine awp_seq (awp_reg ?_)
     refine aL 2 (by simp [go_sem, enc_none, hg0, hdp] <;> rfl) ?_
     refine aF call37 ((hSr) _ (by exact hgl)) (by simp [go_sem, enc_none, hg0, hdp] <;> rfl) (by simp [go_sem, enc_none, hg0, hdp]) ?_
     refine aL 5 (by simp [go_sem, enc_none, hg0, hdp] <;> rfl) ?_
     refine al_nil ?_
     refine awp_seq (awp_seq (awp_reg ?_))
     refine aL 1 (by simp [go_sem, enc_none, hg0, hdp] <;> rfl) ?_
     refine aF call40 ((c_names x hgd (by omega)) _ (by exact hgl)) (by simp [go_sem, enc_none, hg0, hdp] <;> rfl) (by simp [go_sem, enc_none, hg0, hdp]) ?_
     refine aL 2 (by simp [go_sem, enc_none, hg0, hdp] <;> rfl) ?_
     refine al_splitT 72 (by first | rfl | (simp [go_sem, enc_none, hg0, hdp] <;> rfl)) (fun h51 => ?_) (fun h51 => ?_)
     ·have hnn : mnames x = false := by simpa using h51
      have hsr := same_ren (x := x) (by omega) hx0 hnn
      rw [← hr] at hsr
      have hir1 : ir = true := by rw [hir, hsr]
      have her1 : er = 0 := by rw [her, hsr]
      refine aLG 3 72 true (by simp [go_sem, enc_none, hg0, hdp, hir1, her1] <;> rfl) ?_
      refine al_splitT 75 (by first | rfl | (simp [go_sem, enc_none, hg0, hdp, hir1, her1] <;> rfl)) (fun h52 => ?_) (fun h52 => ?_)
      ·first | (cases h52; done) | (simp at h52; done)
      ·refine aLG 2 75 false (by simp [go_sem, enc_none, hg0, hdp, hir1, her1] <;> rfl) ?_
       refine aLG 1 72 true (by simp [go_sem, enc_none, hg0, hdp, hir1, her1] <;> rfl) ?_
       refine aL 1 (by simp [go_sem, enc_none, hg0, hdp, hir1, her1] <;> rfl) ?_
       refine al_nil ?_
       refine awp_cond (by first | rfl | (simp [go_sem, enc_none, hg0, hdp, hir1, her1] <;> rfl)) (fun h53 => ?_) (fun h53 => ?_)
       ·first | (cases h53; done) | (simp at h53; done)
       ·refine awp_skip ?_
        refine awp_seq (awp_reg ?_)
        refine aL 2 (by simp [go_sem, enc_none, hg0, hdp, hir1, her1] <;> rfl) ?_
        refine aF call37 ((hS1) _ (by exact hgl)) (by simp [go_sem, enc_none, hg0, hdp, hir1, her1] <;> rfl) (by simp [go_sem, enc_none, hg0, hdp, hir1, her1]) ?_
        refine aL 5 (by simp [go_sem, enc_none, hg0, hdp, hir1, her1] <;> rfl) ?_
        refine al_nil ?_
        refine awp_seq (awp_reg ?_)
        refine aL 2 (by simp [go_sem, enc_none, hg0, hdp, hir1, her1] <;> rfl) ?_
        refine aF call37 ((hS2) _ (by exact hgl)) (by simp [go_sem, enc_none, hg0, hdp, hir1, her1] <;> rfl) (by simp [go_sem, enc_none, hg0, hdp, hir1, her1]) ?_
        refine aL 5 (by simp [go_sem, enc_none, hg0, hdp, hir1, her1] <;> rfl) ?_
        refine al_nil ?_
        refine awp_seq (awp_reg ?_)
        refine aL 2 (by simp [go_sem, enc_none, hg0, hdp, hir1, her1] <;> rfl) ?_
        refine aF call37 ((hS3) _ (by exact hgl)) (by simp [go_sem, enc_none, hg0, hdp, hir1, her1] <;> rfl) (by simp [go_sem, enc_none, hg0, hdp, hir1, her1]) ?_
        refine aL 5 (by simp [go_sem, enc_none, hg0, hdp, hir1, her1] <;> rfl) ?_
        refine al_nil ?_
        refine awp_seq (awp_reg ?_)
        refine aL 2 (by simp [go_sem, enc_none, hg0, hdp, hir1, her1] <;> rfl) ?_
        refine aF call37 ((hS4) _ (by exact hgl)) (by simp [go_sem, enc_none, hg0, hdp, hir1, her1] <;> rfl) (by simp [go_sem, enc_none, hg0, hdp, hir1, her1]) ?_
        refine aL 5 (by simp [go_sem, enc_none, hg0, hdp, hir1, her1] <;> rfl) ?_
        refine al_nil ?_
        refine awp_seq (awp_seq (awp_reg ?_))
        refine aL 3 (by simp [go_sem, enc_none, hg0, hdp, hir1, her1] <;> rfl) ?_
        refine al_splitT 106 (by first | rfl | (simp [go_sem, enc_none, hg0, hdp, hir1, her1] <;> rfl)) (fun h54 => ?_) (fun h54 => ?_)
        ·have he10 : e1 = 0 := by simpa using h54
         obtain ⟨hsy1, hsy2⟩ := msame_sym (x := x) (y := y) (by rw [← he1]; exact he10)
         have he20 : e2 = 0 := by rw [he2]; exact hsy1
         have hi12 : i2 = i1 := by rw [hi1, hi2]; exact hsy2.symm
         refine aLG 3 106 true (by simp [go_sem, enc_none, hg0, hdp, hir1, her1, he20, hi12, he10] <;> rfl) ?_
         refine al_splitT 109 (by first | rfl | (simp [go_sem, enc_none, hg0, hdp, hir1, her1, he20, hi12, he10] <;> rfl)) (fun h55 => ?_) (fun h55 => ?_)
         ·first | (cases h55; done) | (simp at h55; done)
         ·refine aLG 3 109 false (by simp [go_sem, enc_none, hg0, hdp, hir1, her1, he20, hi12, he10] <;> rfl) ?_
          refine aLG 1 106 true (by simp [go_sem, enc_none, hg0, hdp, hir1, her1, he20, hi12, he10] <;> rfl) ?_
          refine aL 1 (by simp [go_sem, enc_none, hg0, hdp, hir1, her1, he20, hi12, he10] <;> rfl) ?_
          refine al_nil ?_
          refine awp_cond (by first | rfl | (simp [go_sem, enc_none, hg0, hdp, hir1, her1, he20, hi12, he10] <;> rfl)) (fun h56 => ?_) (fun h56 => ?_)
          ·first | (cases h56; done) | (simp at h56; done)
          ·refine awp_skip ?_
           refine awp_seq (awp_reg ?_)
           refine aL 3 (by simp [go_sem, enc_none, hg0, hdp, hir1, her1, he20, hi12, he10] <;> rfl) ?_
           refine al_splitT 117 (by first | rfl | (simp [go_sem, enc_none, hg0, hdp, hir1, her1, he20, hi12, he10] <;> rfl)) (fun h57 => ?_) (fun h57 => ?_)
           ·first | (cases h57; done) | (simp at h57; done) | exact absurd (by simpa using h57) he1z
           ·have w1 : e1 = 0 := he10
            refine aLG 2 117 false (by simp [go_sem, enc_none, hg0, hdp, hir1, her1, he20, hi12, he10] <;> rfl) ?_
            refine aL 2 (by simp [go_sem, enc_none, hg0, hdp, hir1, her1, he20, hi12, he10] <;> rfl) ?_
            refine al_splitT 121 (by first | rfl | (simp [go_sem, enc_none, hg0, hdp, hir1, her1, he20, hi12, he10] <;> rfl)) (fun h58 => ?_) (fun h58 => ?_)
            ·refine aK 2 121 false ?_
             refine aL 2 (by simp [go_sem, enc_none, hg0, hdp, hir1, her1, he20, hi12, he10] <;> rfl) ?_
             refine aK 2 125 false ?_
             refine aL 2 (by simp [go_sem, enc_none, hg0, hdp, hir1, her1, he20, hi12, he10] <;> rfl) ?_
             refine aK 3 129 false ?_
             refine aK 1 132 true ?_
             refine aK 1 129 false ?_
             refine aL 2 (by simp [go_sem, enc_none, hg0, hdp, hir1, her1, he20, hi12, he10] <;> rfl) ?_
             refine al_fnG 136 true true (by simp [go_sem]) rfl (by simp [go_sem]) rfl rfl (by simp [go_sem, enc_none, hg0, hdp, hir1, her1, he20, hi12, he10] <;> rfl) call22 (c_alive σ hσ) (by simp [go_sem, enc_none, hg0, hdp, hir1, her1, he20, hi12, he10] <;> rfl) (by simp [go_sem, enc_none, hg0, hdp, hir1, her1, he20, hi12, he10]) rfl rfl ?_
             refine aL 2 (by simp [go_sem, enc_none, hg0, hdp, hir1, her1, he20, hi12, he10] <;> rfl) ?_
             refine al_nil ?_
             refine awp_ret ?_
             refine ends_ret (by simp [go_sem, enc_none, hg0, hdp, hir1, her1, he20, hi12, he10] <;> rfl) (by simp [go_sem]) ?_
             exact ⟨by simp [go_sem], by simp [go_sem]⟩
            ·have w2 : e3 = 0 := by simpa using h58
             refine aLG 2 121 false (by simp [go_sem, enc_none, hg0, hdp, hir1, her1, he20, hi12, he10] <;> rfl) ?_
             refine aL 2 (by simp [go_sem, enc_none, hg0, hdp, hir1, her1, he20, hi12, he10] <;> rfl) ?_
             refine al_splitT 125 (by first | rfl | (simp [go_sem, enc_none, hg0, hdp, hir1, her1, he20, hi12, he10] <;> rfl)) (fun h59 => ?_) (fun h59 => ?_)
             ·refine aK 2 125 false ?_
              refine aL 2 (by simp [go_sem, enc_none, hg0, hdp, hir1, her1, he20, hi12, he10] <;> rfl) ?_
              refine aK 3 129 false ?_
              refine aK 1 132 true ?_
              refine aK 1 129 false ?_
              refine aL 2 (by simp [go_sem, enc_none, hg0, hdp, hir1, her1, he20, hi12, he10] <;> rfl) ?_
              refine al_fnG 136 true true (by simp [go_sem]) rfl (by simp [go_sem]) rfl rfl (by simp [go_sem, enc_none, hg0, hdp, hir1, her1, he20, hi12, he10] <;> rfl) call22 (c_alive σ hσ) (by simp [go_sem, enc_none, hg0, hdp, hir1, her1, he20, hi12, he10] <;> rfl) (by simp [go_sem, enc_none, hg0, hdp, hir1, her1, he20, hi12, he10]) rfl rfl ?_
              refine aL 2 (by simp [go_sem, enc_none, hg0, hdp, hir1, her1, he20, hi12, he10] <;> rfl) ?_
              refine al_nil ?_
              refine awp_ret ?_
              refine ends_ret (by simp [go_sem, enc_none, hg0, hdp, hir1, her1, he20, hi12, he10] <;> rfl) (by simp [go_sem]) ?_
              exact ⟨by simp [go_sem], by simp [go_sem]⟩
             ·have w3 : i1 = true := by simpa using h59
              refine aLG 2 125 false (by simp [go_sem, enc_none, hg0, hdp, hir1, her1, he20, hi12, he10] <;> rfl) ?_
              refine aL 2 (by simp [go_sem, enc_none, hg0, hdp, hir1, her1, he20, hi12, he10] <;> rfl) ?_
              refine al_splitT 129 (by first | rfl | (simp [go_sem, enc_none, hg0, hdp, hir1, her1, he20, hi12, he10] <;> rfl)) (fun h60 => ?_) (fun h60 => ?_)
              ·refine aK 3 129 false ?_
               refine aK 1 132 true ?_
               refine aK 1 129 false ?_
               refine aL 2 (by simp [go_sem, enc_none, hg0, hdp, hir1, her1, he20, hi12, he10] <;> rfl) ?_
               refine al_fnG 136 true true (by simp [go_sem]) rfl (by simp [go_sem]) rfl rfl (by simp [go_sem, enc_none, hg0, hdp, hir1, her1, he20, hi12, he10] <;> rfl) call22 (c_alive σ hσ) (by simp [go_sem, enc_none, hg0, hdp, hir1, her1, he20, hi12, he10] <;> rfl) (by simp [go_sem, enc_none, hg0, hdp, hir1, her1, he20, hi12, he10]) rfl rfl ?_
               refine aL 2 (by simp [go_sem, enc_none, hg0, hdp, hir1, her1, he20, hi12, he10] <;> rfl) ?_
               refine al_nil ?_
               refine awp_ret ?_
               refine ends_ret (by simp [go_sem, enc_none, hg0, hdp, hir1, her1, he20, hi12, he10] <;> rfl) (by simp [go_sem]) ?_
               exact ⟨by simp [go_sem], by simp [go_sem]⟩
              ·have w4 : i3 = true := by simpa using h60
               obtain ⟨htr1, htr2⟩ := msame_trans (x := x) (y := y) (z := z) (by rw [← he1]; exact w1) (by rw [← he3]; exact w2) (by rw [← hi1]; exact w3) (by rw [← hi3]; exact w4)
               have he40 : e4 = 0 := by rw [he4]; exact htr1
               have hi41 : i4 = true := by rw [hi4]; exact htr2
               refine aLG 3 129 false (by simp [go_sem, enc_none, hg0, hdp, hir1, her1, he20, hi12, he10, he40, hi41] <;> rfl) ?_
               refine al_splitT 132 (by first | rfl | (simp [go_sem, enc_none, hg0, hdp, hir1, her1, he20, hi12, he10, he40, hi41] <;> rfl)) (fun h61 => ?_) (fun h61 => ?_)
               ·refine aLG 1 132 true (by simp [go_sem, enc_none, hg0, hdp, hir1, her1, he20, hi12, he10, he40, hi41] <;> rfl) ?_
                refine aLG 1 129 false (by simp [go_sem, enc_none, hg0, hdp, hir1, her1, he20, hi12, he10, he40, hi41] <;> rfl) ?_
                refine aL 2 (by simp [go_sem, enc_none, hg0, hdp, hir1, her1, he20, hi12, he10, he40, hi41] <;> rfl) ?_
                refine al_splitT 136 (by first | rfl | (simp [go_sem, enc_none, hg0, hdp, hir1, her1, he20, hi12, he10, he40, hi41] <;> rfl)) (fun h62 => ?_) (fun h62 => ?_)
                ·refine al_fnG 136 true true (by simp [go_sem]) rfl (by simp [go_sem]) rfl rfl (by simp [go_sem, enc_none, hg0, hdp, hir1, her1, he20, hi12, he10, he40, hi41] <;> rfl) call22 (c_alive σ hσ) (by simp [go_sem, enc_none, hg0, hdp, hir1, her1, he20, hi12, he10, he40, hi41] <;> rfl) (by simp [go_sem, enc_none, hg0, hdp, hir1, her1, he20, hi12, he10, he40, hi41]) rfl rfl ?_
                 refine aL 2 (by simp [go_sem, enc_none, hg0, hdp, hir1, her1, he20, hi12, he10, he40, hi41] <;> rfl) ?_
                 refine al_nil ?_
                 refine awp_ret ?_
                 refine ends_ret (by simp [go_sem, enc_none, hg0, hdp, hir1, her1, he20, hi12, he10, he40, hi41] <;> rfl) (by simp [go_sem]) ?_
                 exact ⟨by simp [go_sem], by simp [go_sem]⟩
                ·first | (cases h62; done) | (simp at h62; done)
               ·first | (cases h61; done) | (simp at h61; done)
        ·have he1z : ¬ e1 = 0 := by simpa using h54
         refine aK 3 106 true ?_
         refine aK 3 109 false ?_
         refine aK 1 106 true ?_
         refine aL 1 (by simp [go_sem, enc_none, hg0, hdp, hir1, her1, he1z] <;> rfl) ?_
         refine al_nil ?_
         refine awp_cond (b := false) (by simp [go_sem, enc_none, hg0, hdp, hir1, her1, he1z, h47, h49, h50, h51, h52, h53, h54]) (fun h => ?_) (fun h => ?_)
         ·cases h
         refine awp_skip ?_
         refine awp_seq (awp_reg ?_)
         refine aL 3 (by simp [go_sem, enc_none, hg0, hdp, hir1, her1, he1z] <;> rfl) ?_
         refine al_splitT 117 (by first | rfl | (simp [go_sem, enc_none, hg0, hdp, hir1, her1, he1z] <;> rfl)) (fun h63 => ?_) (fun h63 => ?_)
         ·refine aK 2 117 false ?_
          refine aL 2 (by simp [go_sem, enc_none, hg0, hdp, hir1, her1, he1z] <;> rfl) ?_
          refine aK 2 121 false ?_
          refine aL 2 (by simp [go_sem, enc_none, hg0, hdp, hir1, her1, he1z] <;> rfl) ?_
          refine aK 2 125 false ?_
          refine aL 2 (by simp [go_sem, enc_none, hg0, hdp, hir1, her1, he1z] <;> rfl) ?_
          refine aK 3 129 false ?_
          refine aK 1 132 true ?_
          refine aK 1 129 false ?_
          refine aL 2 (by simp [go_sem, enc_none, hg0, hdp, hir1, her1, he1z] <;> rfl) ?_
          refine al_fnG 136 true true (by simp [go_sem]) rfl (by simp [go_sem]) rfl rfl (by simp [go_sem, enc_none, hg0, hdp, hir1, her1, he1z] <;> rfl) call22 (c_alive σ hσ) (by simp [go_sem, enc_none, hg0, hdp, hir1, her1, he1z] <;> rfl) (by simp [go_sem, enc_none, hg0, hdp, hir1, her1, he1z]) rfl rfl ?_
          refine aL 2 (by simp [go_sem, enc_none, hg0, hdp, hir1, her1, he1z] <;> rfl) ?_
          refine al_nil ?_
          refine awp_ret ?_
          refine ends_ret (by simp [go_sem, enc_none, hg0, hdp, hir1, her1, he1z] <;> rfl) (by simp [go_sem]) ?_
          exact ⟨by simp [go_sem], by simp [go_sem]⟩
         ·first | (cases h63; done) | (simp at h63; done) | exact absurd (by simpa using h63) he1z
     ·refine aK 3 72 true ?_
      refine aK 2 75 false ?_
      refine aK 1 72 true ?_
      refine aL 1 (by simp [go_sem, enc_none, hg0, hdp] <;> rfl) ?_
      refine al_nil ?_
      refine awp_cond (b := false) (by simp [go_sem, enc_none, hg0, hdp, h47, h49, h50, h51]) (fun h => ?_) (fun h => ?_)
      ·cases h
      refine awp_skip ?_
      refine awp_seq (awp_reg ?_)
      refine aL 2 (by simp [go_sem, enc_none, hg0, hdp] <;> rfl) ?_
      refine aF call37 ((hS1) _ (by exact hgl)) (by simp [go_sem, enc_none, hg0, hdp] <;> rfl) (by simp [go_sem, enc_none, hg0, hdp]) ?_
      refine aL 5 (by simp [go_sem, enc_none, hg0, hdp] <;> rfl) ?_
      refine al_nil ?_
      refine awp_seq (awp_reg ?_)
      refine aL 2 (by simp [go_sem, enc_none, hg0, hdp] <;> rfl) ?_
      refine aF call37 ((hS2) _ (by exact hgl)) (by simp [go_sem, enc_none, hg0, hdp] <;> rfl) (by simp [go_sem, enc_none, hg0, hdp]) ?_
      refine aL 5 (by simp [go_sem, enc_none, hg0, hdp] <;> rfl) ?_
      refine al_nil ?_
      refine awp_seq (awp_reg ?_)
      refine aL 2 (by simp [go_sem, enc_none, hg0, hdp] <;> rfl) ?_
      refine aF call37 ((hS3) _ (by exact hgl)) (by simp [go_sem, enc_none, hg0, hdp] <;> rfl) (by simp [go_sem, enc_none, hg0, hdp]) ?_
      refine aL 5 (by simp [go_sem, enc_none, hg0, hdp] <;> rfl) ?_
      refine al_nil ?_
      refine awp_seq (awp_reg ?_)
      refine aL 2 (by simp [go_sem, enc_none, hg0, hdp] <;> rfl) ?_
      refine aF call37 ((hS4) _ (by exact hgl)) (by simp [go_sem, enc_none, hg0, hdp] <;> rfl) (by simp [go_sem, enc_none, hg0, hdp]) ?_
      refine aL 5 (by simp [go_sem, enc_none, hg0, hdp] <;> rfl) ?_
      refine al_nil ?_
      refine awp_seq (awp_seq (awp_reg ?_))
      refine aL 3 (by simp [go_sem, enc_none, hg0, hdp] <;> rfl) ?_
      refine al_splitT 106 (by first | rfl | (simp [go_sem, enc_none, hg0, hdp] <;> rfl)) (fun h64 => ?_) (fun h64 => ?_)
      ·have he10 : e1 = 0 := by simpa using h64
       obtain ⟨hsy1, hsy2⟩ := msame_sym (x := x) (y := y) (by rw [← he1]; exact he10)
       have he20 : e2 = 0 := by rw [he2]; exact hsy1
       have hi12 : i2 = i1 := by rw [hi1, hi2]; exact hsy2.symm
       refine aLG 3 106 true (by simp [go_sem, enc_none, hg0, hdp, he20, hi12, he10] <;> rfl) ?_
       refine al_splitT 109 (by first | rfl | (simp [go_sem, enc_none, hg0, hdp, he20, hi12, he10] <;> rfl)) (fun h65 => ?_) (fun h65 => ?_)
       ·first | (cases h65; done) | (simp at h65; done)
       ·refine aLG 3 109 false (by simp [go_sem, enc_none, hg0, hdp, he20, hi12, he10] <;> rfl) ?_
        refine aLG 1 106 true (by simp [go_sem, enc_none, hg0, hdp, he20, hi12, he10] <;> rfl) ?_
        refine aL 1 (by simp [go_sem, enc_none, hg0, hdp, he20, hi12, he10] <;> rfl) ?_
        refine al_nil ?_
        refine awp_cond (by first | rfl | (simp [go_sem, enc_none, hg0, hdp, he20, hi12, he10] <;> rfl)) (fun h66 => ?_) (fun h66 => ?_)
        ·first | (cases h66; done) | (simp at h66; done)
        ·refine awp_skip ?_
         refine awp_seq (awp_reg ?_)
         refine aL 3 (by simp [go_sem, enc_none, hg0, hdp, he20, hi12, he10] <;> rfl) ?_
         refine al_splitT 117 (by first | rfl | (simp [go_sem, enc_none, hg0, hdp, he20, hi12, he10] <;> rfl)) (fun h67 => ?_) (fun h67 => ?_)
         ·first | (cases h67; done) | (simp at h67; done) | exact absurd (by simpa using h67) he1z
         ·have w1 : e1 = 0 := he10
          refine aLG 2 117 false (by simp [go_sem, enc_none, hg0, hdp, he20, hi12, he10] <;> rfl) ?_
          refine aL 2 (by simp [go_sem, enc_none, hg0, hdp, he20, hi12, he10] <;> rfl) ?_
          refine al_splitT 121 (by first | rfl | (simp [go_sem, enc_none, hg0, hdp, he20, hi12, he10] <;> rfl)) (fun h68 => ?_) (fun h68 => ?_)
          ·refine aK 2 121 false ?_
           refine aL 2 (by simp [go_sem, enc_none, hg0, hdp, he20, hi12, he10] <;> rfl) ?_
           refine aK 2 125 false ?_
           refine aL 2 (by simp [go_sem, enc_none, hg0, hdp, he20, hi12, he10] <;> rfl) ?_
           refine aK 3 129 false ?_
           refine aK 1 132 true ?_
           refine aK 1 129 false ?_
           refine aL 2 (by simp [go_sem, enc_none, hg0, hdp, he20, hi12, he10] <;> rfl) ?_
           refine al_fnG 136 true true (by simp [go_sem]) rfl (by simp [go_sem]) rfl rfl (by simp [go_sem, enc_none, hg0, hdp, he20, hi12, he10] <;> rfl) call22 (c_alive σ hσ) (by simp [go_sem, enc_none, hg0, hdp, he20, hi12, he10] <;> rfl) (by simp [go_sem, enc_none, hg0, hdp, he20, hi12, he10]) rfl rfl ?_
           refine aL 2 (by simp [go_sem, enc_none, hg0, hdp, he20, hi12, he10] <;> rfl) ?_
           refine al_nil ?_
           refine awp_ret ?_
           refine ends_ret (by simp [go_sem, enc_none, hg0, hdp, he20, hi12, he10] <;> rfl) (by simp [go_sem]) ?_
           exact ⟨by simp [go_sem], by simp [go_sem]⟩
          ·have w2 : e3 = 0 := by simpa using h68
           refine aLG 2 121 false (by simp [go_sem, enc_none, hg0, hdp, he20, hi12, he10] <;> rfl) ?_
           refine aL 2 (by simp [go_sem, enc_none, hg0, hdp, he20, hi12, he10] <;> rfl) ?_
           refine al_splitT 125 (by first | rfl | (simp [go_sem, enc_none, hg0, hdp, he20, hi12, he10] <;> rfl)) (fun h69 => ?_) (fun h69 => ?_)
           ·refine aK 2 125 false ?_
            refine aL 2 (by simp [go_sem, enc_none, hg0, hdp, he20, hi12, he10] <;> rfl) ?_
            refine aK 3 129 false ?_
            refine aK 1 132 true ?_
            refine aK 1 129 false ?_
            refine aL 2 (by simp [go_sem, enc_none, hg0, hdp, he20, hi12, he10] <;> rfl) ?_
            refine al_fnG 136 true true (by simp [go_sem]) rfl (by simp [go_sem]) rfl rfl (by simp [go_sem, enc_none, hg0, hdp, he20, hi12, he10] <;> rfl) call22 (c_alive σ hσ) (by simp [go_sem, enc_none, hg0, hdp, he20, hi12, he10] <;> rfl) (by simp [go_sem, enc_none, hg0, hdp, he20, hi12, he10]) rfl rfl ?_
            refine aL 2 (by simp [go_sem, enc_none, hg0, hdp, he20, hi12, he10] <;> rfl) ?_
            refine al_nil ?_
            refine awp_ret ?_
            refine ends_ret (by simp [go_sem, enc_none, hg0, hdp, he20, hi12, he10] <;> rfl) (by simp [go_sem]) ?_
            exact ⟨by simp [go_sem], by simp [go_sem]⟩
           ·have w3 : i1 = true := by simpa using h69
            refine aLG 2 125 false (by simp [go_sem, enc_none, hg0, hdp, he20, hi12, he10] <;> rfl) ?_
            refine aL 2 (by simp [go_sem, enc_none, hg0, hdp, he20, hi12, he10] <;> rfl) ?_
            refine al_splitT 129 (by first | rfl | (simp [go_sem, enc_none, hg0, hdp, he20, hi12, he10] <;> rfl)) (fun h70 => ?_) (fun h70 => ?_)
            ·refine aK 3 129 false ?_
             refine aK 1 132 true ?_
             refine aK 1 129 false ?_
             refine aL 2 (by simp [go_sem, enc_none, hg0, hdp, he20, hi12, he10] <;> rfl) ?_
             refine al_fnG 136 true true (by simp [go_sem]) rfl (by simp [go_sem]) rfl rfl (by simp [go_sem, enc_none, hg0, hdp, he20, hi12, he10] <;> rfl) call22 (c_alive σ hσ) (by simp [go_sem, enc_none, hg0, hdp, he20, hi12, he10] <;> rfl) (by simp [go_sem, enc_none, hg0, hdp, he20, hi12, he10]) rfl rfl ?_
             refine aL 2 (by simp [go_sem, enc_none, hg0, hdp, he20, hi12, he10] <;> rfl) ?_
             refine al_nil ?_
             refine awp_ret ?_
             refine ends_ret (by simp [go_sem, enc_none, hg0, hdp, he20, hi12, he10] <;> rfl) (by simp [go_sem]) ?_
             exact ⟨by simp [go_sem], by simp [go_sem]⟩
            ·have w4 : i3 = true := by simpa using h70
             obtain ⟨htr1, htr2⟩ := msame_trans (x := x) (y := y) (z := z) (by rw [← he1]; exact w1) (by rw [← he3]; exact w2) (by rw [← hi1]; exact w3) (by rw [← hi3]; exact w4)
             have he40 : e4 = 0 := by rw [he4]; exact htr1
             have hi41 : i4 = true := by rw [hi4]; exact htr2
             refine aLG 3 129 false (by simp [go_sem, enc_none, hg0, hdp, he20, hi12, he10, he40, hi41] <;> rfl) ?_
             refine al_splitT 132 (by first | rfl | (simp [go_sem, enc_none, hg0, hdp, he20, hi12, he10, he40, hi41] <;> rfl)) (fun h71 => ?_) (fun h71 => ?_)
             ·refine aLG 1 132 true (by simp [go_sem, enc_none, hg0, hdp, he20, hi12, he10, he40, hi41] <;> rfl) ?_
              refine aLG 1 129 false (by simp [go_sem, enc_none, hg0, hdp, he20, hi12, he10, he40, hi41] <;> rfl) ?_
              refine aL 2 (by simp [go_sem, enc_none, hg0, hdp, he20, hi12, he10, he40, hi41] <;> rfl) ?_
              refine al_splitT 136 (by first | rfl | (simp [go_sem, enc_none, hg0, hdp, he20, hi12, he10, he40, hi41] <;> rfl)) (fun h72 => ?_) (fun h72 => ?_)
              ·refine al_fnG 136 true true (by simp [go_sem]) rfl (by simp [go_sem]) rfl rfl (by simp [go_sem, enc_none, hg0, hdp, he20, hi12, he10, he40, hi41] <;> rfl) call22 (c_alive σ hσ) (by simp [go_sem, enc_none, hg0, hdp, he20, hi12, he10, he40, hi41] <;> rfl) (by simp [go_sem, enc_none, hg0, hdp, he20, hi12, he10, he40, hi41]) rfl rfl ?_
               refine aL 2 (by simp [go_sem, enc_none, hg0, hdp, he20, hi12, he10, he40, hi41] <;> rfl) ?_
               refine al_nil ?_
               refine awp_ret ?_
               refine ends_ret (by simp [go_sem, enc_none, hg0, hdp, he20, hi12, he10, he40, hi41] <;> rfl) (by simp [go_sem]) ?_
               exact ⟨by simp [go_sem], by simp [go_sem]⟩
              ·first | (cases h72; done) | (simp at h72; done)
             ·first | (cases h71; done) | (simp at h71; done)
      ·have he1z : ¬ e1 = 0 := by simpa using h64
       refine aK 3 106 true ?_
       refine aK 3 109 false ?_
       refine aK 1 106 true ?_
       refine aL 1 (by simp [go_sem, enc_none, hg0, hdp, he1z] <;> rfl) ?_
       refine al_nil ?_
       refine awp_cond (b := false) (by simp [go_sem, enc_none, hg0, hdp, he1z, h47, h49, h50, h51, h64]) (fun h => ?_) (fun h => ?_)
       ·cases h
       refine awp_skip ?_
       refine awp_seq (awp_reg ?_)
       refine aL 3 (by simp [go_sem, enc_none, hg0, hdp, he1z] <;> rfl) ?_
       refine al_splitT 117 (by first | rfl | (simp [go_sem, enc_none, hg0, hdp, he1z] <;> rfl)) (fun h73 => ?_) (fun h73 => ?_)
       ·refine aK 2 117 false ?_
        refine aL 2 (by simp [go_sem, enc_none, hg0, hdp, he1z] <;> rfl) ?_
        refine aK 2 121 false ?_
        refine aL 2 (by simp [go_sem, enc_none, hg0, hdp, he1z] <;> rfl) ?_
        refine aK 2 125 false ?_
        refine aL 2 (by simp [go_sem, enc_none, hg0, hdp, he1z] <;> rfl) ?_
        refine aK 3 129 false ?_
        refine aK 1 132 true ?_
        refine aK 1 129 false ?_
        refine aL 2 (by simp [go_sem, enc_none, hg0, hdp, he1z] <;> rfl) ?_
        refine al_fnG 136 true true (by simp [go_sem]) rfl (by simp [go_sem]) rfl rfl (by simp [go_sem, enc_none, hg0, hdp, he1z] <;> rfl) call22 (c_alive σ hσ) (by simp [go_sem, enc_none, hg0, hdp, he1z] <;> rfl) (by simp [go_sem, enc_none, hg0, hdp, he1z]) rfl rfl ?_
        refine aL 2 (by simp [go_sem, enc_none, hg0, hdp, he1z] <;> rfl) ?_
        refine al_nil ?_
        refine awp_ret ?_
        refine ends_ret (by simp [go_sem, enc_none, hg0, hdp, he1z] <;> rfl) (by simp [go_sem]) ?_
        exact ⟨by simp [go_sem], by simp [go_sem]⟩
       ·first | (cases h73; done) | (simp at h73; done) | exact absurd (by simpa using h73) he1z
 ·refine ul_run 3 (by simp [go_sem, enc_none] <;> rfl) ?_
  refine ul_nil ?_
  refine aL 3 (by simp [go_sem, enc_none] <;> rfl) ?_
  refine al_nil ?_
  refine awp_seq (awp_reg ?_)
  refine aL 1 (by simp [go_sem, enc_none] <;> rfl) ?_
  refine aF call36 ((hPx) _ (by exact hgl)) (by simp [go_sem, enc_none] <;> rfl) (by simp [go_sem, enc_none]) ?_
  refine aL 6 (by simp [go_sem, enc_none] <;> rfl) ?_
  refine al_nil ?_
  refine awp_seq (awp_seq (aR (by simp [go_sem, enc_none] <;> rfl) ?_))
  refine awp_cond (by first | rfl | (simp [go_sem, enc_none] <;> rfl)) (fun h74 => ?_) (fun h74 => ?_)
  ·have hgz : g ≠ 0 := by simpa using h74
   have hpd : deq p dnone = true := by rw [hp, plain_none (by rw [← hg]; exact hgz)]; exact deq_refl _
   refine awp_seq (awp_reg ?_)
   refine aL 2 (by simp [go_sem, enc_none, hpd] <;> rfl) ?_
   refine aF call35 ((c_Same p hps dnone) _ (by exact hgl)) (by simp [go_sem, enc_none, hpd] <;> rfl) (by simp [go_sem, enc_none, hpd]) ?_
   refine aL 1 (by simp [go_sem, enc_none, hpd] <;> rfl) ?_
   refine al_splitT 42 (by first | rfl | (simp [go_sem, enc_none, hpd] <;> rfl)) (fun h75 => ?_) (fun h75 => ?_)
   ·refine al_fnG 42 true true (by simp [go_sem]) rfl (by simp [go_sem]) rfl rfl (by simp [go_sem, enc_none, hpd] <;> rfl) call22 (c_alive σ hσ) (by simp [go_sem, enc_none, hpd] <;> rfl) (by simp [go_sem, enc_none, hpd]) rfl rfl ?_
    refine aL 2 (by simp [go_sem, enc_none, hpd] <;> rfl) ?_
    refine al_nil ?_
    refine awp_ret ?_
    refine then_ret ?_
    refine ends_ret (by simp [go_sem, enc_none, hpd] <;> rfl) (by simp [go_sem]) ?_
    exact ⟨by simp [go_sem], by simp [go_sem]⟩
   ·first | (cases h75; done) | (simp at h75; done)
  ·have hg0 : g = 0 := by simpa using h74
   have hx0 : (mplain x).2 = 0 := by rw [← hg]; exact hg0
   have hzx := plain_zero hx0
   have hgd := mcheck_good hzx
   have hpp := plain_plain (x := x) (by omega) hx0
   rw [← hp] at hpp
   have hpsz : p.size ≤ x.size := by rw [hp, plain_fst hzx hx0]; exact mren_size hgd []
   have hPp : Pur Tryz.prog (GL kr) 36 [.pv (enc p)] (.tuple [.pv (enc p), .pv (.int .i64 0)]) := by have h := c_mPlain (kr := kr) p (by omega); rw [hpp] at h; exact h
   obtain ⟨r, hr⟩ : ∃ v0, v0 = (brn x [] [] 0).1 := ⟨_, rfl⟩
   obtain ⟨m, hm⟩ : ∃ v0, v0 = (brn x [] [] 0).2 := ⟨_, rfl⟩
   have hRn : Pur Tryz.prog (GL kr) 39 [.pv (enc x), .pv (.slice []), .pv (.slice []), .pv (.int .i64 0)] (.tuple [.pv (enc r), .pv (.int .i64 ((m : Nat) : Int))]) := by rw [hr, hm]; exact c_renamedL x hgd [] [] 0 rfl (by simp; omega)
   have hrs : r.size ≤ x.size := by rw [hr]; exact ((brn_al hgd [] [] 0 rfl (fun y hy => by simp at hy) (by omega)).good (fun z hz => by obtain ⟨i, hi, rfl⟩ := hz; exact dotB_ok (by decide) (by omega) (by omega)) hgd (fun z hz => by simp at hz)).2.1
   obtain ⟨ir, hir⟩ : ∃ v0, v0 = (msame x r).1 := ⟨_, rfl⟩
   obtain ⟨er, her⟩ : ∃ v0, v0 = (msame x r).2 := ⟨_, rfl⟩
   have hSr : Pur Tryz.prog (GL kr) 37 [.pv (enc x), .pv (enc r)] (.tuple [.pv (.bool ir), .pv (.int .i64 er)]) := by rw [hir, her]; exact c_mSame x r (by omega) (by omega)
   refine awp_skip ?_
   refine awp_seq (awp_reg ?_)
   refine aL 1 (by simp [go_sem, enc_none, hg0, hdp] <;> rfl) ?_
   refine aF call36 ((hPp) _ (by exact hgl)) (by simp [go_sem, enc_none, hg0, hdp] <;> rfl) (by simp [go_sem, enc_none, hg0, hdp]) ?_
   refine aL 6 (by simp [go_sem, enc_none, hg0, hdp] <;> rfl) ?_
   refine al_nil ?_
   refine awp_seq (awp_seq (awp_reg ?_))
   refine aL 3 (by simp [go_sem, enc_none, hg0, hdp] <;> rfl) ?_
   refine al_splitT 52 (by first | rfl | (simp [go_sem, enc_none, hg0, hdp] <;> rfl)) (fun h76 => ?_) (fun h76 => ?_)
   ·first | (cases h76; done) | (simp at h76; done)
   ·refine aLG 2 52 false (by simp [go_sem, enc_none, hg0, hdp] <;> rfl) ?_
    refine al_fnG 52 false false (by simp [go_sem]) rfl (by simp [go_sem]) rfl rfl (by simp [go_sem, enc_none, hg0, hdp] <;> rfl) call35 ((c_Same p hps p) _ (by exact hgl)) (by simp [go_sem, enc_none, hg0, hdp] <;> rfl) (by simp [go_sem, enc_none, hg0, hdp]) rfl rfl ?_
    refine aLG 1 52 false (by simp [go_sem, enc_none, hg0, hdp] <;> rfl) ?_
    refine aL 1 (by simp [go_sem, enc_none, hg0, hdp] <;> rfl) ?_
    refine al_nil ?_
    refine awp_cond (by first | rfl | (simp [go_sem, enc_none, hg0, hdp] <;> rfl)) (fun h77 => ?_) (fun h77 => ?_)
    ·first | (cases h77; done) | (simp at h77; done)
    ·refine awp_skip ?_
     refine awp_seq (awp_reg ?_)
     refine aL 1 (by simp [go_sem, enc_none, hg0, hdp] <;> rfl) ?_
     refine aF call39 ((hRn) _ (by exact hgl)) (by simp [go_sem, enc_none, hg0, hdp] <;> rfl) (by simp [go_sem, enc_none, hg0, hdp]) ?_
     refine aL 6 (by simp [go_sem, enc_none, hg0, hdp] <;> rfl) ?_
     refine al_nil ?_
     refine awp_seq (awp_reg ?_)
     refine aL 2 (by simp [go_sem, enc_none, hg0, hdp] <;> rfl) ?_
     refine aF call37 ((hSr) _ (by exact hgl)) (by simp [go_sem, enc_none, hg0, hdp] <;> rfl) (by simp [go_sem, enc_none, hg0, hdp]) ?_
     refine aL 5 (by simp [go_sem, enc_none, hg0, hdp] <;> rfl) ?_
     refine al_nil ?_
     refine awp_seq (awp_seq (awp_reg ?_))
     refine aL 1 (by simp [go_sem, enc_none, hg0, hdp] <;> rfl) ?_
     refine aF call40 ((c_names x hgd (by omega)) _ (by exact hgl)) (by simp [go_sem, enc_none, hg0, hdp] <;> rfl) (by simp [go_sem, enc_none, hg0, hdp]) ?_
     refine aL 2 (by simp [go_sem, enc_none, hg0, hdp] <;> rfl) ?_
     refine al_splitT 72 (by first | rfl | (simp [go_sem, enc_none, hg0, hdp] <;> rfl)) (fun h78 => ?_) (fun h78 => ?_)
     ·have hnn : mnames x = false := by simpa using h78
      have hsr := same_ren (x := x) (by omega) hx0 hnn
      rw [← hr] at hsr
      have hir1 : ir = true := by rw [hir, hsr]
      have her1 : er = 0 := by rw [her, hsr]
      refine aLG 3 72 true (by simp [go_sem, enc_none, hg0, hdp, hir1, her1] <;> rfl) ?_
      refine al_splitT 75 (by first | rfl | (simp [go_sem, enc_none, hg0, hdp, hir1, her1] <;> rfl)) (fun h79 => ?_) (fun h79 => ?_)
      ·first | (cases h79; done) | (simp at h79; done)
      ·refine aLG 2 75 false (by simp [go_sem, enc_none, hg0, hdp, hir1, her1] <;> rfl) ?_
       refine aLG 1 72 true (by simp [go_sem, enc_none, hg0, hdp, hir1, her1] <;> rfl) ?_
       refine aL 1 (by simp [go_sem, enc_none, hg0, hdp, hir1, her1] <;> rfl) ?_
       refine al_nil ?_
       refine awp_cond (by first | rfl | (simp [go_sem, enc_none, hg0, hdp, hir1, her1] <;> rfl)) (fun h80 => ?_) (fun h80 => ?_)
       ·first | (cases h80; done) | (simp at h80; done)
       ·refine awp_skip ?_
        refine awp_seq (awp_reg ?_)
        refine aL 2 (by simp [go_sem, enc_none, hg0, hdp, hir1, her1] <;> rfl) ?_
        refine aF call37 ((hS1) _ (by exact hgl)) (by simp [go_sem, enc_none, hg0, hdp, hir1, her1] <;> rfl) (by simp [go_sem, enc_none, hg0, hdp, hir1, her1]) ?_
        refine aL 5 (by simp [go_sem, enc_none, hg0, hdp, hir1, her1] <;> rfl) ?_
        refine al_nil ?_
        refine awp_seq (awp_reg ?_)
        refine aL 2 (by simp [go_sem, enc_none, hg0, hdp, hir1, her1] <;> rfl) ?_
        refine aF call37 ((hS2) _ (by exact hgl)) (by simp [go_sem, enc_none, hg0, hdp, hir1, her1] <;> rfl) (by simp [go_sem, enc_none, hg0, hdp, hir1, her1]) ?_
        refine aL 5 (by simp [go_sem, enc_none, hg0, hdp, hir1, her1] <;> rfl) ?_
        refine al_nil ?_
        refine awp_seq (awp_reg ?_)
        refine aL 2 (by simp [go_sem, enc_none, hg0, hdp, hir1, her1] <;> rfl) ?_
        refine aF call37 ((hS3) _ (by exact hgl)) (by simp [go_sem, enc_none, hg0, hdp, hir1, her1] <;> rfl) (by simp [go_sem, enc_none, hg0, hdp, hir1, her1]) ?_
        refine aL 5 (by simp [go_sem, enc_none, hg0, hdp, hir1, her1] <;> rfl) ?_
        refine al_nil ?_
        refine awp_seq (awp_reg ?_)
        refine aL 2 (by simp [go_sem, enc_none, hg0, hdp, hir1, her1] <;> rfl) ?_
        refine aF call37 ((hS4) _ (by exact hgl)) (by simp [go_sem, enc_none, hg0, hdp, hir1, her1] <;> rfl) (by simp [go_sem, enc_none, hg0, hdp, hir1, her1]) ?_
        refine aL 5 (by simp [go_sem, enc_none, hg0, hdp, hir1, her1] <;> rfl) ?_
        refine al_nil ?_
        refine awp_seq (awp_seq (awp_reg ?_))
        refine aL 3 (by simp [go_sem, enc_none, hg0, hdp, hir1, her1] <;> rfl) ?_
        refine al_splitT 106 (by first | rfl | (simp [go_sem, enc_none, hg0, hdp, hir1, her1] <;> rfl)) (fun h81 => ?_) (fun h81 => ?_)
        ·have he10 : e1 = 0 := by simpa using h81
         obtain ⟨hsy1, hsy2⟩ := msame_sym (x := x) (y := y) (by rw [← he1]; exact he10)
         have he20 : e2 = 0 := by rw [he2]; exact hsy1
         have hi12 : i2 = i1 := by rw [hi1, hi2]; exact hsy2.symm
         refine aLG 3 106 true (by simp [go_sem, enc_none, hg0, hdp, hir1, her1, he20, hi12, he10] <;> rfl) ?_
         refine al_splitT 109 (by first | rfl | (simp [go_sem, enc_none, hg0, hdp, hir1, her1, he20, hi12, he10] <;> rfl)) (fun h82 => ?_) (fun h82 => ?_)
         ·first | (cases h82; done) | (simp at h82; done)
         ·refine aLG 3 109 false (by simp [go_sem, enc_none, hg0, hdp, hir1, her1, he20, hi12, he10] <;> rfl) ?_
          refine aLG 1 106 true (by simp [go_sem, enc_none, hg0, hdp, hir1, her1, he20, hi12, he10] <;> rfl) ?_
          refine aL 1 (by simp [go_sem, enc_none, hg0, hdp, hir1, her1, he20, hi12, he10] <;> rfl) ?_
          refine al_nil ?_
          refine awp_cond (by first | rfl | (simp [go_sem, enc_none, hg0, hdp, hir1, her1, he20, hi12, he10] <;> rfl)) (fun h83 => ?_) (fun h83 => ?_)
          ·first | (cases h83; done) | (simp at h83; done)
          ·refine awp_skip ?_
           refine awp_seq (awp_reg ?_)
           refine aL 3 (by simp [go_sem, enc_none, hg0, hdp, hir1, her1, he20, hi12, he10] <;> rfl) ?_
           refine al_splitT 117 (by first | rfl | (simp [go_sem, enc_none, hg0, hdp, hir1, her1, he20, hi12, he10] <;> rfl)) (fun h84 => ?_) (fun h84 => ?_)
           ·first | (cases h84; done) | (simp at h84; done) | exact absurd (by simpa using h84) he1z
           ·have w1 : e1 = 0 := he10
            refine aLG 2 117 false (by simp [go_sem, enc_none, hg0, hdp, hir1, her1, he20, hi12, he10] <;> rfl) ?_
            refine aL 2 (by simp [go_sem, enc_none, hg0, hdp, hir1, her1, he20, hi12, he10] <;> rfl) ?_
            refine al_splitT 121 (by first | rfl | (simp [go_sem, enc_none, hg0, hdp, hir1, her1, he20, hi12, he10] <;> rfl)) (fun h85 => ?_) (fun h85 => ?_)
            ·refine aK 2 121 false ?_
             refine aL 2 (by simp [go_sem, enc_none, hg0, hdp, hir1, her1, he20, hi12, he10] <;> rfl) ?_
             refine aK 2 125 false ?_
             refine aL 2 (by simp [go_sem, enc_none, hg0, hdp, hir1, her1, he20, hi12, he10] <;> rfl) ?_
             refine aK 3 129 false ?_
             refine aK 1 132 true ?_
             refine aK 1 129 false ?_
             refine aL 2 (by simp [go_sem, enc_none, hg0, hdp, hir1, her1, he20, hi12, he10] <;> rfl) ?_
             refine al_fnG 136 true true (by simp [go_sem]) rfl (by simp [go_sem]) rfl rfl (by simp [go_sem, enc_none, hg0, hdp, hir1, her1, he20, hi12, he10] <;> rfl) call22 (c_alive σ hσ) (by simp [go_sem, enc_none, hg0, hdp, hir1, her1, he20, hi12, he10] <;> rfl) (by simp [go_sem, enc_none, hg0, hdp, hir1, her1, he20, hi12, he10]) rfl rfl ?_
             refine aL 2 (by simp [go_sem, enc_none, hg0, hdp, hir1, her1, he20, hi12, he10] <;> rfl) ?_
             refine al_nil ?_
             refine awp_ret ?_
             refine ends_ret (by simp [go_sem, enc_none, hg0, hdp, hir1, her1, he20, hi12, he10] <;> rfl) (by simp [go_sem]) ?_
             exact ⟨by simp [go_sem], by simp [go_sem]⟩
            ·have w2 : e3 = 0 := by simpa using h85
             refine aLG 2 121 false (by simp [go_sem, enc_none, hg0, hdp, hir1, her1, he20, hi12, he10] <;> rfl) ?_
             refine aL 2 (by simp [go_sem, enc_none, hg0, hdp, hir1, her1, he20, hi12, he10] <;> rfl) ?_
             refine al_splitT 125 (by first | rfl | (simp [go_sem, enc_none, hg0, hdp, hir1, her1, he20, hi12, he10] <;> rfl)) (fun h86 => ?_) (fun h86 => ?_)
             ·refine aK 2 125 false ?_
              refine aL 2 (by simp [go_sem, enc_none, hg0, hdp, hir1, her1, he20, hi12, he10] <;> rfl) ?_
              refine aK 3 129 false ?_
              refine aK 1 132 true ?_
              refine aK 1 129 false ?_
              refine aL 2 (by simp [go_sem, enc_none, hg0, hdp, hir1, her1, he20, hi12, he10] <;> rfl) ?_
              refine al_fnG 136 true true (by simp [go_sem]) rfl (by simp [go_sem]) rfl rfl (by simp [go_sem, enc_none, hg0, hdp, hir1, her1, he20, hi12, he10] <;> rfl) call22 (c_alive σ hσ) (by simp [go_sem, enc_none, hg0, hdp, hir1, her1, he20, hi12, he10] <;> rfl) (by simp [go_sem, enc_none, hg0, hdp, hir1, her1, he20, hi12, he10]) rfl rfl ?_
              refine aL 2 (by simp [go_sem, enc_none, hg0, hdp, hir1, her1, he20, hi12, he10] <;> rfl) ?_
              refine al_nil ?_
              refine awp_ret ?_
              refine ends_ret (by simp [go_sem, enc_none, hg0, hdp, hir1, her1, he20, hi12, he10] <;> rfl) (by simp [go_sem]) ?_
              exact ⟨by simp [go_sem], by simp [go_sem]⟩
             ·have w3 : i1 = true := by simpa using h86
              refine aLG 2 125 false (by simp [go_sem, enc_none, hg0, hdp, hir1, her1, he20, hi12, he10] <;> rfl) ?_
              refine aL 2 (by simp [go_sem, enc_none, hg0, hdp, hir1, her1, he20, hi12, he10] <;> rfl) ?_
              refine al_splitT 129 (by first | rfl | (simp [go_sem, enc_none, hg0, hdp, hir1, her1, he20, hi12, he10] <;> rfl)) (fun h87 => ?_) (fun h87 => ?_)
              ·refine aK 3 129 false ?_
               refine aK 1 132 true ?_
               refine aK 1 129 false ?_
               refine aL 2 (by simp [go_sem, enc_none, hg0, hdp, hir1, her1, he20, hi12, he10] <;> rfl) ?_
               refine al_fnG 136 true true (by simp [go_sem]) rfl (by simp [go_sem]) rfl rfl (by simp [go_sem, enc_none, hg0, hdp, hir1, her1, he20, hi12, he10] <;> rfl) call22 (c_alive σ hσ) (by simp [go_sem, enc_none, hg0, hdp, hir1, her1, he20, hi12, he10] <;> rfl) (by simp [go_sem, enc_none, hg0, hdp, hir1, her1, he20, hi12, he10]) rfl rfl ?_
               refine aL 2 (by simp [go_sem, enc_none, hg0, hdp, hir1, her1, he20, hi12, he10] <;> rfl) ?_
               refine al_nil ?_
               refine awp_ret ?_
               refine ends_ret (by simp [go_sem, enc_none, hg0, hdp, hir1, her1, he20, hi12, he10] <;> rfl) (by simp [go_sem]) ?_
               exact ⟨by simp [go_sem], by simp [go_sem]⟩
              ·have w4 : i3 = true := by simpa using h87
               obtain ⟨htr1, htr2⟩ := msame_trans (x := x) (y := y) (z := z) (by rw [← he1]; exact w1) (by rw [← he3]; exact w2) (by rw [← hi1]; exact w3) (by rw [← hi3]; exact w4)
               have he40 : e4 = 0 := by rw [he4]; exact htr1
               have hi41 : i4 = true := by rw [hi4]; exact htr2
               refine aLG 3 129 false (by simp [go_sem, enc_none, hg0, hdp, hir1, her1, he20, hi12, he10, he40, hi41] <;> rfl) ?_
               refine al_splitT 132 (by first | rfl | (simp [go_sem, enc_none, hg0, hdp, hir1, her1, he20, hi12, he10, he40, hi41] <;> rfl)) (fun h88 => ?_) (fun h88 => ?_)
               ·refine aLG 1 132 true (by simp [go_sem, enc_none, hg0, hdp, hir1, her1, he20, hi12, he10, he40, hi41] <;> rfl) ?_
                refine aLG 1 129 false (by simp [go_sem, enc_none, hg0, hdp, hir1, her1, he20, hi12, he10, he40, hi41] <;> rfl) ?_
                refine aL 2 (by simp [go_sem, enc_none, hg0, hdp, hir1, her1, he20, hi12, he10, he40, hi41] <;> rfl) ?_
                refine al_splitT 136 (by first | rfl | (simp [go_sem, enc_none, hg0, hdp, hir1, her1, he20, hi12, he10, he40, hi41] <;> rfl)) (fun h89 => ?_) (fun h89 => ?_)
                ·refine al_fnG 136 true true (by simp [go_sem]) rfl (by simp [go_sem]) rfl rfl (by simp [go_sem, enc_none, hg0, hdp, hir1, her1, he20, hi12, he10, he40, hi41] <;> rfl) call22 (c_alive σ hσ) (by simp [go_sem, enc_none, hg0, hdp, hir1, her1, he20, hi12, he10, he40, hi41] <;> rfl) (by simp [go_sem, enc_none, hg0, hdp, hir1, her1, he20, hi12, he10, he40, hi41]) rfl rfl ?_
                 refine aL 2 (by simp [go_sem, enc_none, hg0, hdp, hir1, her1, he20, hi12, he10, he40, hi41] <;> rfl) ?_
                 refine al_nil ?_
                 refine awp_ret ?_
                 refine ends_ret (by simp [go_sem, enc_none, hg0, hdp, hir1, her1, he20, hi12, he10, he40, hi41] <;> rfl) (by simp [go_sem]) ?_
                 exact ⟨by simp [go_sem], by simp [go_sem]⟩
                ·first | (cases h89; done) | (simp at h89; done)
               ·first | (cases h88; done) | (simp at h88; done)
        ·have he1z : ¬ e1 = 0 := by simpa using h81
         refine aK 3 106 true ?_
         refine aK 3 109 false ?_
         refine aK 1 106 true ?_
         refine aL 1 (by simp [go_sem, enc_none, hg0, hdp, hir1, her1, he1z] <;> rfl) ?_
         refine al_nil ?_
         refine awp_cond (b := false) (by simp [go_sem, enc_none, hg0, hdp, hir1, her1, he1z, h74, h76, h77, h78, h79, h80, h81]) (fun h => ?_) (fun h => ?_)
         ·cases h
         refine awp_skip ?_
         refine awp_seq (awp_reg ?_)
         refine aL 3 (by simp [go_sem, enc_none, hg0, hdp, hir1, her1, he1z] <;> rfl) ?_
         refine al_splitT 117 (by first | rfl | (simp [go_sem, enc_none, hg0, hdp, hir1, her1, he1z] <;> rfl)) (fun h90 => ?_) (fun h90 => ?_)
         ·refine aK 2 117 false ?_
          refine aL 2 (by simp [go_sem, enc_none, hg0, hdp, hir1, her1, he1z] <;> rfl) ?_
          refine aK 2 121 false ?_
          refine aL 2 (by simp [go_sem, enc_none, hg0, hdp, hir1, her1, he1z] <;> rfl) ?_
          refine aK 2 125 false ?_
          refine aL 2 (by simp [go_sem, enc_none, hg0, hdp, hir1, her1, he1z] <;> rfl) ?_
          refine aK 3 129 false ?_
          refine aK 1 132 true ?_
          refine aK 1 129 false ?_
          refine aL 2 (by simp [go_sem, enc_none, hg0, hdp, hir1, her1, he1z] <;> rfl) ?_
          refine al_fnG 136 true true (by simp [go_sem]) rfl (by simp [go_sem]) rfl rfl (by simp [go_sem, enc_none, hg0, hdp, hir1, her1, he1z] <;> rfl) call22 (c_alive σ hσ) (by simp [go_sem, enc_none, hg0, hdp, hir1, her1, he1z] <;> rfl) (by simp [go_sem, enc_none, hg0, hdp, hir1, her1, he1z]) rfl rfl ?_
          refine aL 2 (by simp [go_sem, enc_none, hg0, hdp, hir1, her1, he1z] <;> rfl) ?_
          refine al_nil ?_
          refine awp_ret ?_
          refine ends_ret (by simp [go_sem, enc_none, hg0, hdp, hir1, her1, he1z] <;> rfl) (by simp [go_sem]) ?_
          exact ⟨by simp [go_sem], by simp [go_sem]⟩
         ·first | (cases h90; done) | (simp at h90; done) | exact absurd (by simpa using h90) he1z
     ·refine aK 3 72 true ?_
      refine aK 2 75 false ?_
      refine aK 1 72 true ?_
      refine aL 1 (by simp [go_sem, enc_none, hg0, hdp] <;> rfl) ?_
      refine al_nil ?_
      refine awp_cond (b := false) (by simp [go_sem, enc_none, hg0, hdp, h74, h76, h77, h78]) (fun h => ?_) (fun h => ?_)
      ·cases h
      refine awp_skip ?_
      refine awp_seq (awp_reg ?_)
      refine aL 2 (by simp [go_sem, enc_none, hg0, hdp] <;> rfl) ?_
      refine aF call37 ((hS1) _ (by exact hgl)) (by simp [go_sem, enc_none, hg0, hdp] <;> rfl) (by simp [go_sem, enc_none, hg0, hdp]) ?_
      refine aL 5 (by simp [go_sem, enc_none, hg0, hdp] <;> rfl) ?_
      refine al_nil ?_
      refine awp_seq (awp_reg ?_)
      refine aL 2 (by simp [go_sem, enc_none, hg0, hdp] <;> rfl) ?_
      refine aF call37 ((hS2) _ (by exact hgl)) (by simp [go_sem, enc_none, hg0, hdp] <;> rfl) (by simp [go_sem, enc_none, hg0, hdp]) ?_
      refine aL 5 (by simp [go_sem, enc_none, hg0, hdp] <;> rfl) ?_
      refine al_nil ?_
      refine awp_seq (awp_reg ?_)
      refine aL 2 (by simp [go_sem, enc_none, hg0, hdp] <;> rfl) ?_
      refine aF call37 ((hS3) _ (by exact hgl)) (by simp [go_sem, enc_none, hg0, hdp] <;> rfl) (by simp [go_sem, enc_none, hg0, hdp]) ?_
      refine aL 5 (by simp [go_sem, enc_none, hg0, hdp] <;> rfl) ?_
      refine al_nil ?_
      refine awp_seq (awp_reg ?_)
      refine aL 2 (by simp [go_sem, enc_none, hg0, hdp] <;> rfl) ?_
      refine aF call37 ((hS4) _ (by exact hgl)) (by simp [go_sem, enc_none, hg0, hdp] <;> rfl) (by simp [go_sem, enc_none, hg0, hdp]) ?_
      refine aL 5 (by simp [go_sem, enc_none, hg0, hdp] <;> rfl) ?_
      refine al_nil ?_
      refine awp_seq (awp_seq (awp_reg ?_))
      refine aL 3 (by simp [go_sem, enc_none, hg0, hdp] <;> rfl) ?_
      refine al_splitT 106 (by first | rfl | (simp [go_sem, enc_none, hg0, hdp] <;> rfl)) (fun h91 => ?_) (fun h91 => ?_)
      ·have he10 : e1 = 0 := by simpa using h91
       obtain ⟨hsy1, hsy2⟩ := msame_sym (x := x) (y := y) (by rw [← he1]; exact he10)
       have he20 : e2 = 0 := by rw [he2]; exact hsy1
       have hi12 : i2 = i1 := by rw [hi1, hi2]; exact hsy2.symm
       refine aLG 3 106 true (by simp [go_sem, enc_none, hg0, hdp, he20, hi12, he10] <;> rfl) ?_
       refine al_splitT 109 (by first | rfl | (simp [go_sem, enc_none, hg0, hdp, he20, hi12, he10] <;> rfl)) (fun h92 => ?_) (fun h92 => ?_)
       ·first | (cases h92; done) | (simp at h92; done)
       ·refine aLG 3 109 false (by simp [go_sem, enc_none, hg0, hdp, he20, hi12, he10] <;> rfl) ?_
        refine aLG 1 106 true (by simp [go_sem, enc_none, hg0, hdp, he20, hi12, he10] <;> rfl) ?_
        refine aL 1 (by simp [go_sem, enc_none, hg0, hdp, he20, hi12, he10] <;> rfl) ?_
        refine al_nil ?_
        refine awp_cond (by first | rfl | (simp [go_sem, enc_none, hg0, hdp, he20, hi12, he10] <;> rfl)) (fun h93 => ?_) (fun h93 => ?_)
        ·first | (cases h93; done) | (simp at h93; done)
        ·refine awp_skip ?_
         refine awp_seq (awp_reg ?_)
         refine aL 3 (by simp [go_sem, enc_none, hg0, hdp, he20, hi12, he10] <;> rfl) ?_
         refine al_splitT 117 (by first | rfl | (simp [go_sem, enc_none, hg0, hdp, he20, hi12, he10] <;> rfl)) (fun h94 => ?_) (fun h94 => ?_)
         ·first | (cases h94; done) | (simp at h94; done) | exact absurd (by simpa using h94) he1z
         ·have w1 : e1 = 0 := he10
          refine aLG 2 117 false (by simp [go_sem, enc_none, hg0, hdp, he20, hi12, he10] <;> rfl) ?_
          refine aL 2 (by simp [go_sem, enc_none, hg0, hdp, he20, hi12, he10] <;> rfl) ?_
          refine al_splitT 121 (by first | rfl | (simp [go_sem, enc_none, hg0, hdp, he20, hi12, he10] <;> rfl)) (fun h95 => ?_) (fun h95 => ?_)
          ·refine aK 2 121 false ?_
           refine aL 2 (by simp [go_sem, enc_none, hg0, hdp, he20, hi12, he10] <;> rfl) ?_
           refine aK 2 125 false ?_
           refine aL 2 (by simp [go_sem, enc_none, hg0, hdp, he20, hi12, he10] <;> rfl) ?_
           refine aK 3 129 false ?_
           refine aK 1 132 true ?_
           refine aK 1 129 false ?_
           refine aL 2 (by simp [go_sem, enc_none, hg0, hdp, he20, hi12, he10] <;> rfl) ?_
           refine al_fnG 136 true true (by simp [go_sem]) rfl (by simp [go_sem]) rfl rfl (by simp [go_sem, enc_none, hg0, hdp, he20, hi12, he10] <;> rfl) call22 (c_alive σ hσ) (by simp [go_sem, enc_none, hg0, hdp, he20, hi12, he10] <;> rfl) (by simp [go_sem, enc_none, hg0, hdp, he20, hi12, he10]) rfl rfl ?_
           refine aL 2 (by simp [go_sem, enc_none, hg0, hdp, he20, hi12, he10] <;> rfl) ?_
           refine al_nil ?_
           refine awp_ret ?_
           refine ends_ret (by simp [go_sem, enc_none, hg0, hdp, he20, hi12, he10] <;> rfl) (by simp [go_sem]) ?_
           exact ⟨by simp [go_sem], by simp [go_sem]⟩
          ·have w2 : e3 = 0 := by simpa using h95
           refine aLG 2 121 false (by simp [go_sem, enc_none, hg0, hdp, he20, hi12, he10] <;> rfl) ?_
           refine aL 2 (by simp [go_sem, enc_none, hg0, hdp, he20, hi12, he10] <;> rfl) ?_
           refine al_splitT 125 (by first | rfl | (simp [go_sem, enc_none, hg0, hdp, he20, hi12, he10] <;> rfl)) (fun h96 => ?_) (fun h96 => ?_)
           ·refine aK 2 125 false ?_
            refine aL 2 (by simp [go_sem, enc_none, hg0, hdp, he20, hi12, he10] <;> rfl) ?_
            refine aK 3 129 false ?_
            refine aK 1 132 true ?_
            refine aK 1 129 false ?_
            refine aL 2 (by simp [go_sem, enc_none, hg0, hdp, he20, hi12, he10] <;> rfl) ?_
            refine al_fnG 136 true true (by simp [go_sem]) rfl (by simp [go_sem]) rfl rfl (by simp [go_sem, enc_none, hg0, hdp, he20, hi12, he10] <;> rfl) call22 (c_alive σ hσ) (by simp [go_sem, enc_none, hg0, hdp, he20, hi12, he10] <;> rfl) (by simp [go_sem, enc_none, hg0, hdp, he20, hi12, he10]) rfl rfl ?_
            refine aL 2 (by simp [go_sem, enc_none, hg0, hdp, he20, hi12, he10] <;> rfl) ?_
            refine al_nil ?_
            refine awp_ret ?_
            refine ends_ret (by simp [go_sem, enc_none, hg0, hdp, he20, hi12, he10] <;> rfl) (by simp [go_sem]) ?_
            exact ⟨by simp [go_sem], by simp [go_sem]⟩
           ·have w3 : i1 = true := by simpa using h96
            refine aLG 2 125 false (by simp [go_sem, enc_none, hg0, hdp, he20, hi12, he10] <;> rfl) ?_
            refine aL 2 (by simp [go_sem, enc_none, hg0, hdp, he20, hi12, he10] <;> rfl) ?_
            refine al_splitT 129 (by first | rfl | (simp [go_sem, enc_none, hg0, hdp, he20, hi12, he10] <;> rfl)) (fun h97 => ?_) (fun h97 => ?_)
            ·refine aK 3 129 false ?_
             refine aK 1 132 true ?_
             refine aK 1 129 false ?_
             refine aL 2 (by simp [go_sem, enc_none, hg0, hdp, he20, hi12, he10] <;> rfl) ?_
             refine al_fnG 136 true true (by simp [go_sem]) rfl (by simp [go_sem]) rfl rfl (by simp [go_sem, enc_none, hg0, hdp, he20, hi12, he10] <;> rfl) call22 (c_alive σ hσ) (by simp [go_sem, enc_none, hg0, hdp, he20, hi12, he10] <;> rfl) (by simp [go_sem, enc_none, hg0, hdp, he20, hi12, he10]) rfl rfl ?_
             refine aL 2 (by simp [go_sem, enc_none, hg0, hdp, he20, hi12, he10] <;> rfl) ?_
             refine al_nil ?_
             refine awp_ret ?_
             refine ends_ret (by simp [go_sem, enc_none, hg0, hdp, he20, hi12, he10] <;> rfl) (by simp [go_sem]) ?_
             exact ⟨by simp [go_sem], by simp [go_sem]⟩
            ·have w4 : i3 = true := by simpa using h97
             obtain ⟨htr1, htr2⟩ := msame_trans (x := x) (y := y) (z := z) (by rw [← he1]; exact w1) (by rw [← he3]; exact w2) (by rw [← hi1]; exact w3) (by rw [← hi3]; exact w4)
             have he40 : e4 = 0 := by rw [he4]; exact htr1
             have hi41 : i4 = true := by rw [hi4]; exact htr2
             refine aLG 3 129 false (by simp [go_sem, enc_none, hg0, hdp, he20, hi12, he10, he40, hi41] <;> rfl) ?_
             refine al_splitT 132 (by first | rfl | (simp [go_sem, enc_none, hg0, hdp, he20, hi12, he10, he40, hi41] <;> rfl)) (fun h98 => ?_) (fun h98 => ?_)
             ·refine aLG 1 132 true (by simp [go_sem, enc_none, hg0, hdp, he20, hi12, he10, he40, hi41] <;> rfl) ?_
              refine aLG 1 129 false (by simp [go_sem, enc_none, hg0, hdp, he20, hi12, he10, he40, hi41] <;> rfl) ?_
              refine aL 2 (by simp [go_sem, enc_none, hg0, hdp, he20, hi12, he10, he40, hi41] <;> rfl) ?_
              refine al_splitT 136 (by first | rfl | (simp [go_sem, enc_none, hg0, hdp, he20, hi12, he10, he40, hi41] <;> rfl)) (fun h99 => ?_) (fun h99 => ?_)
              ·refine al_fnG 136 true true (by simp [go_sem]) rfl (by simp [go_sem]) rfl rfl (by simp [go_sem, enc_none, hg0, hdp, he20, hi12, he10, he40, hi41] <;> rfl) call22 (c_alive σ hσ) (by simp [go_sem, enc_none, hg0, hdp, he20, hi12, he10, he40, hi41] <;> rfl) (by simp [go_sem, enc_none, hg0, hdp, he20, hi12, he10, he40, hi41]) rfl rfl ?_
               refine aL 2 (by simp [go_sem, enc_none, hg0, hdp, he20, hi12, he10, he40, hi41] <;> rfl) ?_
               refine al_nil ?_
               refine awp_ret ?_
               refine ends_ret (by simp [go_sem, enc_none, hg0, hdp, he20, hi12, he10, he40, hi41] <;> rfl) (by simp [go_sem]) ?_
               exact ⟨by simp [go_sem], by simp [go_sem]⟩
              ·first | (cases h99; done) | (simp at h99; done)
             ·first | (cases h98; done) | (simp at h98; done)
      ·have he1z : ¬ e1 = 0 := by simpa using h91
       refine aK 3 106 true ?_
       refine aK 3 109 false ?_
       refine aK 1 106 true ?_
       refine aL 1 (by simp [go_sem, enc_none, hg0, hdp, he1z] <;> rfl) ?_
       refine al_nil ?_
       refine awp_cond (b := false) (by simp [go_sem, enc_none, hg0, hdp, he1z, h74, h76, h77, h78, h91]) (fun h => ?_) (fun h => ?_)
       ·cases h
       refine awp_skip ?_
       refine awp_seq (awp_reg ?_)
       refine aL 3 (by simp [go_sem, enc_none, hg0, hdp, he1z] <;> rfl) ?_
       refine al_splitT 117 (by first | rfl | (simp [go_sem, enc_none, hg0, hdp, he1z] <;> rfl)) (fun h100 => ?_) (fun h100 => ?_)
       ·refine aK 2 117 false ?_
        refine aL 2 (by simp [go_sem, enc_none, hg0, hdp, he1z] <;> rfl) ?_
        refine aK 2 121 false ?_
        refine aL 2 (by simp [go_sem, enc_none, hg0, hdp, he1z] <;> rfl) ?_
        refine aK 2 125 false ?_
        refine aL 2 (by simp [go_sem, enc_none, hg0, hdp, he1z] <;> rfl) ?_
        refine aK 3 129 false ?_
        refine aK 1 132 true ?_
        refine aK 1 129 false ?_
        refine aL 2 (by simp [go_sem, enc_none, hg0, hdp, he1z] <;> rfl) ?_
        refine al_fnG 136 true true (by simp [go_sem]) rfl (by simp [go_sem]) rfl rfl (by simp [go_sem, enc_none, hg0, hdp, he1z] <;> rfl) call22 (c_alive σ hσ) (by simp [go_sem, enc_none, hg0, hdp, he1z] <;> rfl) (by simp [go_sem, enc_none, hg0, hdp, he1z]) rfl rfl ?_
        refine aL 2 (by simp [go_sem, enc_none, hg0, hdp, he1z] <;> rfl) ?_
        refine al_nil ?_
        refine awp_ret ?_
        refine ends_ret (by simp [go_sem, enc_none, hg0, hdp, he1z] <;> rfl) (by simp [go_sem]) ?_
        exact ⟨by simp [go_sem], by simp [go_sem]⟩
       ·first | (cases h100; done) | (simp at h100; done) | exact absurd (by simpa using h100) he1z
 ·refine ul_run 3 (by simp [go_sem, enc_none] <;> rfl) ?_
  refine ul_nil ?_
  refine aL 3 (by simp [go_sem, enc_none] <;> rfl) ?_
  refine al_nil ?_
  refine awp_seq (awp_reg ?_)
  refine aL 1 (by simp [go_sem, enc_none] <;> rfl) ?_
  refine aF call36 ((hPx) _ (by exact hgl)) (by simp [go_sem, enc_none] <;> rfl) (by simp [go_sem, enc_none]) ?_
  refine aL 6 (by simp [go_sem, enc_none] <;> rfl) ?_
  refine al_nil ?_
  refine awp_seq (awp_seq (aR (by simp [go_sem, enc_none] <;> rfl) ?_))
  refine awp_cond (by first | rfl | (simp [go_sem, enc_none] <;> rfl)) (fun h101 => ?_) (fun h101 => ?_)
  ·have hgz : g ≠ 0 := by simpa using h101
   have hpd : deq p dnone = true := by rw [hp, plain_none (by rw [← hg]; exact hgz)]; exact deq_refl _
   refine awp_seq (awp_reg ?_)
   refine aL 2 (by simp [go_sem, enc_none, hpd] <;> rfl) ?_
   refine aF call35 ((c_Same p hps dnone) _ (by exact hgl)) (by simp [go_sem, enc_none, hpd] <;> rfl) (by simp [go_sem, enc_none, hpd]) ?_
   refine aL 1 (by simp [go_sem, enc_none, hpd] <;> rfl) ?_
   refine al_splitT 42 (by first | rfl | (simp [go_sem, enc_none, hpd] <;> rfl)) (fun h102 => ?_) (fun h102 => ?_)
   ·refine al_fnG 42 true true (by simp [go_sem]) rfl (by simp [go_sem]) rfl rfl (by simp [go_sem, enc_none, hpd] <;> rfl) call22 (c_alive σ hσ) (by simp [go_sem, enc_none, hpd] <;> rfl) (by simp [go_sem, enc_none, hpd]) rfl rfl ?_
    refine aL 2 (by simp [go_sem, enc_none, hpd] <;> rfl) ?_
    refine al_nil ?_
    refine awp_ret ?_
    refine then_ret ?_
    refine ends_ret (by simp [go_sem, enc_none, hpd] <;> rfl) (by simp [go_sem]) ?_
    exact ⟨by simp [go_sem], by simp [go_sem]⟩
   ·first | (cases h102; done) | (simp at h102; done)
  ·have hg0 : g = 0 := by simpa using h101
   have hx0 : (mplain x).2 = 0 := by rw [← hg]; exact hg0
   have hzx := plain_zero hx0
   have hgd := mcheck_good hzx
   have hpp := plain_plain (x := x) (by omega) hx0
   rw [← hp] at hpp
   have hpsz : p.size ≤ x.size := by rw [hp, plain_fst hzx hx0]; exact mren_size hgd []
   have hPp : Pur Tryz.prog (GL kr) 36 [.pv (enc p)] (.tuple [.pv (enc p), .pv (.int .i64 0)]) := by have h := c_mPlain (kr := kr) p (by omega); rw [hpp] at h; exact h
   obtain ⟨r, hr⟩ : ∃ v0, v0 = (brn x [] [] 0).1 := ⟨_, rfl⟩
   obtain ⟨m, hm⟩ : ∃ v0, v0 = (brn x [] [] 0).2 := ⟨_, rfl⟩
   have hRn : Pur Tryz.prog (GL kr) 39 [.pv (enc x), .pv (.slice []), .pv (.slice []), .pv (.int .i64 0)] (.tuple [.pv (enc r), .pv (.int .i64 ((m : Nat) : Int))]) := by rw [hr, hm]; exact c_renamedL x hgd [] [] 0 rfl (by simp; omega)
   have hrs : r.size ≤ x.size := by rw [hr]; exact ((brn_al hgd [] [] 0 rfl (fun y hy => by simp at hy) (by omega)).good (fun z hz => by obtain ⟨i, hi, rfl⟩ := hz; exact dotB_ok (by decide) (by omega) (by omega)) hgd (fun z hz => by simp at hz)).2.1
   obtain ⟨ir, hir⟩ : ∃ v0, v0 = (msame x r).1 := ⟨_, rfl⟩
   obtain ⟨er, her⟩ : ∃ v0, v0 = (msame x r).2 := ⟨_, rfl⟩
   have hSr : Pur Tryz.prog (GL kr) 37 [.pv (enc x), .pv (enc r)] (.tuple [.pv (.bool ir), .pv (.int .i64 er)]) := by rw [hir, her]; exact c_mSame x r (by omega) (by omega)
   refine awp_skip ?_
   refine awp_seq (awp_reg ?_)
   refine aL 1 (by simp [go_sem, enc_none, hg0, hdp] <;> rfl) ?_
   refine aF call36 ((hPp) _ (by exact hgl)) (by simp [go_sem, enc_none, hg0, hdp] <;> rfl) (by simp [go_sem, enc_none, hg0, hdp]) ?_
   refine aL 6 (by simp [go_sem, enc_none, hg0, hdp] <;> rfl) ?_
   refine al_nil ?_
   refine awp_seq (awp_seq (awp_reg ?_))
   refine aL 3 (by simp [go_sem, enc_none, hg0, hdp] <;> rfl) ?_
   refine al_splitT 52 (by first | rfl | (simp [go_sem, enc_none, hg0, hdp] <;> rfl)) (fun h103 => ?_) (fun h103 => ?_)
   ·first | (cases h103; done) | (simp at h103; done)
   ·refine aLG 2 52 false (by simp [go_sem, enc_none, hg0, hdp] <;> rfl) ?_
    refine al_fnG 52 false false (by simp [go_sem]) rfl (by simp [go_sem]) rfl rfl (by simp [go_sem, enc_none, hg0, hdp] <;> rfl) call35 ((c_Same p hps p) _ (by exact hgl)) (by simp [go_sem, enc_none, hg0, hdp] <;> rfl) (by simp [go_sem, enc_none, hg0, hdp]) rfl rfl ?_
    refine aLG 1 52 false (by simp [go_sem, enc_none, hg0, hdp] <;> rfl) ?_
    refine aL 1 (by simp [go_sem, enc_none, hg0, hdp] <;> rfl) ?_
    refine al_nil ?_
    refine awp_cond (by first | rfl | (simp [go_sem, enc_none, hg0, hdp] <;> rfl)) (fun h104 => ?_) (fun h104 => ?_)
    ·first | (cases h104; done) | (simp at h104; done)
    ·refine awp_skip ?_
     refine awp_seq (awp_reg ?_)
     refine aL 1 (by simp [go_sem, enc_none, hg0, hdp] <;> rfl) ?_
     refine aF call39 ((hRn) _ (by exact hgl)) (by simp [go_sem, enc_none, hg0, hdp] <;> rfl) (by simp [go_sem, enc_none, hg0, hdp]) ?_
     refine aL 6 (by simp [go_sem, enc_none, hg0, hdp] <;> rfl) ?_
     refine al_nil ?_
     refine awp_seq (awp_reg ?_)
     refine aL 2 (by simp [go_sem, enc_none, hg0, hdp] <;> rfl) ?_
     refine aF call37 ((hSr) _ (by exact hgl)) (by simp [go_sem, enc_none, hg0, hdp] <;> rfl) (by simp [go_sem, enc_none, hg0, hdp]) ?_
     refine aL 5 (by simp [go_sem, enc_none, hg0, hdp] <;> rfl) ?_
     refine al_nil ?_
     refine awp_seq (awp_seq (awp_reg ?_))
     refine aL 1 (by simp [go_sem, enc_none, hg0, hdp] <;> rfl) ?_
     refine aF call40 ((c_names x hgd (by omega)) _ (by exact hgl)) (by simp [go_sem, enc_none, hg0, hdp] <;> rfl) (by simp [go_sem, enc_none, hg0, hdp]) ?_
     refine aL 2 (by simp [go_sem, enc_none, hg0, hdp] <;> rfl) ?_
     refine al_splitT 72 (by first | rfl | (simp [go_sem, enc_none, hg0, hdp] <;> rfl)) (fun h105 => ?_) (fun h105 => ?_)
     ·have hnn : mnames x = false := by simpa using h105
      have hsr := same_ren (x := x) (by omega) hx0 hnn
      rw [← hr] at hsr
      have hir1 : ir = true := by rw [hir, hsr]
      have her1 : er = 0 := by rw [her, hsr]
      refine aLG 3 72 true (by simp [go_sem, enc_none, hg0, hdp, hir1, her1] <;> rfl) ?_
      refine al_splitT 75 (by first | rfl | (simp [go_sem, enc_none, hg0, hdp, hir1, her1] <;> rfl)) (fun h106 => ?_) (fun h106 => ?_)
      ·first | (cases h106; done) | (simp at h106; done)
      ·refine aLG 2 75 false (by simp [go_sem, enc_none, hg0, hdp, hir1, her1] <;> rfl) ?_
       refine aLG 1 72 true (by simp [go_sem, enc_none, hg0, hdp, hir1, her1] <;> rfl) ?_
       refine aL 1 (by simp [go_sem, enc_none, hg0, hdp, hir1, her1] <;> rfl) ?_
       refine al_nil ?_
       refine awp_cond (by first | rfl | (simp [go_sem, enc_none, hg0, hdp, hir1, her1] <;> rfl)) (fun h107 => ?_) (fun h107 => ?_)
       ·first | (cases h107; done) | (simp at h107; done)
       ·refine awp_skip ?_
        refine awp_seq (awp_reg ?_)
        refine aL 2 (by simp [go_sem, enc_none, hg0, hdp, hir1, her1] <;> rfl) ?_
        refine aF call37 ((hS1) _ (by exact hgl)) (by simp [go_sem, enc_none, hg0, hdp, hir1, her1] <;> rfl) (by simp [go_sem, enc_none, hg0, hdp, hir1, her1]) ?_
        refine aL 5 (by simp [go_sem, enc_none, hg0, hdp, hir1, her1] <;> rfl) ?_
        refine al_nil ?_
        refine awp_seq (awp_reg ?_)
        refine aL 2 (by simp [go_sem, enc_none, hg0, hdp, hir1, her1] <;> rfl) ?_
        refine aF call37 ((hS2) _ (by exact hgl)) (by simp [go_sem, enc_none, hg0, hdp, hir1, her1] <;> rfl) (by simp [go_sem, enc_none, hg0, hdp, hir1, her1]) ?_
        refine aL 5 (by simp [go_sem, enc_none, hg0, hdp, hir1, her1] <;> rfl) ?_
        refine al_nil ?_
        refine awp_seq (awp_reg ?_)
        refine aL 2 (by simp [go_sem, enc_none, hg0, hdp, hir1, her1] <;> rfl) ?_
        refine aF call37 ((hS3) _ (by exact hgl)) (by simp [go_sem, enc_none, hg0, hdp, hir1, her1] <;> rfl) (by simp [go_sem, enc_none, hg0, hdp, hir1, her1]) ?_
        refine aL 5 (by simp [go_sem, enc_none, hg0, hdp, hir1, her1] <;> rfl) ?_
        refine al_nil ?_
        refine awp_seq (awp_reg ?_)
        refine aL 2 (by simp [go_sem, enc_none, hg0, hdp, hir1, her1] <;> rfl) ?_
        refine aF call37 ((hS4) _ (by exact hgl)) (by simp [go_sem, enc_none, hg0, hdp, hir1, her1] <;> rfl) (by simp [go_sem, enc_none, hg0, hdp, hir1, her1]) ?_
        refine aL 5 (by simp [go_sem, enc_none, hg0, hdp, hir1, her1] <;> rfl) ?_
        refine al_nil ?_
        refine awp_seq (awp_seq (awp_reg ?_))
        refine aL 3 (by simp [go_sem, enc_none, hg0, hdp, hir1, her1] <;> rfl) ?_
        refine al_splitT 106 (by first | rfl | (simp [go_sem, enc_none, hg0, hdp, hir1, her1] <;> rfl)) (fun h108 => ?_) (fun h108 => ?_)
        ·have he10 : e1 = 0 := by simpa using h108
         obtain ⟨hsy1, hsy2⟩ := msame_sym (x := x) (y := y) (by rw [← he1]; exact he10)
         have he20 : e2 = 0 := by rw [he2]; exact hsy1
         have hi12 : i2 = i1 := by rw [hi1, hi2]; exact hsy2.symm
         refine aLG 3 106 true (by simp [go_sem, enc_none, hg0, hdp, hir1, her1, he20, hi12, he10] <;> rfl) ?_
         refine al_splitT 109 (by first | rfl | (simp [go_sem, enc_none, hg0, hdp, hir1, her1, he20, hi12, he10] <;> rfl)) (fun h109 => ?_) (fun h109 => ?_)
         ·first | (cases h109; done) | (simp at h109; done)
         ·refine aLG 3 109 false (by simp [go_sem, enc_none, hg0, hdp, hir1, her1, he20, hi12, he10] <;> rfl) ?_
          refine aLG 1 106 true (by simp [go_sem, enc_none, hg0, hdp, hir1, her1, he20, hi12, he10] <;> rfl) ?_
          refine aL 1 (by simp [go_sem, enc_none, hg0, hdp, hir1, her1, he20, hi12, he10] <;> rfl) ?_
          refine al_nil ?_
          refine awp_cond (by first | rfl | (simp [go_sem, enc_none, hg0, hdp, hir1, her1, he20, hi12, he10] <;> rfl)) (fun h110 => ?_) (fun h110 => ?_)
          ·first | (cases h110; done) | (simp at h110; done)
          ·refine awp_skip ?_
           refine awp_seq (awp_reg ?_)
           refine aL 3 (by simp [go_sem, enc_none, hg0, hdp, hir1, her1, he20, hi12, he10] <;> rfl) ?_
           refine al_splitT 117 (by first | rfl | (simp [go_sem, enc_none, hg0, hdp, hir1, her1, he20, hi12, he10] <;> rfl)) (fun h111 => ?_) (fun h111 => ?_)
           ·first | (cases h111; done) | (simp at h111; done) | exact absurd (by simpa using h111) he1z
           ·have w1 : e1 = 0 := he10
            refine aLG 2 117 false (by simp [go_sem, enc_none, hg0, hdp, hir1, her1, he20, hi12, he10] <;> rfl) ?_
            refine aL 2 (by simp [go_sem, enc_none, hg0, hdp, hir1, her1, he20, hi12, he10] <;> rfl) ?_
            refine al_splitT 121 (by first | rfl | (simp [go_sem, enc_none, hg0, hdp, hir1, her1, he20, hi12, he10] <;> rfl)) (fun h112 => ?_) (fun h112 => ?_)
            ·refine aK 2 121 false ?_
             refine aL 2 (by simp [go_sem, enc_none, hg0, hdp, hir1, her1, he20, hi12, he10] <;> rfl) ?_
             refine aK 2 125 false ?_
             refine aL 2 (by simp [go_sem, enc_none, hg0, hdp, hir1, her1, he20, hi12, he10] <;> rfl) ?_
             refine aK 3 129 false ?_
             refine aK 1 132 true ?_
             refine aK 1 129 false ?_
             refine aL 2 (by simp [go_sem, enc_none, hg0, hdp, hir1, her1, he20, hi12, he10] <;> rfl) ?_
             refine al_fnG 136 true true (by simp [go_sem]) rfl (by simp [go_sem]) rfl rfl (by simp [go_sem, enc_none, hg0, hdp, hir1, her1, he20, hi12, he10] <;> rfl) call22 (c_alive σ hσ) (by simp [go_sem, enc_none, hg0, hdp, hir1, her1, he20, hi12, he10] <;> rfl) (by simp [go_sem, enc_none, hg0, hdp, hir1, her1, he20, hi12, he10]) rfl rfl ?_
             refine aL 2 (by simp [go_sem, enc_none, hg0, hdp, hir1, her1, he20, hi12, he10] <;> rfl) ?_
             refine al_nil ?_
             refine awp_ret ?_
             refine ends_ret (by simp [go_sem, enc_none, hg0, hdp, hir1, her1, he20, hi12, he10] <;> rfl) (by simp [go_sem]) ?_
             exact ⟨by simp [go_sem], by simp [go_sem]⟩
            ·have w2 : e3 = 0 := by simpa using h112
             refine aLG 2 121 false (by simp [go_sem, enc_none, hg0, hdp, hir1, her1, he20, hi12, he10] <;> rfl) ?_
             refine aL 2 (by simp [go_sem, enc_none, hg0, hdp, hir1, her1, he20, hi12, he10] <;> rfl) ?_
             refine al_splitT 125 (by first | rfl | (simp [go_sem, enc_none, hg0, hdp, hir1, her1, he20, hi12, he10] <;> rfl)) (fun h113 => ?_) (fun h113 => ?_)
             ·refine aK 2 125 false ?_
              refine aL 2 (by simp [go_sem, enc_none, hg0, hdp, hir1, her1, he20, hi12, he10] <;> rfl) ?_
              refine aK 3 129 false ?_
              refine aK 1 132 true ?_
              refine aK 1 129 false ?_
              refine aL 2 (by simp [go_sem, enc_none, hg0, hdp, hir1, her1, he20, hi12, he10] <;> rfl) ?_
              refine al_fnG 136 true true (by simp [go_sem]) rfl (by simp [go_sem]) rfl rfl (by simp [go_sem, enc_none, hg0, hdp, hir1, her1, he20, hi12, he10] <;> rfl) call22 (c_alive σ hσ) (by simp [go_sem, enc_none, hg0, hdp, hir1, her1, he20, hi12, he10] <;> rfl) (by simp [go_sem, enc_none, hg0, hdp, hir1, her1, he20, hi12, he10]) rfl rfl ?_
              refine aL 2 (by simp [go_sem, enc_none, hg0, hdp, hir1, her1, he20, hi12, he10] <;> rfl) ?_
              refine al_nil ?_
              refine awp_ret ?_
              refine ends_ret (by simp [go_sem, enc_none, hg0, hdp, hir1, her1, he20, hi12, he10] <;> rfl) (by simp [go_sem]) ?_
              exact ⟨by simp [go_sem], by simp [go_sem]⟩
             ·have w3 : i1 = true := by simpa using h113
              refine aLG 2 125 false (by simp [go_sem, enc_none, hg0, hdp, hir1, her1, he20, hi12, he10] <;> rfl) ?_
              refine aL 2 (by simp [go_sem, enc_none, hg0, hdp, hir1, her1, he20, hi12, he10] <;> rfl) ?_
              refine al_splitT 129 (by first | rfl | (simp [go_sem, enc_none, hg0, hdp, hir1, her1, he20, hi12, he10] <;> rfl)) (fun h114 => ?_) (fun h114 => ?_)
              ·refine aK 3 129 false ?_
               refine aK 1 132 true ?_
               refine aK 1 129 false ?_
               refine aL 2 (by simp [go_sem, enc_none, hg0, hdp, hir1, her1, he20, hi12, he10] <;> rfl) ?_
               refine al_fnG 136 true true (by simp [go_sem]) rfl (by simp [go_sem]) rfl rfl (by simp [go_sem, enc_none, hg0, hdp, hir1, her1, he20, hi12, he10] <;> rfl) call22 (c_alive σ hσ) (by simp [go_sem, enc_none, hg0, hdp, hir1, her1, he20, hi12, he10] <;> rfl) (by simp [go_sem, enc_none, hg0, hdp, hir1, her1, he20, hi12, he10]) rfl rfl ?_
               refine aL 2 (by simp [go_sem, enc_none, hg0, hdp, hir1, her1, he20, hi12, he10] <;> rfl) ?_
               refine al_nil ?_
               refine awp_ret ?_
               refine ends_ret (by simp [go_sem, enc_none, hg0, hdp, hir1, her1, he20, hi12, he10] <;> rfl) (by simp [go_sem]) ?_
               exact ⟨by simp [go_sem], by simp [go_sem]⟩
              ·have w4 : i3 = true := by simpa using h114
               obtain ⟨htr1, htr2⟩ := msame_trans (x := x) (y := y) (z := z) (by rw [← he1]; exact w1) (by rw [← he3]; exact w2) (by rw [← hi1]; exact w3) (by rw [← hi3]; exact w4)
               have he40 : e4 = 0 := by rw [he4]; exact htr1
               have hi41 : i4 = true := by rw [hi4]; exact htr2
               refine aLG 3 129 false (by simp [go_sem, enc_none, hg0, hdp, hir1, her1, he20, hi12, he10, he40, hi41] <;> rfl) ?_
               refine al_splitT 132 (by first | rfl | (simp [go_sem, enc_none, hg0, hdp, hir1, her1, he20, hi12, he10, he40, hi41] <;> rfl)) (fun h115 => ?_) (fun h115 => ?_)
               ·refine aLG 1 132 true (by simp [go_sem, enc_none, hg0, hdp, hir1, her1, he20, hi12, he10, he40, hi41] <;> rfl) ?_
                refine aLG 1 129 false (by simp [go_sem, enc_none, hg0, hdp, hir1, her1, he20, hi12, he10, he40, hi41] <;> rfl) ?_
                refine aL 2 (by simp [go_sem, enc_none, hg0, hdp, hir1, her1, he20, hi12, he10, he40, hi41] <;> rfl) ?_
                refine al_splitT 136 (by first | rfl | (simp [go_sem, enc_none, hg0, hdp, hir1, her1, he20, hi12, he10, he40, hi41] <;> rfl)) (fun h116 => ?_) (fun h116 => ?_)
                ·refine al_fnG 136 true true (by simp [go_sem]) rfl (by simp [go_sem]) rfl rfl (by simp [go_sem, enc_none, hg0, hdp, hir1, her1, he20, hi12, he10, he40, hi41] <;> rfl) call22 (c_alive σ hσ) (by simp [go_sem, enc_none, hg0, hdp, hir1, her1, he20, hi12, he10, he40, hi41] <;> rfl) (by simp [go_sem, enc_none, hg0, hdp, hir1, her1, he20, hi12, he10, he40, hi41]) rfl rfl ?_
                 refine aL 2 (by simp [go_sem, enc_none, hg0, hdp, hir1, her1, he20, hi12, he10, he40, hi41] <;> rfl) ?_
                 refine al_nil ?_
                 refine awp_ret ?_
                 refine ends_ret (by simp [go_sem, enc_none, hg0, hdp, hir1, her1, he20, hi12, he10, he40, hi41] <;> rfl) (by simp [go_sem]) ?_
                 exact ⟨by simp [go_sem], by simp [go_sem]⟩
                ·first | (cases h116; done) | (simp at h116; done)
               ·first | (cases h115; done) | (simp at h115; done)
        ·have he1z : ¬ e1 = 0 := by simpa using h108
         refine aK 3 106 true ?_
         refine aK 3 109 false ?_
         refine aK 1 106 true ?_
         refine aL 1 (by simp [go_sem, enc_none, hg0, hdp, hir1, her1, he1z] <;> rfl) ?_
         refine al_nil ?_
         refine awp_cond (b := false) (by simp [go_sem, enc_none, hg0, hdp, hir1, her1, he1z, h101, h103, h104, h105, h106, h107, h108]) (fun h => ?_) (fun h => ?_)
         ·cases h
         refine awp_skip ?_
         refine awp_seq (awp_reg ?_)
         refine aL 3 (by simp [go_sem, enc_none, hg0, hdp, hir1, her1, he1z] <;> rfl) ?_
         refine al_splitT 117 (by first | rfl | (simp [go_sem, enc_none, hg0, hdp, hir1, her1, he1z] <;> rfl)) (fun h117 => ?_) (fun h117 => ?_)
         ·refine aK 2 117 false ?_
          refine aL 2 (by simp [go_sem, enc_none, hg0, hdp, hir1, her1, he1z] <;> rfl) ?_
          refine aK 2 121 false ?_
          refine aL 2 (by simp [go_sem, enc_none, hg0, hdp, hir1, her1, he1z] <;> rfl) ?_
          refine aK 2 125 false ?_
          refine aL 2 (by simp [go_sem, enc_none, hg0, hdp, hir1, her1, he1z] <;> rfl) ?_
          refine aK 3 129 false ?_
          refine aK 1 132 true ?_
          refine aK 1 129 false ?_
          refine aL 2 (by simp [go_sem, enc_none, hg0, hdp, hir1, her1, he1z] <;> rfl) ?_
          refine al_fnG 136 true true (by simp [go_sem]) rfl (by simp [go_sem]) rfl rfl (by simp [go_sem, enc_none, hg0, hdp, hir1, her1, he1z] <;> rfl) call22 (c_alive σ hσ) (by simp [go_sem, enc_none, hg0, hdp, hir1, her1, he1z] <;> rfl) (by simp [go_sem, enc_none, hg0, hdp, hir1, her1, he1z]) rfl rfl ?_
          refine aL 2 (by simp [go_sem, enc_none, hg0, hdp, hir1, her1, he1z] <;> rfl) ?_
          refine al_nil ?_
          refine awp_ret ?_
          refine ends_ret (by simp [go_sem, enc_none, hg0, hdp, hir1, her1, he1z] <;> rfl) (by simp [go_sem]) ?_
          exact ⟨by simp [go_sem], by simp [go_sem]⟩
         ·first | (cases h117; done) | (simp at h117; done) | exact absurd (by simpa using h117) he1z
     ·refine aK 3 72 true ?_
      refine aK 2 75 false ?_
      refine aK 1 72 true ?_
      refine aL 1 (by simp [go_sem, enc_none, hg0, hdp] <;> rfl) ?_
      refine al_nil ?_
      refine awp_cond (b := false) (by simp [go_sem, enc_none, hg0, hdp, h101, h103, h104, h105]) (fun h => ?_) (fun h => ?_)
      ·cases h
      refine awp_skip ?_
      refine awp_seq (awp_reg ?_)
      refine aL 2 (by simp [go_sem, enc_none, hg0, hdp] <;> rfl) ?_
      refine aF call37 ((hS1) _ (by exact hgl)) (by simp [go_sem, enc_none, hg0, hdp] <;> rfl) (by simp [go_sem, enc_none, hg0, hdp]) ?_
      refine aL 5 (by simp [go_sem, enc_none, hg0, hdp] <;> rfl) ?_
      refine al_nil ?_
      refine awp_seq (awp_reg ?_)
      refine aL 2 (by simp [go_sem, enc_none, hg0, hdp] <;> rfl) ?_
      refine aF call37 ((hS2) _ (by exact hgl)) (by simp [go_sem, enc_none, hg0, hdp] <;> rfl) (by simp [go_sem, enc_none, hg0, hdp]) ?_
      refine aL 5 (by simp [go_sem, enc_none, hg0, hdp] <;> rfl) ?_
      refine al_nil ?_
      refine awp_seq (awp_reg ?_)
      refine aL 2 (by simp [go_sem, enc_none, hg0, hdp] <;> rfl) ?_
      refine aF call37 ((hS3) _ (by exact hgl)) (by simp [go_sem, enc_none, hg0, hdp] <;> rfl) (by simp [go_sem, enc_none, hg0, hdp]) ?_
      refine aL 5 (by simp [go_sem, enc_none, hg0, hdp] <;> rfl) ?_
      refine al_nil ?_
      refine awp_seq (awp_reg ?_)
      refine aL 2 (by simp [go_sem, enc_none, hg0, hdp] <;> rfl) ?_
      refine aF call37 ((hS4) _ (by exact hgl)) (by simp [go_sem, enc_none, hg0, hdp] <;> rfl) (by simp [go_sem, enc_none, hg0, hdp]) ?_
      refine aL 5 (by simp [go_sem, enc_none, hg0, hdp] <;> rfl) ?_
      refine al_nil ?_
      refine awp_seq (awp_seq (awp_reg ?_))
      refine aL 3 (by simp [go_sem, enc_none, hg0, hdp] <;> rfl) ?_
      refine al_splitT 106 (by first | rfl | (simp [go_sem, enc_none, hg0, hdp] <;> rfl)) (fun h118 => ?_) (fun h118 => ?_)
      ·have he10 : e1 = 0 := by simpa using h118
       obtain ⟨hsy1, hsy2⟩ := msame_sym (x := x) (y := y) (by rw [← he1]; exact he10)
       have he20 : e2 = 0 := by rw [he2]; exact hsy1
       have hi12 : i2 = i1 := by rw [hi1, hi2]; exact hsy2.symm
       refine aLG 3 106 true (by simp [go_sem, enc_none, hg0, hdp, he20, hi12, he10] <;> rfl) ?_
       refine al_splitT 109 (by first | rfl | (simp [go_sem, enc_none, hg0, hdp, he20, hi12, he10] <;> rfl)) (fun h119 => ?_) (fun h119 => ?_)
       ·first | (cases h119; done) | (simp at h119; done)
       ·refine aLG 3 109 false (by simp [go_sem, enc_none, hg0, hdp, he20, hi12, he10] <;> rfl) ?_
        refine aLG 1 106 true (by simp [go_sem, enc_none, hg0, hdp, he20, hi12, he10] <;> rfl) ?_
        refine aL 1 (by simp [go_sem, enc_none, hg0, hdp, he20, hi12, he10] <;> rfl) ?_
        refine al_nil ?_
        refine awp_cond (by first | rfl | (simp [go_sem, enc_none, hg0, hdp, he20, hi12, he10] <;> rfl)) (fun h120 => ?_) (fun h120 => ?_)
        ·first | (cases h120; done) | (simp at h120; done)
        ·refine awp_skip ?_
         refine awp_seq (awp_reg ?_)
         refine aL 3 (by simp [go_sem, enc_none, hg0, hdp, he20, hi12, he10] <;> rfl) ?_
         refine al_splitT 117 (by first | rfl | (simp [go_sem, enc_none, hg0, hdp, he20, hi12, he10] <;> rfl)) (fun h121 => ?_) (fun h121 => ?_)
         ·first | (cases h121; done) | (simp at h121; done) | exact absurd (by simpa using h121) he1z
         ·have w1 : e1 = 0 := he10
          refine aLG 2 117 false (by simp [go_sem, enc_none, hg0, hdp, he20, hi12, he10] <;> rfl) ?_
          refine aL 2 (by simp [go_sem, enc_none, hg0, hdp, he20, hi12, he10] <;> rfl) ?_
          refine al_splitT 121 (by first | rfl | (simp [go_sem, enc_none, hg0, hdp, he20, hi12, he10] <;> rfl)) (fun h122 => ?_) (fun h122 => ?_)
          ·refine aK 2 121 false ?_
           refine aL 2 (by simp [go_sem, enc_none, hg0, hdp, he20, hi12, he10] <;> rfl) ?_
           refine aK 2 125 false ?_
           refine aL 2 (by simp [go_sem, enc_none, hg0, hdp, he20, hi12, he10] <;> rfl) ?_
           refine aK 3 129 false ?_
           refine aK 1 132 true ?_
           refine aK 1 129 false ?_
           refine aL 2 (by simp [go_sem, enc_none, hg0, hdp, he20, hi12, he10] <;> rfl) ?_
           refine al_fnG 136 true true (by simp [go_sem]) rfl (by simp [go_sem]) rfl rfl (by simp [go_sem, enc_none, hg0, hdp, he20, hi12, he10] <;> rfl) call22 (c_alive σ hσ) (by simp [go_sem, enc_none, hg0, hdp, he20, hi12, he10] <;> rfl) (by simp [go_sem, enc_none, hg0, hdp, he20, hi12, he10]) rfl rfl ?_
           refine aL 2 (by simp [go_sem, enc_none, hg0, hdp, he20, hi12, he10] <;> rfl) ?_
           refine al_nil ?_
           refine awp_ret ?_
           refine ends_ret (by simp [go_sem, enc_none, hg0, hdp, he20, hi12, he10] <;> rfl) (by simp [go_sem]) ?_
           exact ⟨by simp [go_sem], by simp [go_sem]⟩
          ·have w2 : e3 = 0 := by simpa using h122
           refine aLG 2 121 false (by simp [go_sem, enc_none, hg0, hdp, he20, hi12, he10] <;> rfl) ?_
           refine aL 2 (by simp [go_sem, enc_none, hg0, hdp, he20, hi12, he10] <;> rfl) ?_
           refine al_splitT 125 (by first | rfl | (simp [go_sem, enc_none, hg0, hdp, he20, hi12, he10] <;> rfl)) (fun h123 => ?_) (fun h123 => ?_)
           ·refine aK 2 125 false ?_
            refine aL 2 (by simp [go_sem, enc_none, hg0, hdp, he20, hi12, he10] <;> rfl) ?_
            refine aK 3 129 false ?_
            refine aK 1 132 true ?_
            refine aK 1 129 false ?_
            refine aL 2 (by simp [go_sem, enc_none, hg0, hdp, he20, hi12, he10] <;> rfl) ?_
            refine al_fnG 136 true true (by simp [go_sem]) rfl (by simp [go_sem]) rfl rfl (by simp [go_sem, enc_none, hg0, hdp, he20, hi12, he10] <;> rfl) call22 (c_alive σ hσ) (by simp [go_sem, enc_none, hg0, hdp, he20, hi12, he10] <;> rfl) (by simp [go_sem, enc_none, hg0, hdp, he20, hi12, he10]) rfl rfl ?_
            refine aL 2 (by simp [go_sem, enc_none, hg0, hdp, he20, hi12, he10] <;> rfl) ?_
            refine al_nil ?_
            refine awp_ret ?_
            refine ends_ret (by simp [go_sem, enc_none, hg0, hdp, he20, hi12, he10] <;> rfl) (by simp [go_sem]) ?_
            exact ⟨by simp [go_sem], by simp [go_sem]⟩
           ·have w3 : i1 = true := by simpa using h123
            refine aLG 2 125 false (by simp [go_sem, enc_none, hg0, hdp, he20, hi12, he10] <;> rfl) ?_
            refine aL 2 (by simp [go_sem, enc_none, hg0, hdp, he20, hi12, he10] <;> rfl) ?_
            refine al_splitT 129 (by first | rfl | (simp [go_sem, enc_none, hg0, hdp, he20, hi12, he10] <;> rfl)) (fun h124 => ?_) (fun h124 => ?_)
            ·refine aK 3 129 false ?_
             refine aK 1 132 true ?_
             refine aK 1 129 false ?_
             refine aL 2 (by simp [go_sem, enc_none, hg0, hdp, he20, hi12, he10] <;> rfl) ?_
             refine al_fnG 136 true true (by simp [go_sem]) rfl (by simp [go_sem]) rfl rfl (by simp [go_sem, enc_none, hg0, hdp, he20, hi12, he10] <;> rfl) call22 (c_alive σ hσ) (by simp [go_sem, enc_none, hg0, hdp, he20, hi12, he10] <;> rfl) (by simp [go_sem, enc_none, hg0, hdp, he20, hi12, he10]) rfl rfl ?_
             refine aL 2 (by simp [go_sem, enc_none, hg0, hdp, he20, hi12, he10] <;> rfl) ?_
             refine al_nil ?_
             refine awp_ret ?_
             refine ends_ret (by simp [go_sem, enc_none, hg0, hdp, he20, hi12, he10] <;> rfl) (by simp [go_sem]) ?_
             exact ⟨by simp [go_sem], by simp [go_sem]⟩
            ·have w4 : i3 = true := by simpa using h124
             obtain ⟨htr1, htr2⟩ := msame_trans (x := x) (y := y) (z := z) (by rw [← he1]; exact w1) (by rw [← he3]; exact w2) (by rw [← hi1]; exact w3) (by rw [← hi3]; exact w4)
             have he40 : e4 = 0 := by rw [he4]; exact htr1
             have hi41 : i4 = true := by rw [hi4]; exact htr2
             refine aLG 3 129 false (by simp [go_sem, enc_none, hg0, hdp, he20, hi12, he10, he40, hi41] <;> rfl) ?_
             refine al_splitT 132 (by first | rfl | (simp [go_sem, enc_none, hg0, hdp, he20, hi12, he10, he40, hi41] <;> rfl)) (fun h125 => ?_) (fun h125 => ?_)
             ·refine aLG 1 132 true (by simp [go_sem, enc_none, hg0, hdp, he20, hi12, he10, he40, hi41] <;> rfl) ?_
              refine aLG 1 129 false (by simp [go_sem, enc_none, hg0, hdp, he20, hi12, he10, he40, hi41] <;> rfl) ?_
              refine aL 2 (by simp [go_sem, enc_none, hg0, hdp, he20, hi12, he10, he40, hi41] <;> rfl) ?_
              refine al_splitT 136 (by first | rfl | (simp [go_sem, enc_none, hg0, hdp, he20, hi12, he10, he40, hi41] <;> rfl)) (fun h126 => ?_) (fun h126 => ?_)
              ·refine al_fnG 136 true true (by simp [go_sem]) rfl (by simp [go_sem]) rfl rfl (by simp [go_sem, enc_none, hg0, hdp, he20, hi12, he10, he40, hi41] <;> rfl) call22 (c_alive σ hσ) (by simp [go_sem, enc_none, hg0, hdp, he20, hi12, he10, he40, hi41] <;> rfl) (by simp [go_sem, enc_none, hg0, hdp, he20, hi12, he10, he40, hi41]) rfl rfl ?_
               refine aL 2 (by simp [go_sem, enc_none, hg0, hdp, he20, hi12, he10, he40, hi41] <;> rfl) ?_
               refine al_nil ?_
               refine awp_ret ?_
               refine ends_ret (by simp [go_sem, enc_none, hg0, hdp, he20, hi12, he10, he40, hi41] <;> rfl) (by simp [go_sem]) ?_
               exact ⟨by simp [go_sem], by simp [go_sem]⟩
              ·first | (cases h126; done) | (simp at h126; done)
             ·first | (cases h125; done) | (simp at h125; done)
      ·have he1z : ¬ e1 = 0 := by simpa using h118
       refine aK 3 106 true ?_
       refine aK 3 109 false ?_
       refine aK 1 106 true ?_
       refine aL 1 (by simp [go_sem, enc_none, hg0, hdp, he1z] <;> rfl) ?_
       refine al_nil ?_
       refine awp_cond (b := false) (by simp [go_sem, enc_none, hg0, hdp, he1z, h101, h103, h104, h105, h118]) (fun h => ?_) (fun h => ?_)
       ·cases h
       refine awp_skip ?_
       refine awp_seq (awp_reg ?_)
       refine aL 3 (by simp [go_sem, enc_none, hg0, hdp, he1z] <;> rfl) ?_
       refine al_splitT 117 (by first | rfl | (simp [go_sem, enc_none, hg0, hdp, he1z] <;> rfl)) (fun h127 => ?_) (fun h127 => ?_)
       ·refine aK 2 117 false ?_
        refine aL 2 (by simp [go_sem, enc_none, hg0, hdp, he1z] <;> rfl) ?_
        refine aK 2 121 false ?_
        refine aL 2 (by simp [go_sem, enc_none, hg0, hdp, he1z] <;> rfl) ?_
        refine aK 2 125 false ?_
        refine aL 2 (by simp [go_sem, enc_none, hg0, hdp, he1z] <;> rfl) ?_
        refine aK 3 129 false ?_
        refine aK 1 132 true ?_
        refine aK 1 129 false ?_
        refine aL 2 (by simp [go_sem, enc_none, hg0, hdp, he1z] <;> rfl) ?_
        refine al_fnG 136 true true (by simp [go_sem]) rfl (by simp [go_sem]) rfl rfl (by simp [go_sem, enc_none, hg0, hdp, he1z] <;> rfl) call22 (c_alive σ hσ) (by simp [go_sem, enc_none, hg0, hdp, he1z] <;> rfl) (by simp [go_sem, enc_none, hg0, hdp, he1z]) rfl rfl ?_
        refine aL 2 (by simp [go_sem, enc_none, hg0, hdp, he1z] <;> rfl) ?_
        refine al_nil ?_
        refine awp_ret ?_
        refine ends_ret (by simp [go_sem, enc_none, hg0, hdp, he1z] <;> rfl) (by simp [go_sem]) ?_
        exact ⟨by simp [go_sem], by simp [go_sem]⟩
       ·first | (cases h127; done) | (simp at h127; done) | exact absurd (by simpa using h127) he1z
 ·refine ul_run 3 (by simp [go_sem, enc_none] <;> rfl) ?_
  refine ul_nil ?_
  refine aL 3 (by simp [go_sem, enc_none] <;> rfl) ?_
  refine al_nil ?_
  refine awp_seq (awp_reg ?_)
  refine aL 1 (by simp [go_sem, enc_none] <;> rfl) ?_
  refine aF call36 ((hPx) _ (by exact hgl)) (by simp [go_sem, enc_none] <;> rfl) (by simp [go_sem, enc_none]) ?_
  refine aL 6 (by simp [go_sem, enc_none] <;> rfl) ?_
  refine al_nil ?_
  refine awp_seq (awp_seq (aR (by simp [go_sem, enc_none] <;> rfl) ?_))
  refine awp_cond (by first | rfl | (simp [go_sem, enc_none] <;> rfl)) (fun h128 => ?_) (fun h128 => ?_)
  ·have hgz : g ≠ 0 := by simpa using h128
   have hpd : deq p dnone = true := by rw [hp, plain_none (by rw [← hg]; exact hgz)]; exact deq_refl _
   refine awp_seq (awp_reg ?_)
   refine aL 2 (by simp [go_sem, enc_none, hpd] <;> rfl) ?_
   refine aF call35 ((c_Same p hps dnone) _ (by exact hgl)) (by simp [go_sem, enc_none, hpd] <;> rfl) (by simp [go_sem, enc_none, hpd]) ?_
   refine aL 1 (by simp [go_sem, enc_none, hpd] <;> rfl) ?_
   refine al_splitT 42 (by first | rfl | (simp [go_sem, enc_none, hpd] <;> rfl)) (fun h129 => ?_) (fun h129 => ?_)
   ·refine al_fnG 42 true true (by simp [go_sem]) rfl (by simp [go_sem]) rfl rfl (by simp [go_sem, enc_none, hpd] <;> rfl) call22 (c_alive σ hσ) (by simp [go_sem, enc_none, hpd] <;> rfl) (by simp [go_sem, enc_none, hpd]) rfl rfl ?_
    refine aL 2 (by simp [go_sem, enc_none, hpd] <;> rfl) ?_
    refine al_nil ?_
    refine awp_ret ?_
    refine then_ret ?_
    refine ends_ret (by simp [go_sem, enc_none, hpd] <;> rfl) (by simp [go_sem]) ?_
    exact ⟨by simp [go_sem], by simp [go_sem]⟩
   ·first | (cases h129; done) | (simp at h129; done)
  ·have hg0 : g = 0 := by simpa using h128
   have hx0 : (mplain x).2 = 0 := by rw [← hg]; exact hg0
   have hzx := plain_zero hx0
   have hgd := mcheck_good hzx
   have hpp := plain_plain (x := x) (by omega) hx0
   rw [← hp] at hpp
   have hpsz : p.size ≤ x.size := by rw [hp, plain_fst hzx hx0]; exact mren_size hgd []
   have hPp : Pur Tryz.prog (GL kr) 36 [.pv (enc p)] (.tuple [.pv (enc p), .pv (.int .i64 0)]) := by have h := c_mPlain (kr := kr) p (by omega); rw [hpp] at h; exact h
   obtain ⟨r, hr⟩ : ∃ v0, v0 = (brn x [] [] 0).1 := ⟨_, rfl⟩
   obtain ⟨m, hm⟩ : ∃ v0, v0 = (brn x [] [] 0).2 := ⟨_, rfl⟩
   have hRn : Pur Tryz.prog (GL kr) 39 [.pv (enc x), .pv (.slice []), .pv (.slice []), .pv (.int .i64 0)] (.tuple [.pv (enc r), .pv (.int .i64 ((m : Nat) : Int))]) := by rw [hr, hm]; exact c_renamedL x hgd [] [] 0 rfl (by simp; omega)
   have hrs : r.size ≤ x.size := by rw [hr]; exact ((brn_al hgd [] [] 0 rfl (fun y hy => by simp at hy) (by omega)).good (fun z hz => by obtain ⟨i, hi, rfl⟩ := hz; exact dotB_ok (by decide) (by omega) (by omega)) hgd (fun z hz => by simp at hz)).2.1
   obtain ⟨ir, hir⟩ : ∃ v0, v0 = (msame x r).1 := ⟨_, rfl⟩
   obtain ⟨er, her⟩ : ∃ v0, v0 = (msame x r).2 := ⟨_, rfl⟩
   have hSr : Pur Tryz.prog (GL kr) 37 [.pv (enc x), .pv (enc r)] (.tuple [.pv (.bool ir), .pv (.int .i64 er)]) := by rw [hir, her]; exact c_mSame x r (by omega) (by omega)
   refine awp_skip ?_
   refine awp_seq (awp_reg ?_)
   refine aL 1 (by simp [go_sem, enc_none, hg0, hdp] <;> rfl) ?_
   refine aF call36 ((hPp) _ (by exact hgl)) (by simp [go_sem, enc_none, hg0, hdp] <;> rfl) (by simp [go_sem, enc_none, hg0, hdp]) ?_
   refine aL 6 (by simp [go_sem, enc_none, hg0, hdp] <;> rfl) ?_
   refine al_nil ?_
   refine awp_seq (awp_seq (awp_reg ?_))
   refine aL 3 (by simp [go_sem, enc_none, hg0, hdp] <;> rfl) ?_
   refine al_splitT 52 (by first | rfl | (simp [go_sem, enc_none, hg0, hdp] <;> rfl)) (fun h130 => ?_) (fun h130 => ?_)
   ·first | (cases h130; done) | (simp at h130; done)
   ·refine aLG 2 52 false (by simp [go_sem, enc_none, hg0, hdp] <;> rfl) ?_
    refine al_fnG 52 false false (by simp [go_sem]) rfl (by simp [go_sem]) rfl rfl (by simp [go_sem, enc_none, hg0, hdp] <;> rfl) call35 ((c_Same p hps p) _ (by exact hgl)) (by simp [go_sem, enc_none, hg0, hdp] <;> rfl) (by simp [go_sem, enc_none, hg0, hdp]) rfl rfl ?_
    refine aLG 1 52 false (by simp [go_sem, enc_none, hg0, hdp] <;> rfl) ?_
    refine aL 1 (by simp [go_sem, enc_none, hg0, hdp] <;> rfl) ?_
    refine al_nil ?_
    refine awp_cond (by first | rfl | (simp [go_sem, enc_none, hg0, hdp] <;> rfl)) (fun h131 => ?_) (fun h131 => ?_)
    ·first | (cases h131; done) | (simp at h131; done)
    ·refine awp_skip ?_
     refine awp_seq (awp_reg ?_)
     refine aL 1 (by simp [go_sem, enc_none, hg0, hdp] <;> rfl) ?_
     refine aF call39 ((hRn) _ (by exact hgl)) (by simp [go_sem, enc_none, hg0, hdp] <;> rfl) (by simp [go_sem, enc_none, hg0, hdp]) ?_
     refine aL 6 (by simp [go_sem, enc_none, hg0, hdp] <;> rfl) ?_
     refine al_nil ?_
     refine awp_seq (awp_reg ?_)
     refine aL 2 (by simp [go_sem, enc_none, hg0, hdp] <;> rfl) ?_
     refine aF call37 ((hSr) _ (by exact hgl)) (by simp [go_sem, enc_none, hg0, hdp] <;> rfl) (by simp [go_sem, enc_none, hg0, hdp]) ?_
     refine aL 5 (by simp [go_sem, enc_none, hg0, hdp] <;> rfl) ?_
     refine al_nil ?_
     refine awp_seq (awp_seq (awp_reg ?_))
     refine aL 1 (by simp [go_sem, enc_none, hg0, hdp] <;> rfl) ?_
     refine aF call40 ((c_names x hgd (by omega)) _ (by exact hgl)) (by simp [go_sem, enc_none, hg0, hdp] <;> rfl) (by simp [go_sem, enc_none, hg0, hdp]) ?_
     refine aL 2 (by simp [go_sem, enc_none, hg0, hdp] <;> rfl) ?_
     refine al_splitT 72 (by first | rfl | (simp [go_sem, enc_none, hg0, hdp] <;> rfl)) (fun h132 => ?_) (fun h132 => ?_)
     ·have hnn : mnames x = false := by simpa using h132
      have hsr := same_ren (x := x) (by omega) hx0 hnn
      rw [← hr] at hsr
      have hir1 : ir = true := by rw [hir, hsr]
      have her1 : er = 0 := by rw [her, hsr]
      refine aLG 3 72 true (by simp [go_sem, enc_none, hg0, hdp, hir1, her1] <;> rfl) ?_
      refine al_splitT 75 (by first | rfl | (simp [go_sem, enc_none, hg0, hdp, hir1, her1] <;> rfl)) (fun h133 => ?_) (fun h133 => ?_)
      ·first | (cases h133; done) | (simp at h133; done)
      ·refine aLG 2 75 false (by simp [go_sem, enc_none, hg0, hdp, hir1, her1] <;> rfl) ?_
       refine aLG 1 72 true (by simp [go_sem, enc_none, hg0, hdp, hir1, her1] <;> rfl) ?_
       refine aL 1 (by simp [go_sem, enc_none, hg0, hdp, hir1, her1] <;> rfl) ?_
       refine al_nil ?_
       refine awp_cond (by first | rfl | (simp [go_sem, enc_none, hg0, hdp, hir1, her1] <;> rfl)) (fun h134 => ?_) (fun h134 => ?_)
       ·first | (cases h134; done) | (simp at h134; done)
       ·refine awp_skip ?_
        refine awp_seq (awp_reg ?_)
        refine aL 2 (by simp [go_sem, enc_none, hg0, hdp, hir1, her1] <;> rfl) ?_
        refine aF call37 ((hS1) _ (by exact hgl)) (by simp [go_sem, enc_none, hg0, hdp, hir1, her1] <;> rfl) (by simp [go_sem, enc_none, hg0, hdp, hir1, her1]) ?_
        refine aL 5 (by simp [go_sem, enc_none, hg0, hdp, hir1, her1] <;> rfl) ?_
        refine al_nil ?_
        refine awp_seq (awp_reg ?_)
        refine aL 2 (by simp [go_sem, enc_none, hg0, hdp, hir1, her1] <;> rfl) ?_
        refine aF call37 ((hS2) _ (by exact hgl)) (by simp [go_sem, enc_none, hg0, hdp, hir1, her1] <;> rfl) (by simp [go_sem, enc_none, hg0, hdp, hir1, her1]) ?_
        refine aL 5 (by simp [go_sem, enc_none, hg0, hdp, hir1, her1] <;> rfl) ?_
        refine al_nil ?_
        refine awp_seq (awp_reg ?_)
        refine aL 2 (by simp [go_sem, enc_none, hg0, hdp, hir1, her1] <;> rfl) ?_
        refine aF call37 ((hS3) _ (by exact hgl)) (by simp [go_sem, enc_none, hg0, hdp, hir1, her1] <;> rfl) (by simp [go_sem, enc_none, hg0, hdp, hir1, her1]) ?_
        refine aL 5 (by simp [go_sem, enc_none, hg0, hdp, hir1, her1] <;> rfl) ?_
        refine al_nil ?_
        refine awp_seq (awp_reg ?_)
        refine aL 2 (by simp [go_sem, enc_none, hg0, hdp, hir1, her1] <;> rfl) ?_
        refine aF call37 ((hS4) _ (by exact hgl)) (by simp [go_sem, enc_none, hg0, hdp, hir1, her1] <;> rfl) (by simp [go_sem, enc_none, hg0, hdp, hir1, her1]) ?_
        refine aL 5 (by simp [go_sem, enc_none, hg0, hdp, hir1, her1] <;> rfl) ?_
        refine al_nil ?_
        refine awp_seq (awp_seq (awp_reg ?_))
        refine aL 3 (by simp [go_sem, enc_none, hg0, hdp, hir1, her1] <;> rfl) ?_
        refine al_splitT 106 (by first | rfl | (simp [go_sem, enc_none, hg0, hdp, hir1, her1] <;> rfl)) (fun h135 => ?_) (fun h135 => ?_)
        ·have he10 : e1 = 0 := by simpa using h135
         obtain ⟨hsy1, hsy2⟩ := msame_sym (x := x) (y := y) (by rw [← he1]; exact he10)
         have he20 : e2 = 0 := by rw [he2]; exact hsy1
         have hi12 : i2 = i1 := by rw [hi1, hi2]; exact hsy2.symm
         refine aLG 3 106 true (by simp [go_sem, enc_none, hg0, hdp, hir1, her1, he20, hi12, he10] <;> rfl) ?_
         refine al_splitT 109 (by first | rfl | (simp [go_sem, enc_none, hg0, hdp, hir1, her1, he20, hi12, he10] <;> rfl)) (fun h136 => ?_) (fun h136 => ?_)
         ·first | (cases h136; done) | (simp at h136; done)
         ·refine aLG 3 109 false (by simp [go_sem, enc_none, hg0, hdp, hir1, her1, he20, hi12, he10] <;> rfl) ?_
          refine aLG 1 106 true (by simp [go_sem, enc_none, hg0, hdp, hir1, her1, he20, hi12, he10] <;> rfl) ?_
          refine aL 1 (by simp [go_sem, enc_none, hg0, hdp, hir1, her1, he20, hi12, he10] <;> rfl) ?_
          refine al_nil ?_
          refine awp_cond (by first | rfl | (simp [go_sem, enc_none, hg0, hdp, hir1, her1, he20, hi12, he10] <;> rfl)) (fun h137 => ?_) (fun h137 => ?_)
          ·first | (cases h137; done) | (simp at h137; done)
          ·refine awp_skip ?_
           refine awp_seq (awp_reg ?_)
           refine aL 3 (by simp [go_sem, enc_none, hg0, hdp, hir1, her1, he20, hi12, he10] <;> rfl) ?_
           refine al_splitT 117 (by first | rfl | (simp [go_sem, enc_none, hg0, hdp, hir1, her1, he20, hi12, he10] <;> rfl)) (fun h138 => ?_) (fun h138 => ?_)
           ·first | (cases h138; done) | (simp at h138; done) | exact absurd (by simpa using h138) he1z
           ·have w1 : e1 = 0 := he10
            refine aLG 2 117 false (by simp [go_sem, enc_none, hg0, hdp, hir1, her1, he20, hi12, he10] <;> rfl) ?_
            refine aL 2 (by simp [go_sem, enc_none, hg0, hdp, hir1, her1, he20, hi12, he10] <;> rfl) ?_
            refine al_splitT 121 (by first | rfl | (simp [go_sem, enc_none, hg0, hdp, hir1, her1, he20, hi12, he10] <;> rfl)) (fun h139 => ?_) (fun h139 => ?_)
            ·refine aK 2 121 false ?_
             refine aL 2 (by simp [go_sem, enc_none, hg0, hdp, hir1, her1, he20, hi12, he10] <;> rfl) ?_
             refine aK 2 125 false ?_
             refine aL 2 (by simp [go_sem, enc_none, hg0, hdp, hir1, her1, he20, hi12, he10] <;> rfl) ?_
             refine aK 3 129 false ?_
             refine aK 1 132 true ?_
             refine aK 1 129 false ?_
             refine aL 2 (by simp [go_sem, enc_none, hg0, hdp, hir1, her1, he20, hi12, he10] <;> rfl) ?_
             refine al_fnG 136 true true (by simp [go_sem]) rfl (by simp [go_sem]) rfl rfl (by simp [go_sem, enc_none, hg0, hdp, hir1, her1, he20, hi12, he10] <;> rfl) call22 (c_alive σ hσ) (by simp [go_sem, enc_none, hg0, hdp, hir1, her1, he20, hi12, he10] <;> rfl) (by simp [go_sem, enc_none, hg0, hdp, hir1, her1, he20, hi12, he10]) rfl rfl ?_
             refine aL 2 (by simp [go_sem, enc_none, hg0, hdp, hir1, her1, he20, hi12, he10] <;> rfl) ?_
             refine al_nil ?_
             refine awp_ret ?_
             refine ends_ret (by simp [go_sem, enc_none, hg0, hdp, hir1, her1, he20, hi12, he10] <;> rfl) (by simp [go_sem]) ?_
             exact ⟨by simp [go_sem], by simp [go_sem]⟩
            ·have w2 : e3 = 0 := by simpa using h139
             refine aLG 2 121 false (by simp [go_sem, enc_none, hg0, hdp, hir1, her1, he20, hi12, he10] <;> rfl) ?_
             refine aL 2 (by simp [go_sem, enc_none, hg0, hdp, hir1, her1, he20, hi12, he10] <;> rfl) ?_
             refine al_splitT 125 (by first | rfl | (simp [go_sem, enc_none, hg0, hdp, hir1, her1, he20, hi12, he10] <;> rfl)) (fun h140 => ?_) (fun h140 => ?_)
             ·refine aK 2 125 false ?_
              refine aL 2 (by simp [go_sem, enc_none, hg0, hdp, hir1, her1, he20, hi12, he10] <;> rfl) ?_
              refine aK 3 129 false ?_
              refine aK 1 132 true ?_
              refine aK 1 129 false ?_
              refine aL 2 (by simp [go_sem, enc_none, hg0, hdp, hir1, her1, he20, hi12, he10] <;> rfl) ?_
              refine al_fnG 136 true true (by simp [go_sem]) rfl (by simp [go_sem]) rfl rfl (by simp [go_sem, enc_none, hg0, hdp, hir1, her1, he20, hi12, he10] <;> rfl) call22 (c_alive σ hσ) (by simp [go_sem, enc_none, hg0, hdp, hir1, her1, he20, hi12, he10] <;> rfl) (by simp [go_sem, enc_none, hg0, hdp, hir1, her1, he20, hi12, he10]) rfl rfl ?_
              refine aL 2 (by simp [go_sem, enc_none, hg0, hdp, hir1, her1, he20, hi12, he10] <;> rfl) ?_
              refine al_nil ?_
              refine awp_ret ?_
              refine ends_ret (by simp [go_sem, enc_none, hg0, hdp, hir1, her1, he20, hi12, he10] <;> rfl) (by simp [go_sem]) ?_
              exact ⟨by simp [go_sem], by simp [go_sem]⟩
             ·have w3 : i1 = true := by simpa using h140
              refine aLG 2 125 false (by simp [go_sem, enc_none, hg0, hdp, hir1, her1, he20, hi12, he10] <;> rfl) ?_
              refine aL 2 (by simp [go_sem, enc_none, hg0, hdp, hir1, her1, he20, hi12, he10] <;> rfl) ?_
              refine al_splitT 129 (by first | rfl | (simp [go_sem, enc_none, hg0, hdp, hir1, her1, he20, hi12, he10] <;> rfl)) (fun h141 => ?_) (fun h141 => ?_)
              ·refine aK 3 129 false ?_
               refine aK 1 132 true ?_
               refine aK 1 129 false ?_
               refine aL 2 (by simp [go_sem, enc_none, hg0, hdp, hir1, her1, he20, hi12, he10] <;> rfl) ?_
               refine al_fnG 136 true true (by simp [go_sem]) rfl (by simp [go_sem]) rfl rfl (by simp [go_sem, enc_none, hg0, hdp, hir1, her1, he20, hi12, he10] <;> rfl) call22 (c_alive σ hσ) (by simp [go_sem, enc_none, hg0, hdp, hir1, her1, he20, hi12, he10] <;> rfl) (by simp [go_sem, enc_none, hg0, hdp, hir1, her1, he20, hi12, he10]) rfl rfl ?_
               refine aL 2 (by simp [go_sem, enc_none, hg0, hdp, hir1, her1, he20, hi12, he10] <;> rfl) ?_
               refine al_nil ?_
               refine awp_ret ?_
               refine ends_ret (by simp [go_sem, enc_none, hg0, hdp, hir1, her1, he20, hi12, he10] <;> rfl) (by simp [go_sem]) ?_
               exact ⟨by simp [go_sem], by simp [go_sem]⟩
              ·have w4 : i3 = true := by simpa using h141
               obtain ⟨htr1, htr2⟩ := msame_trans (x := x) (y := y) (z := z) (by rw [← he1]; exact w1) (by rw [← he3]; exact w2) (by rw [← hi1]; exact w3) (by rw [← hi3]; exact w4)
               have he40 : e4 = 0 := by rw [he4]; exact htr1
               have hi41 : i4 = true := by rw [hi4]; exact htr2
               refine aLG 3 129 false (by simp [go_sem, enc_none, hg0, hdp, hir1, her1, he20, hi12, he10, he40, hi41] <;> rfl) ?_
               refine al_splitT 132 (by first | rfl | (simp [go_sem, enc_none, hg0, hdp, hir1, her1, he20, hi12, he10, he40, hi41] <;> rfl)) (fun h142 => ?_) (fun h142 => ?_)
               ·refine aLG 1 132 true (by simp [go_sem, enc_none, hg0, hdp, hir1, her1, he20, hi12, he10, he40, hi41] <;> rfl) ?_
                refine aLG 1 129 false (by simp [go_sem, enc_none, hg0, hdp, hir1, her1, he20, hi12, he10, he40, hi41] <;> rfl) ?_
                refine aL 2 (by simp [go_sem, enc_none, hg0, hdp, hir1, her1, he20, hi12, he10, he40, hi41] <;> rfl) ?_
                refine al_splitT 136 (by first | rfl | (simp [go_sem, enc_none, hg0, hdp, hir1, her1, he20, hi12, he10, he40, hi41] <;> rfl)) (fun h143 => ?_) (fun h143 => ?_)
                ·refine al_fnG 136 true true (by simp [go_sem]) rfl (by simp [go_sem]) rfl rfl (by simp [go_sem, enc_none, hg0, hdp, hir1, her1, he20, hi12, he10, he40, hi41] <;> rfl) call22 (c_alive σ hσ) (by simp [go_sem, enc_none, hg0, hdp, hir1, her1, he20, hi12, he10, he40, hi41] <;> rfl) (by simp [go_sem, enc_none, hg0, hdp, hir1, her1, he20, hi12, he10, he40, hi41]) rfl rfl ?_
                 refine aL 2 (by simp [go_sem, enc_none, hg0, hdp, hir1, her1, he20, hi12, he10, he40, hi41] <;> rfl) ?_
                 refine al_nil ?_
                 refine awp_ret ?_
                 refine ends_ret (by simp [go_sem, enc_none, hg0, hdp, hir1, her1, he20, hi12, he10, he40, hi41] <;> rfl) (by simp [go_sem]) ?_
                 exact ⟨by simp [go_sem], by simp [go_sem]⟩
                ·first | (cases h143; done) | (simp at h143; done)
               ·first | (cases h142; done) | (simp at h142; done)
        ·have he1z : ¬ e1 = 0 := by simpa using h135
         refine aK 3 106 true ?_
         refine aK 3 109 false ?_
         refine aK 1 106 true ?_
         refine aL 1 (by simp [go_sem, enc_none, hg0, hdp, hir1, her1, he1z] <;> rfl) ?_
         refine al_nil ?_
         refine awp_cond (b := false) (by simp [go_sem, enc_none, hg0, hdp, hir1, her1, he1z, h128, h130, h131, h132, h133, h134, h135]) (fun h => ?_) (fun h => ?_)
         ·cases h
         refine awp_skip ?_
         refine awp_seq (awp_reg ?_)
         refine aL 3 (by simp [go_sem, enc_none, hg0, hdp, hir1, her1, he1z] <;> rfl) ?_
         refine al_splitT 117 (by first | rfl | (simp [go_sem, enc_none, hg0, hdp, hir1, her1, he1z] <;> rfl)) (fun h144 => ?_) (fun h144 => ?_)
         ·refine aK 2 117 false ?_
          refine aL 2 (by simp [go_sem, enc_none, hg0, hdp, hir1, her1, he1z] <;> rfl) ?_
          refine aK 2 121 false ?_
          refine aL 2 (by simp [go_sem, enc_none, hg0, hdp, hir1, her1, he1z] <;> rfl) ?_
          refine aK 2 125 false ?_
          refine aL 2 (by simp [go_sem, enc_none, hg0, hdp, hir1, her1, he1z] <;> rfl) ?_
          refine aK 3 129 false ?_
          refine aK 1 132 true ?_
          refine aK 1 129 false ?_
          refine aL 2 (by simp [go_sem, enc_none, hg0, hdp, hir1, her1, he1z] <;> rfl) ?_
          refine al_fnG 136 true true (by simp [go_sem]) rfl (by simp [go_sem]) rfl rfl (by simp [go_sem, enc_none, hg0, hdp, hir1, her1, he1z] <;> rfl) call22 (c_alive σ hσ) (by simp [go_sem, enc_none, hg0, hdp, hir1, her1, he1z] <;> rfl) (by simp [go_sem, enc_none, hg0, hdp, hir1, her1, he1z]) rfl rfl ?_
          refine aL 2 (by simp [go_sem, enc_none, hg0, hdp, hir1, her1, he1z] <;> rfl) ?_
          refine al_nil ?_
          refine awp_ret ?_
          refine ends_ret (by simp [go_sem, enc_none, hg0, hdp, hir1, her1, he1z] <;> rfl) (by simp [go_sem]) ?_
          exact ⟨by simp [go_sem], by simp [go_sem]⟩
         ·first | (cases h144; done) | (simp at h144; done) | exact absurd (by simpa using h144) he1z
     ·refine aK 3 72 true ?_
      refine aK 2 75 false ?_
      refine aK 1 72 true ?_
      refine aL 1 (by simp [go_sem, enc_none, hg0, hdp] <;> rfl) ?_
      refine al_nil ?_
      refine awp_cond (b := false) (by simp [go_sem, enc_none, hg0, hdp, h128, h130, h131, h132]) (fun h => ?_) (fun h => ?_)
      ·cases h
      refine awp_skip ?_
      refine awp_seq (awp_reg ?_)
      refine aL 2 (by simp [go_sem, enc_none, hg0, hdp] <;> rfl) ?_
      refine aF call37 ((hS1) _ (by exact hgl)) (by simp [go_sem, enc_none, hg0, hdp] <;> rfl) (by simp [go_sem, enc_none, hg0, hdp]) ?_
      refine aL 5 (by simp [go_sem, enc_none, hg0, hdp] <;> rfl) ?_
      refine al_nil ?_
      refine awp_seq (awp_reg ?_)
      refine aL 2 (by simp [go_sem, enc_none, hg0, hdp] <;> rfl) ?_
      refine aF call37 ((hS2) _ (by exact hgl)) (by simp [go_sem, enc_none, hg0, hdp] <;> rfl) (by simp [go_sem, enc_none, hg0, hdp]) ?_
      refine aL 5 (by simp [go_sem, enc_none, hg0, hdp] <;> rfl) ?_
      refine al_nil ?_
      refine awp_seq (awp_reg ?_)
      refine aL 2 (by simp [go_sem, enc_none, hg0, hdp] <;> rfl) ?_
      refine aF call37 ((hS3) _ (by exact hgl)) (by simp [go_sem, enc_none, hg0, hdp] <;> rfl) (by simp [go_sem, enc_none, hg0, hdp]) ?_
      refine aL 5 (by simp [go_sem, enc_none, hg0, hdp] <;> rfl) ?_
      refine al_nil ?_
      refine awp_seq (awp_reg ?_)
      refine aL 2 (by simp [go_sem, enc_none, hg0, hdp] <;> rfl) ?_
      refine aF call37 ((hS4) _ (by exact hgl)) (by simp [go_sem, enc_none, hg0, hdp] <;> rfl) (by simp [go_sem, enc_none, hg0, hdp]) ?_
      refine aL 5 (by simp [go_sem, enc_none, hg0, hdp] <;> rfl) ?_
      refine al_nil ?_
      refine awp_seq (awp_seq (awp_reg ?_))
      refine aL 3 (by simp [go_sem, enc_none, hg0, hdp] <;> rfl) ?_
      refine al_splitT 106 (by first | rfl | (simp [go_sem, enc_none, hg0, hdp] <;> rfl)) (fun h145 => ?_) (fun h145 => ?_)
      ·have he10 : e1 = 0 := by simpa using h145
       obtain ⟨hsy1, hsy2⟩ := msame_sym (x := x) (y := y) (by rw [← he1]; exact he10)
       have he20 : e2 = 0 := by rw [he2]; exact hsy1
       have hi12 : i2 = i1 := by rw [hi1, hi2]; exact hsy2.symm
       refine aLG 3 106 true (by simp [go_sem, enc_none, hg0, hdp, he20, hi12, he10] <;> rfl) ?_
       refine al_splitT 109 (by first | rfl | (simp [go_sem, enc_none, hg0, hdp, he20, hi12, he10] <;> rfl)) (fun h146 => ?_) (fun h146 => ?_)
       ·first | (cases h146; done) | (simp at h146; done)
       ·refine aLG 3 109 false (by simp [go_sem, enc_none, hg0, hdp, he20, hi12, he10] <;> rfl) ?_
        refine aLG 1 106 true (by simp [go_sem, enc_none, hg0, hdp, he20, hi12, he10] <;> rfl) ?_
        refine aL 1 (by simp [go_sem, enc_none, hg0, hdp, he20, hi12, he10] <;> rfl) ?_
        refine al_nil ?_
        refine awp_cond (by first | rfl | (simp [go_sem, enc_none, hg0, hdp, he20, hi12, he10] <;> rfl)) (fun h147 => ?_) (fun h147 => ?_)
        ·first | (cases h147; done) | (simp at h147; done)
        ·refine awp_skip ?_
         refine awp_seq (awp_reg ?_)
         refine aL 3 (by simp [go_sem, enc_none, hg0, hdp, he20, hi12, he10] <;> rfl) ?_
         refine al_splitT 117 (by first | rfl | (simp [go_sem, enc_none, hg0, hdp, he20, hi12, he10] <;> rfl)) (fun h148 => ?_) (fun h148 => ?_)
         ·first | (cases h148; done) | (simp at h148; done) | exact absurd (by simpa using h148) he1z
         ·have w1 : e1 = 0 := he10
          refine aLG 2 117 false (by simp [go_sem, enc_none, hg0, hdp, he20, hi12, he10] <;> rfl) ?_
          refine aL 2 (by simp [go_sem, enc_none, hg0, hdp, he20, hi12, he10] <;> rfl) ?_
          refine al_splitT 121 (by first | rfl | (simp [go_sem, enc_none, hg0, hdp, he20, hi12, he10] <;> rfl)) (fun h149 => ?_) (fun h149 => ?_)
          ·refine aK 2 121 false ?_
           refine aL 2 (by simp [go_sem, enc_none, hg0, hdp, he20, hi12, he10] <;> rfl) ?_
           refine aK 2 125 false ?_
           refine aL 2 (by simp [go_sem, enc_none, hg0, hdp, he20, hi12, he10] <;> rfl) ?_
           refine aK 3 129 false ?_
           refine aK 1 132 true ?_
           refine aK 1 129 false ?_
           refine aL 2 (by simp [go_sem, enc_none, hg0, hdp, he20, hi12, he10] <;> rfl) ?_
           refine al_fnG 136 true true (by simp [go_sem]) rfl (by simp [go_sem]) rfl rfl (by simp [go_sem, enc_none, hg0, hdp, he20, hi12, he10] <;> rfl) call22 (c_alive σ hσ) (by simp [go_sem, enc_none, hg0, hdp, he20, hi12, he10] <;> rfl) (by simp [go_sem, enc_none, hg0, hdp, he20, hi12, he10]) rfl rfl ?_
           refine aL 2 (by simp [go_sem, enc_none, hg0, hdp, he20, hi12, he10] <;> rfl) ?_
           refine al_nil ?_
           refine awp_ret ?_
           refine ends_ret (by simp [go_sem, enc_none, hg0, hdp, he20, hi12, he10] <;> rfl) (by simp [go_sem]) ?_
           exact ⟨by simp [go_sem], by simp [go_sem]⟩
          ·have w2 : e3 = 0 := by simpa using h149
           refine aLG 2 121 false (by simp [go_sem, enc_none, hg0, hdp, he20, hi12, he10] <;> rfl) ?_
           refine aL 2 (by simp [go_sem, enc_none, hg0, hdp, he20, hi12, he10] <;> rfl) ?_
           refine al_splitT 125 (by first | rfl | (simp [go_sem, enc_none, hg0, hdp, he20, hi12, he10] <;> rfl)) (fun h150 => ?_) (fun h150 => ?_)
           ·refine aK 2 125 false ?_
            refine aL 2 (by simp [go_sem, enc_none, hg0, hdp, he20, hi12, he10] <;> rfl) ?_
            refine aK 3 129 false ?_
            refine aK 1 132 true ?_
            refine aK 1 129 false ?_
            refine aL 2 (by simp [go_sem, enc_none, hg0, hdp, he20, hi12, he10] <;> rfl) ?_
            refine al_fnG 136 true true (by simp [go_sem]) rfl (by simp [go_sem]) rfl rfl (by simp [go_sem, enc_none, hg0, hdp, he20, hi12, he10] <;> rfl) call22 (c_alive σ hσ) (by simp [go_sem, enc_none, hg0, hdp, he20, hi12, he10] <;> rfl) (by simp [go_sem, enc_none, hg0, hdp, he20, hi12, he10]) rfl rfl ?_
            refine aL 2 (by simp [go_sem, enc_none, hg0, hdp, he20, hi12, he10] <;> rfl) ?_
            refine al_nil ?_
            refine awp_ret ?_
            refine ends_ret (by simp [go_sem, enc_none, hg0, hdp, he20, hi12, he10] <;> rfl) (by simp [go_sem]) ?_
            exact ⟨by simp [go_sem], by simp [go_sem]⟩
           ·have w3 : i1 = true := by simpa using h150
            refine aLG 2 125 false (by simp [go_sem, enc_none, hg0, hdp, he20, hi12, he10] <;> rfl) ?_
            refine aL 2 (by simp [go_sem, enc_none, hg0, hdp, he20, hi12, he10] <;> rfl) ?_
            refine al_splitT 129 (by first | rfl | (simp [go_sem, enc_none, hg0, hdp, he20, hi12, he10] <;> rfl)) (fun h151 => ?_) (fun h151 => ?_)
            ·refine aK 3 129 false ?_
             refine aK 1 132 true ?_
             refine aK 1 129 false ?_
             refine aL 2 (by simp [go_sem, enc_none, hg0, hdp, he20, hi12, he10] <;> rfl) ?_
             refine al_fnG 136 true true (by simp [go_sem]) rfl (by simp [go_sem]) rfl rfl (by simp [go_sem, enc_none, hg0, hdp, he20, hi12, he10] <;> rfl) call22 (c_alive σ hσ) (by simp [go_sem, enc_none, hg0, hdp, he20, hi12, he10] <;> rfl) (by simp [go_sem, enc_none, hg0, hdp, he20, hi12, he10]) rfl rfl ?_
             refine aL 2 (by simp [go_sem, enc_none, hg0, hdp, he20, hi12, he10] <;> rfl) ?_
             refine al_nil ?_
             refine awp_ret ?_
             refine ends_ret (by simp [go_sem, enc_none, hg0, hdp, he20, hi12, he10] <;> rfl) (by simp [go_sem]) ?_
             exact ⟨by simp [go_sem], by simp [go_sem]⟩
            ·have w4 : i3 = true := by simpa using h151
             obtain ⟨htr1, htr2⟩ := msame_trans (x := x) (y := y) (z := z) (by rw [← he1]; exact w1) (by rw [← he3]; exact w2) (by rw [← hi1]; exact w3) (by rw [← hi3]; exact w4)
             have he40 : e4 = 0 := by rw [he4]; exact htr1
             have hi41 : i4 = true := by rw [hi4]; exact htr2
             refine aLG 3 129 false (by simp [go_sem, enc_none, hg0, hdp, he20, hi12, he10, he40, hi41] <;> rfl) ?_
             refine al_splitT 132 (by first | rfl | (simp [go_sem, enc_none, hg0, hdp, he20, hi12, he10, he40, hi41] <;> rfl)) (fun h152 => ?_) (fun h152 => ?_)
             ·refine aLG 1 132 true (by simp [go_sem, enc_none, hg0, hdp, he20, hi12, he10, he40, hi41] <;> rfl) ?_
              refine aLG 1 129 false (by simp [go_sem, enc_none, hg0, hdp, he20, hi12, he10, he40, hi41] <;> rfl) ?_
              refine aL 2 (by simp [go_sem, enc_none, hg0, hdp, he20, hi12, he10, he40, hi41] <;> rfl) ?_
              refine al_splitT 136 (by first | rfl | (simp [go_sem, enc_none, hg0, hdp, he20, hi12, he10, he40, hi41] <;> rfl)) (fun h153 => ?_) (fun h153 => ?_)
              ·refine al_fnG 136 true true (by simp [go_sem]) rfl (by simp [go_sem]) rfl rfl (by simp [go_sem, enc_none, hg0, hdp, he20, hi12, he10, he40, hi41] <;> rfl) call22 (c_alive σ hσ) (by simp [go_sem, enc_none, hg0, hdp, he20, hi12, he10, he40, hi41] <;> rfl) (by simp [go_sem, enc_none, hg0, hdp, he20, hi12, he10, he40, hi41]) rfl rfl ?_
               refine aL 2 (by simp [go_sem, enc_none, hg0, hdp, he20, hi12, he10, he40, hi41] <;> rfl) ?_
               refine al_nil ?_
               refine awp_ret ?_
               refine ends_ret (by simp [go_sem, enc_none, hg0, hdp, he20, hi12, he10, he40, hi41] <;> rfl) (by simp [go_sem]) ?_
               exact ⟨by simp [go_sem], by simp [go_sem]⟩
              ·first | (cases h153; done) | (simp at h153; done)
             ·first | (cases h152; done) | (simp at h152; done)
      ·have he1z : ¬ e1 = 0 := by simpa using h145
       refine aK 3 106 true ?_
       refine aK 3 109 false ?_
       refine aK 1 106 true ?_
       refine aL 1 (by simp [go_sem, enc_none, hg0, hdp, he1z] <;> rfl) ?_
       refine al_nil ?_
       refine awp_cond (b := false) (by simp [go_sem, enc_none, hg0, hdp, he1z, h128, h130, h131, h132, h145]) (fun h => ?_) (fun h => ?_)
       ·cases h
       refine awp_skip ?_
       refine awp_seq (awp_reg ?_)
       refine aL 3 (by simp [go_sem, enc_none, hg0, hdp, he1z] <;> rfl) ?_
       refine al_splitT 117 (by first | rfl | (simp [go_sem, enc_none, hg0, hdp, he1z] <;> rfl)) (fun h154 => ?_) (fun h154 => ?_)
       ·refine aK 2 117 false ?_
        refine aL 2 (by simp [go_sem, enc_none, hg0, hdp, he1z] <;> rfl) ?_
        refine aK 2 121 false ?_
        refine aL 2 (by simp [go_sem, enc_none, hg0, hdp, he1z] <;> rfl) ?_
        refine aK 2 125 false ?_
        refine aL 2 (by simp [go_sem, enc_none, hg0, hdp, he1z] <;> rfl) ?_
        refine aK 3 129 false ?_
        refine aK 1 132 true ?_
        refine aK 1 129 false ?_
        refine aL 2 (by simp [go_sem, enc_none, hg0, hdp, he1z] <;> rfl) ?_
        refine al_fnG 136 true true (by simp [go_sem]) rfl (by simp [go_sem]) rfl rfl (by simp [go_sem, enc_none, hg0, hdp, he1z] <;> rfl) call22 (c_alive σ hσ) (by simp [go_sem, enc_none, hg0, hdp, he1z] <;> rfl) (by simp [go_sem, enc_none, hg0, hdp, he1z]) rfl rfl ?_
        refine aL 2 (by simp [go_sem, enc_none, hg0, hdp, he1z] <;> rfl) ?_
        refine al_nil ?_
        refine awp_ret ?_
        refine ends_ret (by simp [go_sem, enc_none, hg0, hdp, he1z] <;> rfl) (by simp [go_sem]) ?_
        exact ⟨by simp [go_sem], by simp [go_sem]⟩
       ·first | (cases h154; done) | (simp at h154; done) | exact absurd (by simpa using h154) he1z
 ·refine ul_run 3 (by simp [go_sem, enc_none] <;> rfl) ?_
  refine ul_nil ?_
  refine aL 3 (by simp [go_sem, enc_none] <;> rfl) ?_
  refine al_nil ?_
  refine awp_seq (awp_reg ?_)
  refine aL 1 (by simp [go_sem, enc_none] <;> rfl) ?_
  refine aF call36 ((hPx) _ (by exact hgl)) (by simp [go_sem, enc_none] <;> rfl) (by simp [go_sem, enc_none]) ?_
  refine aL 6 (by simp [go_sem, enc_none] <;> rfl) ?_
  refine al_nil ?_
  refine awp_seq (awp_seq (aR (by simp [go_sem, enc_none] <;> rfl) ?_))
  refine awp_cond (by first | rfl | (simp [go_sem, enc_none] <;> rfl)) (fun h155 => ?_) (fun h155 => ?_)
  ·have hgz : g ≠ 0 := by simpa using h155
   have hpd : deq p dnone = true := by rw [hp, plain_none (by rw [← hg]; exact hgz)]; exact deq_refl _
   refine awp_seq (awp_reg ?_)
   refine aL 2 (by simp [go_sem, enc_none, hpd] <;> rfl) ?_
   refine aF call35 ((c_Same p hps dnone) _ (by exact hgl)) (by simp [go_sem, enc_none, hpd] <;> rfl) (by simp [go_sem, enc_none, hpd]) ?_
   refine aL 1 (by simp [go_sem, enc_none, hpd] <;> rfl) ?_
   refine al_splitT 42 (by first | rfl | (simp [go_sem, enc_none, hpd] <;> rfl)) (fun h156 => ?_) (fun h156 => ?_)
   ·refine al_fnG 42 true true (by simp [go_sem]) rfl (by simp [go_sem]) rfl rfl (by simp [go_sem, enc_none, hpd] <;> rfl) call22 (c_alive σ hσ) (by simp [go_sem, enc_none, hpd] <;> rfl) (by simp [go_sem, enc_none, hpd]) rfl rfl ?_
    refine aL 2 (by simp [go_sem, enc_none, hpd] <;> rfl) ?_
    refine al_nil ?_
    refine awp_ret ?_
    refine then_ret ?_
    refine ends_ret (by simp [go_sem, enc_none, hpd] <;> rfl) (by simp [go_sem]) ?_
    exact ⟨by simp [go_sem], by simp [go_sem]⟩
   ·first | (cases h156; done) | (simp at h156; done)
  ·have hg0 : g = 0 := by simpa using h155
   have hx0 : (mplain x).2 = 0 := by rw [← hg]; exact hg0
   have hzx := plain_zero hx0
   have hgd := mcheck_good hzx
   have hpp := plain_plain (x := x) (by omega) hx0
   rw [← hp] at hpp
   have hpsz : p.size ≤ x.size := by rw [hp, plain_fst hzx hx0]; exact mren_size hgd []
   have hPp : Pur Tryz.prog (GL kr) 36 [.pv (enc p)] (.tuple [.pv (enc p), .pv (.int .i64 0)]) := by have h := c_mPlain (kr := kr) p (by omega); rw [hpp] at h; exact h
   obtain ⟨r, hr⟩ : ∃ v0, v0 = (brn x [] [] 0).1 := ⟨_, rfl⟩
   obtain ⟨m, hm⟩ : ∃ v0, v0 = (brn x [] [] 0).2 := ⟨_, rfl⟩
   have hRn : Pur Tryz.prog (GL kr) 39 [.pv (enc x), .pv (.slice []), .pv (.slice []), .pv (.int .i64 0)] (.tuple [.pv (enc r), .pv (.int .i64 ((m : Nat) : Int))]) := by rw [hr, hm]; exact c_renamedL x hgd [] [] 0 rfl (by simp; omega)
   have hrs : r.size ≤ x.size := by rw [hr]; exact ((brn_al hgd [] [] 0 rfl (fun y hy => by simp at hy) (by omega)).good (fun z hz => by obtain ⟨i, hi, rfl⟩ := hz; exact dotB_ok (by decide) (by omega) (by omega)) hgd (fun z hz => by simp at hz)).2.1
   obtain ⟨ir, hir⟩ : ∃ v0, v0 = (msame x r).1 := ⟨_, rfl⟩
   obtain ⟨er, her⟩ : ∃ v0, v0 = (msame x r).2 := ⟨_, rfl⟩
   have hSr : Pur Tryz.prog (GL kr) 37 [.pv (enc x), .pv (enc r)] (.tuple [.pv (.bool ir), .pv (.int .i64 er)]) := by rw [hir, her]; exact c_mSame x r (by omega) (by omega)
   refine awp_skip ?_
   refine awp_seq (awp_reg ?_)
   refine aL 1 (by simp [go_sem, enc_none, hg0, hdp] <;> rfl) ?_
   refine aF call36 ((hPp) _ (by exact hgl)) (by simp [go_sem, enc_none, hg0, hdp] <;> rfl) (by simp [go_sem, enc_none, hg0, hdp]) ?_
   refine aL 6 (by simp [go_sem, enc_none, hg0, hdp] <;> rfl) ?_
   refine al_nil ?_
   refine awp_seq (awp_seq (awp_reg ?_))
   refine aL 3 (by simp [go_sem, enc_none, hg0, hdp] <;> rfl) ?_
   refine al_splitT 52 (by first | rfl | (simp [go_sem, enc_none, hg0, hdp] <;> rfl)) (fun h157 => ?_) (fun h157 => ?_)
   ·first | (cases h157; done) | (simp at h157; done)
   ·refine aLG 2 52 false (by simp [go_sem, enc_none, hg0, hdp] <;> rfl) ?_
    refine al_fnG 52 false false (by simp [go_sem]) rfl (by simp [go_sem]) rfl rfl (by simp [go_sem, enc_none, hg0, hdp] <;> rfl) call35 ((c_Same p hps p) _ (by exact hgl)) (by simp [go_sem, enc_none, hg0, hdp] <;> rfl) (by simp [go_sem, enc_none, hg0, hdp]) rfl rfl ?_
    refine aLG 1 52 false (by simp [go_sem, enc_none, hg0, hdp] <;> rfl) ?_
    refine aL 1 (by simp [go_sem, enc_none, hg0, hdp] <;> rfl) ?_
    refine al_nil ?_
    refine awp_cond (by first | rfl | (simp [go_sem, enc_none, hg0, hdp] <;> rfl)) (fun h158 => ?_) (fun h158 => ?_)
    ·first | (cases h158; done) | (simp at h158; done)
    ·refine awp_skip ?_
     refine awp_seq (awp_reg ?_)
     refine aL 1 (by simp [go_sem, enc_none, hg0, hdp] <;> rfl) ?_
     refine aF call39 ((hRn) _ (by exact hgl)) (by simp [go_sem, enc_none, hg0, hdp] <;> rfl) (by simp [go_sem, enc_none, hg0, hdp]) ?_
     refine aL 6 (by simp [go_sem, enc_none, hg0, hdp] <;> rfl) ?_
     refine al_nil ?_
     refine awp_seq (awp_reg ?_)
     refine aL 2 (by simp [go_sem, enc_none, hg0, hdp] <;> rfl) ?_
     refine aF call37 ((hSr) _ (by exact hgl)) (by simp [go_sem, enc_none, hg0, hdp] <;> rfl) (by simp [go_sem, enc_none, hg0, hdp]) ?_
     refine aL 5 (by simp [go_sem, enc_none, hg0, hdp] <;> rfl) ?_
     refine al_nil ?_
     refine awp_seq (awp_seq (awp_reg ?_))
     refine aL 1 (by simp [go_sem, enc_none, hg0, hdp] <;> rfl) ?_
     refine aF call40 ((c_names x hgd (by omega)) _ (by exact hgl)) (by simp [go_sem, enc_none, hg0, hdp] <;> rfl) (by simp [go_sem, enc_none, hg0, hdp]) ?_
     refine aL 2 (by simp [go_sem, enc_none, hg0, hdp] <;> rfl) ?_
     refine al_splitT 72 (by first | rfl | (simp [go_sem, enc_none, hg0, hdp] <;> rfl)) (fun h159 => ?_) (fun h159 => ?_)
     ·have hnn : mnames x = false := by simpa using h159
      have hsr := same_ren (x := x) (by omega) hx0 hnn
      rw [← hr] at hsr
      have hir1 : ir = true := by rw [hir, hsr]
      have her1 : er = 0 := by rw [her, hsr]
      refine aLG 3 72 true (by simp [go_sem, enc_none, hg0, hdp, hir1, her1] <;> rfl) ?_
      refine al_splitT 75 (by first | rfl | (simp [go_sem, enc_none, hg0, hdp, hir1, her1] <;> rfl)) (fun h160 => ?_) (fun h160 => ?_)
      ·first | (cases h160; done) | (simp at h160; done)
      ·refine aLG 2 75 false (by simp [go_sem, enc_none, hg0, hdp, hir1, her1] <;> rfl) ?_
       refine aLG 1 72 true (by simp [go_sem, enc_none, hg0, hdp, hir1, her1] <;> rfl) ?_
       refine aL 1 (by simp [go_sem, enc_none, hg0, hdp, hir1, her1] <;> rfl) ?_
       refine al_nil ?_
       refine awp_cond (by first | rfl | (simp [go_sem, enc_none, hg0, hdp, hir1, her1] <;> rfl)) (fun h161 => ?_) (fun h161 => ?_)
       ·first | (cases h161; done) | (simp at h161; done)
       ·refine awp_skip ?_
        refine awp_seq (awp_reg ?_)
        refine aL 2 (by simp [go_sem, enc_none, hg0, hdp, hir1, her1] <;> rfl) ?_
        refine aF call37 ((hS1) _ (by exact hgl)) (by simp [go_sem, enc_none, hg0, hdp, hir1, her1] <;> rfl) (by simp [go_sem, enc_none, hg0, hdp, hir1, her1]) ?_
        refine aL 5 (by simp [go_sem, enc_none, hg0, hdp, hir1, her1] <;> rfl) ?_
        refine al_nil ?_
        refine awp_seq (awp_reg ?_)
        refine aL 2 (by simp [go_sem, enc_none, hg0, hdp, hir1, her1] <;> rfl) ?_
        refine aF call37 ((hS2) _ (by exact hgl)) (by simp [go_sem, enc_none, hg0, hdp, hir1, her1] <;> rfl) (by simp [go_sem, enc_none, hg0, hdp, hir1, her1]) ?_
        refine aL 5 (by simp [go_sem, enc_none, hg0, hdp, hir1, her1] <;> rfl) ?_
        refine al_nil ?_
        refine awp_seq (awp_reg ?_)
        refine aL 2 (by simp [go_sem, enc_none, hg0, hdp, hir1, her1] <;> rfl) ?_
        refine aF call37 ((hS3) _ (by exact hgl)) (by simp [go_sem, enc_none, hg0, hdp, hir1, her1] <;> rfl) (by simp [go_sem, enc_none, hg0, hdp, hir1, her1]) ?_
        refine aL 5 (by simp [go_sem, enc_none, hg0, hdp, hir1, her1] <;> rfl) ?_
        refine al_nil ?_
        refine awp_seq (awp_reg ?_)
        refine aL 2 (by simp [go_sem, enc_none, hg0, hdp, hir1, her1] <;> rfl) ?_
        refine aF call37 ((hS4) _ (by exact hgl)) (by simp [go_sem, enc_none, hg0, hdp, hir1, her1] <;> rfl) (by simp [go_sem, enc_none, hg0, hdp, hir1, her1]) ?_
        refine aL 5 (by simp [go_sem, enc_none, hg0, hdp, hir1, her1] <;> rfl) ?_
        refine al_nil ?_
        refine awp_seq (awp_seq (awp_reg ?_))
        refine aL 3 (by simp [go_sem, enc_none, hg0, hdp, hir1, her1] <;> rfl) ?_
        refine al_splitT 106 (by first | rfl | (simp [go_sem, enc_none, hg0, hdp, hir1, her1] <;> rfl)) (fun h162 => ?_) (fun h162 => ?_)
        ·have he10 : e1 = 0 := by simpa using h162
         obtain ⟨hsy1, hsy2⟩ := msame_sym (x := x) (y := y) (by rw [← he1]; exact he10)
         have he20 : e2 = 0 := by rw [he2]; exact hsy1
         have hi12 : i2 = i1 := by rw [hi1, hi2]; exact hsy2.symm
         refine aLG 3 106 true (by simp [go_sem, enc_none, hg0, hdp, hir1, her1, he20, hi12, he10] <;> rfl) ?_
         refine al_splitT 109 (by first | rfl | (simp [go_sem, enc_none, hg0, hdp, hir1, her1, he20, hi12, he10] <;> rfl)) (fun h163 => ?_) (fun h163 => ?_)
         ·first | (cases h163; done) | (simp at h163; done)
         ·refine aLG 3 109 false (by simp [go_sem, enc_none, hg0, hdp, hir1, her1, he20, hi12, he10] <;> rfl) ?_
          refine aLG 1 106 true (by simp [go_sem, enc_none, hg0, hdp, hir1, her1, he20, hi12, he10] <;> rfl) ?_
          refine aL 1 (by simp [go_sem, enc_none, hg0, hdp, hir1, her1, he20, hi12, he10] <;> rfl) ?_
          refine al_nil ?_
          refine awp_cond (by first | rfl | (simp [go_sem, enc_none, hg0, hdp, hir1, her1, he20, hi12, he10] <;> rfl)) (fun h164 => ?_) (fun h164 => ?_)
          ·first | (cases h164; done) | (simp at h164; done)
          ·refine awp_skip ?_
           refine awp_seq (awp_reg ?_)
           refine aL 3 (by simp [go_sem, enc_none, hg0, hdp, hir1, her1, he20, hi12, he10] <;> rfl) ?_
           refine al_splitT 117 (by first | rfl | (simp [go_sem, enc_none, hg0, hdp, hir1, her1, he20, hi12, he10] <;> rfl)) (fun h165 => ?_) (fun h165 => ?_)
           ·first | (cases h165; done) | (simp at h165; done) | exact absurd (by simpa using h165) he1z
           ·have w1 : e1 = 0 := he10
            refine aLG 2 117 false (by simp [go_sem, enc_none, hg0, hdp, hir1, her1, he20, hi12, he10] <;> rfl) ?_
            refine aL 2 (by simp [go_sem, enc_none, hg0, hdp, hir1, her1, he20, hi12, he10] <;> rfl) ?_
            refine al_splitT 121 (by first | rfl | (simp [go_sem, enc_none, hg0, hdp, hir1, her1, he20, hi12, he10] <;> rfl)) (fun h166 => ?_) (fun h166 => ?_)
            ·refine aK 2 121 false ?_
             refine aL 2 (by simp [go_sem, enc_none, hg0, hdp, hir1, her1, he20, hi12, he10] <;> rfl) ?_
             refine aK 2 125 false ?_
             refine aL 2 (by simp [go_sem, enc_none, hg0, hdp, hir1, her1, he20, hi12, he10] <;> rfl) ?_
             refine aK 3 129 false ?_
             refine aK 1 132 true ?_
             refine aK 1 129 false ?_
             refine aL 2 (by simp [go_sem, enc_none, hg0, hdp, hir1, her1, he20, hi12, he10] <;> rfl) ?_
             refine al_fnG 136 true true (by simp [go_sem]) rfl (by simp [go_sem]) rfl rfl (by simp [go_sem, enc_none, hg0, hdp, hir1, her1, he20, hi12, he10] <;> rfl) call22 (c_alive σ hσ) (by simp [go_sem, enc_none, hg0, hdp, hir1, her1, he20, hi12, he10] <;> rfl) (by simp [go_sem, enc_none, hg0, hdp, hir1, her1, he20, hi12, he10]) rfl rfl ?_
             refine aL 2 (by simp [go_sem, enc_none, hg0, hdp, hir1, her1, he20, hi12, he10] <;> rfl) ?_
             refine al_nil ?_
             refine awp_ret ?_
             refine ends_ret (by simp [go_sem, enc_none, hg0, hdp, hir1, her1, he20, hi12, he10] <;> rfl) (by simp [go_sem]) ?_
             exact ⟨by simp [go_sem], by simp [go_sem]⟩
            ·have w2 : e3 = 0 := by simpa using h166
             refine aLG 2 121 false (by simp [go_sem, enc_none, hg0, hdp, hir1, her1, he20, hi12, he10] <;> rfl) ?_
             refine aL 2 (by simp [go_sem, enc_none, hg0, hdp, hir1, her1, he20, hi12, he10] <;> rfl) ?_
             refine al_splitT 125 (by first | rfl | (simp [go_sem, enc_none, hg0, hdp, hir1, her1, he20, hi12, he10] <;> rfl)) (fun h167 => ?_) (fun h167 => ?_)
             ·refine aK 2 125 false ?_
              refine aL 2 (by simp [go_sem, enc_none, hg0, hdp, hir1, her1, he20, hi12, he10] <;> rfl) ?_
              refine aK 3 129 false ?_
              refine aK 1 132 true ?_
              refine aK 1 129 false ?_
              refine aL 2 (by simp [go_sem, enc_none, hg0, hdp, hir1, her1, he20, hi12, he10] <;> rfl) ?_
              refine al_fnG 136 true true (by simp [go_sem]) rfl (by simp [go_sem]) rfl rfl (by simp [go_sem, enc_none, hg0, hdp, hir1, her1, he20, hi12, he10] <;> rfl) call22 (c_alive σ hσ) (by simp [go_sem, enc_none, hg0, hdp, hir1, her1, he20, hi12, he10] <;> rfl) (by simp [go_sem, enc_none, hg0, hdp, hir1, her1, he20, hi12, he10]) rfl rfl ?_
              refine aL 2 (by simp [go_sem, enc_none, hg0, hdp, hir1, her1, he20, hi12, he10] <;> rfl) ?_
              refine al_nil ?_
              refine awp_ret ?_
              refine ends_ret (by simp [go_sem, enc_none, hg0, hdp, hir1, her1, he20, hi12, he10] <;> rfl) (by simp [go_sem]) ?_
              exact ⟨by simp [go_sem], by simp [go_sem]⟩
             ·have w3 : i1 = true := by simpa using h167
              refine aLG 2 125 false (by simp [go_sem, enc_none, hg0, hdp, hir1, her1, he20, hi12, he10] <;> rfl) ?_
              refine aL 2 (by simp [go_sem, enc_none, hg0, hdp, hir1, her1, he20, hi12, he10] <;> rfl) ?_
              refine al_splitT 129 (by first | rfl | (simp [go_sem, enc_none, hg0, hdp, hir1, her1, he20, hi12, he10] <;> rfl)) (fun h168 => ?_) (fun h168 => ?_)
              ·refine aK 3 129 false ?_
               refine aK 1 132 true ?_
               refine aK 1 129 false ?_
               refine aL 2 (by simp [go_sem, enc_none, hg0, hdp, hir1, her1, he20, hi12, he10] <;> rfl) ?_
               refine al_fnG 136 true true (by simp [go_sem]) rfl (by simp [go_sem]) rfl rfl (by simp [go_sem, enc_none, hg0, hdp, hir1, her1, he20, hi12, he10] <;> rfl) call22 (c_alive σ hσ) (by simp [go_sem, enc_none, hg0, hdp, hir1, her1, he20, hi12, he10] <;> rfl) (by simp [go_sem, enc_none, hg0, hdp, hir1, her1, he20, hi12, he10]) rfl rfl ?_
               refine aL 2 (by simp [go_sem, enc_none, hg0, hdp, hir1, her1, he20, hi12, he10] <;> rfl) ?_
               refine al_nil ?_
               refine awp_ret ?_
               refine ends_ret (by simp [go_sem, enc_none, hg0, hdp, hir1, her1, he20, hi12, he10] <;> rfl) (by simp [go_sem]) ?_
               exact ⟨by simp [go_sem], by simp [go_sem]⟩
              ·have w4 : i3 = true := by simpa using h168
               obtain ⟨htr1, htr2⟩ := msame_trans (x := x) (y := y) (z := z) (by rw [← he1]; exact w1) (by rw [← he3]; exact w2) (by rw [← hi1]; exact w3) (by rw [← hi3]; exact w4)
               have he40 : e4 = 0 := by rw [he4]; exact htr1
               have hi41 : i4 = true := by rw [hi4]; exact htr2
               refine aLG 3 129 false (by simp [go_sem, enc_none, hg0, hdp, hir1, her1, he20, hi12, he10, he40, hi41] <;> rfl) ?_
               refine al_splitT 132 (by first | rfl | (simp [go_sem, enc_none, hg0, hdp, hir1, her1, he20, hi12, he10, he40, hi41] <;> rfl)) (fun h169 => ?_) (fun h169 => ?_)
               ·refine aLG 1 132 true (by simp [go_sem, enc_none, hg0, hdp, hir1, her1, he20, hi12, he10, he40, hi41] <;> rfl) ?_
                refine aLG 1 129 false (by simp [go_sem, enc_none, hg0, hdp, hir1, her1, he20, hi12, he10, he40, hi41] <;> rfl) ?_
                refine aL 2 (by simp [go_sem, enc_none, hg0, hdp, hir1, her1, he20, hi12, he10, he40, hi41] <;> rfl) ?_
                refine al_splitT 136 (by first | rfl | (simp [go_sem, enc_none, hg0, hdp, hir1, her1, he20, hi12, he10, he40, hi41] <;> rfl)) (fun h170 => ?_) (fun h170 => ?_)
                ·refine al_fnG 136 true true (by simp [go_sem]) rfl (by simp [go_sem]) rfl rfl (by simp [go_sem, enc_none, hg0, hdp, hir1, her1, he20, hi12, he10, he40, hi41] <;> rfl) call22 (c_alive σ hσ) (by simp [go_sem, enc_none, hg0, hdp, hir1, her1, he20, hi12, he10, he40, hi41] <;> rfl) (by simp [go_sem, enc_none, hg0, hdp, hir1, her1, he20, hi12, he10, he40, hi41]) rfl rfl ?_
                 refine aL 2 (by simp [go_sem, enc_none, hg0, hdp, hir1, her1, he20, hi12, he10, he40, hi41] <;> rfl) ?_
                 refine al_nil ?_
                 refine awp_ret ?_
                 refine ends_ret (by simp [go_sem, enc_none, hg0, hdp, hir1, her1, he20, hi12, he10, he40, hi41] <;> rfl) (by simp [go_sem]) ?_
                 exact ⟨by simp [go_sem], by simp [go_sem]⟩
                ·first | (cases h170; done) | (simp at h170; done)
               ·first | (cases h169; done) | (simp at h169; done)
        ·have he1z : ¬ e1 = 0 := by simpa using h162
         refine aK 3 106 true ?_
         refine aK 3 109 false ?_
         refine aK 1 106 true ?_
         refine aL 1 (by simp [go_sem, enc_none, hg0, hdp, hir1, her1, he1z] <;> rfl) ?_
         refine al_nil ?_
         refine awp_cond (b := false) (by simp [go_sem, enc_none, hg0, hdp, hir1, her1, he1z, h155, h157, h158, h159, h160, h161, h162]) (fun h => ?_) (fun h => ?_)
         ·cases h
         refine awp_skip ?_
         refine awp_seq (awp_reg ?_)
         refine aL 3 (by simp [go_sem, enc_none, hg0, hdp, hir1, her1, he1z] <;> rfl) ?_
         refine al_splitT 117 (by first | rfl | (simp [go_sem, enc_none, hg0, hdp, hir1, her1, he1z] <;> rfl)) (fun h171 => ?_) (fun h171 => ?_)
         ·refine aK 2 117 false ?_
          refine aL 2 (by simp [go_sem, enc_none, hg0, hdp, hir1, her1, he1z] <;> rfl) ?_
          refine aK 2 121 false ?_
          refine aL 2 (by simp [go_sem, enc_none, hg0, hdp, hir1, her1, he1z] <;> rfl) ?_
          refine aK 2 125 false ?_
          refine aL 2 (by simp [go_sem, enc_none, hg0, hdp, hir1, her1, he1z] <;> rfl) ?_
          refine aK 3 129 false ?_
          refine aK 1 132 true ?_
          refine aK 1 129 false ?_
          refine aL 2 (by simp [go_sem, enc_none, hg0, hdp, hir1, her1, he1z] <;> rfl) ?_
          refine al_fnG 136 true true (by simp [go_sem]) rfl (by simp [go_sem]) rfl rfl (by simp [go_sem, enc_none, hg0, hdp, hir1, her1, he1z] <;> rfl) call22 (c_alive σ hσ) (by simp [go_sem, enc_none, hg0, hdp, hir1, her1, he1z] <;> rfl) (by simp [go_sem, enc_none, hg0, hdp, hir1, her1, he1z]) rfl rfl ?_
          refine aL 2 (by simp [go_sem, enc_none, hg0, hdp, hir1, her1, he1z] <;> rfl) ?_
          refine al_nil ?_
          refine awp_ret ?_
          refine ends_ret (by simp [go_sem, enc_none, hg0, hdp, hir1, her1, he1z] <;> rfl) (by simp [go_sem]) ?_
          exact ⟨by simp [go_sem], by simp [go_sem]⟩
         ·first | (cases h171; done) | (simp at h171; done) | exact absurd (by simpa using h171) he1z
     ·refine aK 3 72 true ?_
      refine aK 2 75 false ?_
      refine aK 1 72 true ?_
      refine aL 1 (by simp [go_sem, enc_none, hg0, hdp] <;> rfl) ?_
      refine al_nil ?_
      refine awp_cond (b := false) (by simp [go_sem, enc_none, hg0, hdp, h155, h157, h158, h159]) (fun h => ?_) (fun h => ?_)
      ·cases h
      refine awp_skip ?_
      refine awp_seq (awp_reg ?_)
      refine aL 2 (by simp [go_sem, enc_none, hg0, hdp] <;> rfl) ?_
      refine aF call37 ((hS1) _ (by exact hgl)) (by simp [go_sem, enc_none, hg0, hdp] <;> rfl) (by simp [go_sem, enc_none, hg0, hdp]) ?_
      refine aL 5 (by simp [go_sem, enc_none, hg0, hdp] <;> rfl) ?_
      refine al_nil ?_
      refine awp_seq (awp_reg ?_)
      refine aL 2 (by simp [go_sem, enc_none, hg0, hdp] <;> rfl) ?_
      refine aF call37 ((hS2) _ (by exact hgl)) (by simp [go_sem, enc_none, hg0, hdp] <;> rfl) (by simp [go_sem, enc_none, hg0, hdp]) ?_
      refine aL 5 (by simp [go_sem, enc_none, hg0, hdp] <;> rfl) ?_
      refine al_nil ?_
      refine awp_seq (awp_reg ?_)
      refine aL 2 (by simp [go_sem, enc_none, hg0, hdp] <;> rfl) ?_
      refine aF call37 ((hS3) _ (by exact hgl)) (by simp [go_sem, enc_none, hg0, hdp] <;> rfl) (by simp [go_sem, enc_none, hg0, hdp]) ?_
      refine aL 5 (by simp [go_sem, enc_none, hg0, hdp] <;> rfl) ?_
      refine al_nil ?_
      refine awp_seq (awp_reg ?_)
      refine aL 2 (by simp [go_sem, enc_none, hg0, hdp] <;> rfl) ?_
      refine aF call37 ((hS4) _ (by exact hgl)) (by simp [go_sem, enc_none, hg0, hdp] <;> rfl) (by simp [go_sem, enc_none, hg0, hdp]) ?_
      refine aL 5 (by simp [go_sem, enc_none, hg0, hdp] <;> rfl) ?_
      refine al_nil ?_
      refine awp_seq (awp_seq (awp_reg ?_))
      refine aL 3 (by simp [go_sem, enc_none, hg0, hdp] <;> rfl) ?_
      refine al_splitT 106 (by first | rfl | (simp [go_sem, enc_none, hg0, hdp] <;> rfl)) (fun h172 => ?_) (fun h172 => ?_)
      ·have he10 : e1 = 0 := by simpa using h172
       obtain ⟨hsy1, hsy2⟩ := msame_sym (x := x) (y := y) (by rw [← he1]; exact he10)
       have he20 : e2 = 0 := by rw [he2]; exact hsy1
       have hi12 : i2 = i1 := by rw [hi1, hi2]; exact hsy2.symm
       refine aLG 3 106 true (by simp [go_sem, enc_none, hg0, hdp, he20, hi12, he10] <;> rfl) ?_
       refine al_splitT 109 (by first | rfl | (simp [go_sem, enc_none, hg0, hdp, he20, hi12, he10] <;> rfl)) (fun h173 => ?_) (fun h173 => ?_)
       ·first | (cases h173; done) | (simp at h173; done)
       ·refine aLG 3 109 false (by simp [go_sem, enc_none, hg0, hdp, he20, hi12, he10] <;> rfl) ?_
        refine aLG 1 106 true (by simp [go_sem, enc_none, hg0, hdp, he20, hi12, he10] <;> rfl) ?_
        refine aL 1 (by simp [go_sem, enc_none, hg0, hdp, he20, hi12, he10] <;> rfl) ?_
        refine al_nil ?_
        refine awp_cond (by first | rfl | (simp [go_sem, enc_none, hg0, hdp, he20, hi12, he10] <;> rfl)) (fun h174 => ?_) (fun h174 => ?_)
        ·first | (cases h174; done) | (simp at h174; done)
        ·refine awp_skip ?_
         refine awp_seq (awp_reg ?_)
         refine aL 3 (by simp [go_sem, enc_none, hg0, hdp, he20, hi12, he10] <;> rfl) ?_
         refine al_splitT 117 (by first | rfl | (simp [go_sem, enc_none, hg0, hdp, he20, hi12, he10] <;> rfl)) (fun h175 => ?_) (fun h175 => ?_)
         ·first | (cases h175; done) | (simp at h175; done) | exact absurd (by simpa using h175) he1z
         ·have w1 : e1 = 0 := he10
          refine aLG 2 117 false (by simp [go_sem, enc_none, hg0, hdp, he20, hi12, he10] <;> rfl) ?_
          refine aL 2 (by simp [go_sem, enc_none, hg0, hdp, he20, hi12, he10] <;> rfl) ?_
          refine al_splitT 121 (by first | rfl | (simp [go_sem, enc_none, hg0, hdp, he20, hi12, he10] <;> rfl)) (fun h176 => ?_) (fun h176 => ?_)
          ·refine aK 2 121 false ?_
           refine aL 2 (by simp [go_sem, enc_none, hg0, hdp, he20, hi12, he10] <;> rfl) ?_
           refine aK 2 125 false ?_
           refine aL 2 (by simp [go_sem, enc_none, hg0, hdp, he20, hi12, he10] <;> rfl) ?_
           refine aK 3 129 false ?_
           refine aK 1 132 true ?_
           refine aK 1 129 false ?_
           refine aL 2 (by simp [go_sem, enc_none, hg0, hdp, he20, hi12, he10] <;> rfl) ?_
           refine al_fnG 136 true true (by simp [go_sem]) rfl (by simp [go_sem]) rfl rfl (by simp [go_sem, enc_none, hg0, hdp, he20, hi12, he10] <;> rfl) call22 (c_alive σ hσ) (by simp [go_sem, enc_none, hg0, hdp, he20, hi12, he10] <;> rfl) (by simp [go_sem, enc_none, hg0, hdp, he20, hi12, he10]) rfl rfl ?_
           refine aL 2 (by simp [go_sem, enc_none, hg0, hdp, he20, hi12, he10] <;> rfl) ?_
           refine al_nil ?_
           refine awp_ret ?_
           refine ends_ret (by simp [go_sem, enc_none, hg0, hdp, he20, hi12, he10] <;> rfl) (by simp [go_sem]) ?_
           exact ⟨by simp [go_sem], by simp [go_sem]⟩
          ·have w2 : e3 = 0 := by simpa using h176
           refine aLG 2 121 false (by simp [go_sem, enc_none, hg0, hdp, he20, hi12, he10] <;> rfl) ?_
           refine aL 2 (by simp [go_sem, enc_none, hg0, hdp, he20, hi12, he10] <;> rfl) ?_
           refine al_splitT 125 (by first | rfl | (simp [go_sem, enc_none, hg0, hdp, he20, hi12, he10] <;> rfl)) (fun h177 => ?_) (fun h177 => ?_)
           ·refine aK 2 125 false ?_
            refine aL 2 (by simp [go_sem, enc_none, hg0, hdp, he20, hi12, he10] <;> rfl) ?_
            refine aK 3 129 false ?_
            refine aK 1 132 true ?_
            refine aK 1 129 false ?_
            refine aL 2 (by simp [go_sem, enc_none, hg0, hdp, he20, hi12, he10] <;> rfl) ?_
            refine al_fnG 136 true true (by simp [go_sem]) rfl (by simp [go_sem]) rfl rfl (by simp [go_sem, enc_none, hg0, hdp, he20, hi12, he10] <;> rfl) call22 (c_alive σ hσ) (by simp [go_sem, enc_none, hg0, hdp, he20, hi12, he10] <;> rfl) (by simp [go_sem, enc_none, hg0, hdp, he20, hi12, he10]) rfl rfl ?_
            refine aL 2 (by simp [go_sem, enc_none, hg0, hdp, he20, hi12, he10] <;> rfl) ?_
            refine al_nil ?_
            refine awp_ret ?_
            refine ends_ret (by simp [go_sem, enc_none, hg0, hdp, he20, hi12, he10] <;> rfl) (by simp [go_sem]) ?_
            exact ⟨by simp [go_sem], by simp [go_sem]⟩
           ·have w3 : i1 = true := by simpa using h177
            refine aLG 2 125 false (by simp [go_sem, enc_none, hg0, hdp, he20, hi12, he10] <;> rfl) ?_
            refine aL 2 (by simp [go_sem, enc_none, hg0, hdp, he20, hi12, he10] <;> rfl) ?_
            refine al_splitT 129 (by first | rfl | (simp [go_sem, enc_none, hg0, hdp, he20, hi12, he10] <;> rfl)) (fun h178 => ?_) (fun h178 => ?_)
            ·refine aK 3 129 false ?_
             refine aK 1 132 true ?_
             refine aK 1 129 false ?_
             refine aL 2 (by simp [go_sem, enc_none, hg0, hdp, he20, hi12, he10] <;> rfl) ?_
             refine al_fnG 136 true true (by simp [go_sem]) rfl (by simp [go_sem]) rfl rfl (by simp [go_sem, enc_none, hg0, hdp, he20, hi12, he10] <;> rfl) call22 (c_alive σ hσ) (by simp [go_sem, enc_none, hg0, hdp, he20, hi12, he10] <;> rfl) (by simp [go_sem, enc_none, hg0, hdp, he20, hi12, he10]) rfl rfl ?_
             refine aL 2 (by simp [go_sem, enc_none, hg0, hdp, he20, hi12, he10] <;> rfl) ?_
             refine al_nil ?_
             refine awp_ret ?_
             refine ends_ret (by simp [go_sem, enc_none, hg0, hdp, he20, hi12, he10] <;> rfl) (by simp [go_sem]) ?_
             exact ⟨by simp [go_sem], by simp [go_sem]⟩
            ·have w4 : i3 = true := by simpa using h178
             obtain ⟨htr1, htr2⟩ := msame_trans (x := x) (y := y) (z := z) (by rw [← he1]; exact w1) (by rw [← he3]; exact w2) (by rw [← hi1]; exact w3) (by rw [← hi3]; exact w4)
             have he40 : e4 = 0 := by rw [he4]; exact htr1
             have hi41 : i4 = true := by rw [hi4]; exact htr2
             refine aLG 3 129 false (by simp [go_sem, enc_none, hg0, hdp, he20, hi12, he10, he40, hi41] <;> rfl) ?_
             refine al_splitT 132 (by first | rfl | (simp [go_sem, enc_none, hg0, hdp, he20, hi12, he10, he40, hi41] <;> rfl)) (fun h179 => ?_) (fun h179 => ?_)
             ·refine aLG 1 132 true (by simp [go_sem, enc_none, hg0, hdp, he20, hi12, he10, he40, hi41] <;> rfl) ?_
              refine aLG 1 129 false (by simp [go_sem, enc_none, hg0, hdp, he20, hi12, he10, he40, hi41] <;> rfl) ?_
              refine aL 2 (by simp [go_sem, enc_none, hg0, hdp, he20, hi12, he10, he40, hi41] <;> rfl) ?_
              refine al_splitT 136 (by first | rfl | (simp [go_sem, enc_none, hg0, hdp, he20, hi12, he10, he40, hi41] <;> rfl)) (fun h180 => ?_) (fun h180 => ?_)
              ·refine al_fnG 136 true true (by simp [go_sem]) rfl (by simp [go_sem]) rfl rfl (by simp [go_sem, enc_none, hg0, hdp, he20, hi12, he10, he40, hi41] <;> rfl) call22 (c_alive σ hσ) (by simp [go_sem, enc_none, hg0, hdp, he20, hi12, he10, he40, hi41] <;> rfl) (by simp [go_sem, enc_none, hg0, hdp, he20, hi12, he10, he40, hi41]) rfl rfl ?_
               refine aL 2 (by simp [go_sem, enc_none, hg0, hdp, he20, hi12, he10, he40, hi41] <;> rfl) ?_
               refine al_nil ?_
               refine awp_ret ?_
               refine ends_ret (by simp [go_sem, enc_none, hg0, hdp, he20, hi12, he10, he40, hi41] <;> rfl) (by simp [go_sem]) ?_
               exact ⟨by simp [go_sem], by simp [go_sem]⟩
              ·first | (cases h180; done) | (simp at h180; done)
             ·first | (cases h179; done) | (simp at h179; done)
      ·have he1z : ¬ e1 = 0 := by simpa using h172
       refine aK 3 106 true ?_
       refine aK 3 109 false ?_
       refine aK 1 106 true ?_
       refine aL 1 (by simp [go_sem, enc_none, hg0, hdp, he1z] <;> rfl) ?_
       refine al_nil ?_
       refine awp_cond (b := false) (by simp [go_sem, enc_none, hg0, hdp, he1z, h155, h157, h158, h159, h172]) (fun h => ?_) (fun h => ?_)
       ·cases h
       refine awp_skip ?_
       refine awp_seq (awp_reg ?_)
       refine aL 3 (by simp [go_sem, enc_none, hg0, hdp, he1z] <;> rfl) ?_
       refine al_splitT 117 (by first | rfl | (simp [go_sem, enc_none, hg0, hdp, he1z] <;> rfl)) (fun h181 => ?_) (fun h181 => ?_)
       ·refine aK 2 117 false ?_
        refine aL 2 (by simp [go_sem, enc_none, hg0, hdp, he1z] <;> rfl) ?_
        refine aK 2 121 false ?_
        refine aL 2 (by simp [go_sem, enc_none, hg0, hdp, he1z] <;> rfl) ?_
        refine aK 2 125 false ?_
        refine aL 2 (by simp [go_sem, enc_none, hg0, hdp, he1z] <;> rfl) ?_
        refine aK 3 129 false ?_
        refine aK 1 132 true ?_
        refine aK 1 129 false ?_
        refine aL 2 (by simp [go_sem, enc_none, hg0, hdp, he1z] <;> rfl) ?_
        refine al_fnG 136 true true (by simp [go_sem]) rfl (by simp [go_sem]) rfl rfl (by simp [go_sem, enc_none, hg0, hdp, he1z] <;> rfl) call22 (c_alive σ hσ) (by simp [go_sem, enc_none, hg0, hdp, he1z] <;> rfl) (by simp [go_sem, enc_none, hg0, hdp, he1z]) rfl rfl ?_
        refine aL 2 (by simp [go_sem, enc_none, hg0, hdp, he1z] <;> rfl) ?_
        refine al_nil ?_
        refine awp_ret ?_
        refine ends_ret (by simp [go_sem, enc_none, hg0, hdp, he1z] <;> rfl) (by simp [go_sem]) ?_
        exact ⟨by simp [go_sem], by simp [go_sem]⟩
       ·first | (cases h181; done) | (simp at h181; done) | exact absurd (by simpa using h181) he1z

end Go.Proofs.YtmpofjiokpeegaaGreatDoor

/- The laid tables and the data of this seat, as abstract values. -/
namespace Go.Proofs.YtmpofjiokpeegaaGreatDoor
open Go Go.Aw
variable {kr : KR}
theorem dty : DatumTy Tryz.prog 24 22 3 2 9 :=
  { und := ⟨_, _, _, _, Tryz.underlying24, rfl, rfl, rfl, rfl, rfl, rfl, rfl, rfl⟩, i := Tryz.underlying3, n := Tryz.underlying2, s := Tryz.underlying9, k := Tryz.underlying22, cD := by kernel_rfl, ci := by kernel_rfl, cn := by kernel_rfl, cs := by kernel_rfl, ck := by kernel_rfl }
theorem gShapes : Tryz.prog.globalNamed "pagoda/multi.shapes" = some 0 := by kernel_rfl
theorem gPrim : Tryz.prog.globalNamed "pagoda/prim.names" = some 1 := by kernel_rfl
theorem gRange : Tryz.prog.globalNamed "strconv.ErrRange" = some 3 := by kernel_rfl
theorem gSyntax : Tryz.prog.globalNamed "strconv.ErrSyntax" = some 2 := by kernel_rfl
theorem tShapes : (Tryz.prog.globals[0]?).map (·.type) = some 131 := by kernel_rfl
theorem tPrim : (Tryz.prog.globals[1]?).map (·.type) = some 180 := by kernel_rfl
theorem tPow : (Tryz.prog.globals[4]?).map (·.type) = some 237 := by kernel_rfl
theorem tRange : (Tryz.prog.globals[3]?).map (·.type) = some 153 := by kernel_rfl
theorem tSyntax : (Tryz.prog.globals[2]?).map (·.type) = some 153 := by kernel_rfl
theorem rows_pow : (Rows.laid_internal_strconv_uint64pow10 : DataW Unit) = Lib.tabData .u64 Lib.pow10Tab := by kernel_rfl
theorem rows_range : (Rows.laid_strconv_ErrRange : DataW Unit) = .iface "*errors.errorString" (.ptr (.agg [.lit (.string [118, 97, 108, 117, 101, 32, 111, 117, 116, 32, 111, 102, 32, 114, 97, 110, 103, 101])])) := rfl
theorem rows_syntax : (Rows.laid_strconv_ErrSyntax : DataW Unit) = .iface "*errors.errorString" (.ptr (.agg [.lit (.string [105, 110, 118, 97, 108, 105, 100, 32, 115, 121, 110, 116, 97, 120])])) := rfl
def shS : List (List UInt8 × (Nat × Nat)) := [([97, 112, 112], (0, 3)), ([102, 110], (2, 4)), ([105, 102], (0, 4)), ([108, 101, 116], (1, 4)), ([108, 105, 102, 116], (0, 2)), ([113, 117, 111, 116, 101], (0, 2)), ([114, 117, 110], (0, 3)), ([115, 97, 121], (0, 2))]
theorem rows_shapes : (Rows.laid_pagoda_multi_shapes : DataW Unit) = .map (shS.map datSh) := by kernel_rfl
theorem shS_perm : shS.Perm shapesB := List.isPerm_iff.1 (by kernel_rfl)
theorem err_row (u : TypeId) (hu : Tryz.prog.typeName? 3 u = some "*errors.errorString") : u = 244 :=
  typeName_ptr_named (nm := "errors.errorString") (by kernel_rfl) (by kernel_rfl) (by decide +kernel) u hu
set_option maxRecDepth 100000 in
/-- What the row's listed variables are when the call begins. -/
theorem of_laid {W : World} (h : laidMetH Tryz.prog [("math/bits.deBruijn32tab", Rows.laid_math_bits_deBruijn32tab), ("math/bits.deBruijn64tab", Rows.laid_math_bits_deBruijn64tab), ("internal/strconv.uint64pow10", Rows.laid_internal_strconv_uint64pow10), ("strconv.ErrRange", Rows.laid_strconv_ErrRange), ("strconv.ErrSyntax", Rows.laid_strconv_ErrSyntax), ("pagoda/prim.names", Rows.laid_pagoda_prim_names), ("pagoda/multi.shapes", Rows.laid_pagoda_multi_shapes)] W) :
    ∃ kr : ShO, ∀ n p, (n, p) ∈ (GL kr) → RP W.heap.size (fun _ _ => False) W p (.pointer (some ⟨n, 0, none⟩)) := by
  rw [MakeChecks.laidMetH_plain _ _ _ (by kernel_rfl)] at h
  obtain ⟨ps, ⟨_, _, _, _, _, q6, _, _, _, _, ⟨_, _, _, _, _, q5, _, _, _, _, ⟨g2, t2, cs2, f2, p2, q2, hg2, ht2, hv2, hd2, ⟨g3, t3, cs3, f3, p3, q3, hg3, ht3, hv3, hd3, ⟨g4, t4, cs4, f4, p4, q4, hg4, ht4, hv4, hd4, ⟨g1, t1, cs1, f1, p1, q1, hg1, ht1, hv1, hd1, ⟨g0, t0, cs0, f0, p0, q0, hg0, ht0, hv0, hd0, _, _⟩, _⟩, e4⟩, e3⟩, e2⟩, e5⟩, e6⟩, _, hz⟩ := h
  obtain rfl := Option.some.inj (gShapes.symm.trans hg0)
  obtain rfl := Option.some.inj (gPrim.symm.trans hg1)
  obtain rfl := Option.some.inj (gPow.symm.trans hg2)
  obtain rfl := Option.some.inj (gRange.symm.trans hg3)
  obtain rfl := Option.some.inj (gSyntax.symm.trans hg4)
  obtain rfl := Option.some.inj (tShapes.symm.trans ht0)
  obtain rfl := Option.some.inj (tPrim.symm.trans ht1)
  obtain rfl := Option.some.inj (tPow.symm.trans ht2)
  obtain rfl := Option.some.inj (tRange.symm.trans ht3)
  obtain rfl := Option.some.inj (tSyntax.symm.trans ht4)
  rw [rows_shapes] at hd0
  obtain ⟨b, kr, hc0, hrp0⟩ := open_shapes (S := fun _ _ => False) Tryz.underlying131 Tryz.underlying9 Tryz.underlying130 Tryz.underlying3 Tryz.underlying3 rfl rfl (by kernel_rfl) (by kernel_rfl) (by kernel_rfl) hd0 shS_perm
  obtain ⟨v, hc1, hone, hrp1⟩ := open_table (S := fun _ _ => False) (L := primNames) Tryz.underlying180 Tryz.underlying181 Tryz.underlying9 Tryz.underlying3 rfl rfl (by kernel_rfl) (by kernel_rfl) (by kernel_rfl) hd1
  rw [rows_pow] at hd2
  have hc2 := Lib.cells_of_tab Tryz.underlying237 Tryz.underlying193 (by kernel_rfl) (by kernel_rfl) hd2
  have hblk : ∃ e c, W.heap[(4 : Nat)]? = some (.cells (Lib.pow10Tab.map (Value.int .u64)).toArray e c) := by
    simp only [World.var?, gPow, Option.bind_some] at hv2
    split at hv2
    · rename_i cs e c hh
      cases hv2
      refine ⟨e, c, ?_⟩
      rw [hh, ← Array.toArray_toList (xs := cs2), hc2]
    · cases hv2
  obtain ⟨e2', c2, hblk⟩ := hblk
  have hcell0 : W.cell? ⟨0, 0, none⟩ = some (.map (some b)) := by
    have := World.var?_cell hg0 hv0 0
    rw [Array.eq_one_of_toList hc0] at this
    simpa using this
  have hcell1 : W.cell? ⟨1, 0, none⟩ = some v := by
    have := World.var?_cell hg1 hv1 0
    rw [Array.eq_one_of_toList hc1] at this
    simpa using this
  have hi3 : ∀ u v, cs3.toList = [.iface u v] → W.cell? ⟨3, 0, none⟩ = some (.iface u v) := fun u v hh => by
    have := World.var?_cell hg3 hv3 0
    rw [Array.eq_one_of_toList hh] at this
    simpa using this
  have hi4 : ∀ u v, cs4.toList = [.iface u v] → W.cell? ⟨2, 0, none⟩ = some (.iface u v) := fun u v hh => by
    have := World.var?_cell hg4 hv4 0
    rw [Array.eq_one_of_toList hh] at this
    simpa using this
  have hm3 : ∀ u v, cs3.toList = [.iface u v] → MemPlace.cell 3 0 ∈ ps := fun u v hh => by
    have hs : cs3.size = 1 := by rw [Array.eq_one_of_toList hh]; rfl
    rw [e6, e5, e2, e3, hs]
    simp [MemPlace.row]
  have hm4 : ∀ u v, cs4.toList = [.iface u v] → MemPlace.cell 2 0 ∈ ps := fun u v hh => by
    have hs : cs4.size = 1 := by rw [Array.eq_one_of_toList hh]; rfl
    rw [e6, e5, e2, e3, e4, hs]
    simp [MemPlace.row]
  rw [rows_range] at hd3
  rw [rows_syntax] at hd4
  have ok3 : ∀ u v, cs3.toList = [.iface u v] → Value.okWide Tryz.prog W .any 0 u v := by
    intro u v hh
    have hzz := hz 3 0 (hm3 u v hh)
    obtain ⟨_, hzy⟩ := hzz
    exact hzy u v (hi3 u v hh)
  obtain ⟨a3, s3, hc3, ha3, _⟩ := errorString_of_trod Tryz.underlying153 err_row Tryz.underlying244 Tryz.underlying246 rfl rfl Tryz.underlying9 (by kernel_rfl) (by kernel_rfl) hd3 ok3
  have ok4 : ∀ u v, cs4.toList = [.iface u v] → Value.okWide Tryz.prog W .any 0 u v := by
    intro u v hh
    have hzz := hz 2 0 (hm4 u v hh)
    obtain ⟨_, hzy⟩ := hzz
    exact hzy u v (hi4 u v hh)
  obtain ⟨a4, s4, hc4, ha4, _⟩ := errorString_of_trod Tryz.underlying153 err_row Tryz.underlying244 Tryz.underlying246 rfl rfl Tryz.underlying9 (by kernel_rfl) (by kernel_rfl) hd4 ok4
  have hcell3 := hi3 _ _ hc3
  have hcell4 := hi4 _ _ hc4
  refine ⟨kr, fun n p hm => ?_⟩
  simp only [GL, List.cons_append, List.nil_append, List.mem_cons, Prod.mk.injEq, List.not_mem_nil, or_false] at hm
  rcases hm with ⟨rfl, rfl⟩ | ⟨rfl, rfl⟩ | ⟨rfl, rfl⟩ | ⟨rfl, rfl⟩ | ⟨rfl, rfl⟩
  · exact rp_var (cell_lt hcell0) hcell0 rfl hrp0
  · rw [primV_of] at hrp1
    exact rp_var (cell_lt hcell1) hcell1 hone hrp1
  · refine RP.tab ?_ hblk
    by_cases hlt : 4 < W.heap.size
    · exact hlt
    · rw [Array.getElem?_eq_none (by show W.heap.size ≤ _; omega)] at hblk; cases hblk
  all_goals first | exact rp_error (cell_lt hcell3) hcell3 ha3 | exact rp_error (cell_lt hcell4) hcell4 ha4

end Go.Proofs.YtmpofjiokpeegaaGreatDoor

/- MultiPlain: for every datum the law returns true, and it reads as it did. -/
namespace Go.Proofs.YtmpofjiokpeegaaGreatDoor
open Go Go.Aw
variable {kr : KR}
open Go.ChangeShapes Go.WideShapes Go.ChangeAt Go.WideMaps Go.WideElems Go.RowKit
theorem own : ownKnob Tryz.prog.godebug = none := by kernel_rfl
theorem laidOut : laidOutB Tryz.prog = true := by kernel_rfl
theorem door_met (os : Os) (args : Array Value) : laidMetH Tryz.prog Rows.multiPlainRow.laid ((World.doorLaid Tryz.prog 136 os).forCall (fun _ _ => 0) ⟨#[], args, []⟩).memory :=
  laidMetH_of_parts3 (fuel := 8) (laidMet_of_run' 8 (by kernel_rfl) (by kernel_rfl)) (by kernel_rfl) (by kernel_rfl)
/-- The call, as the machine makes it. -/
theorem multiPlain_calls {W : World} (hL : laidMetH Tryz.prog Rows.multiPlainRow.laid W) {v0 v1 v2 : Value} {d0 : D} {d1 : D} {d2 : D} (h0 : RP W.heap.size (fun _ _ => False) W (enc d0) v0) (h1 : RP W.heap.size (fun _ _ => False) W (enc d1) v1) (h2 : RP W.heap.size (fun _ _ => False) W (enc d2) v2) :
    Calls Tryz.prog 8 #[v0, v1, v2] W fun r W' => r = .returned (.bool true) ∧ Below W.heap.size W W' := by
  obtain ⟨kr, hg⟩ := of_laid hL
  refine (c_MultiPlain (kr := kr) d0 d1 d2 ⟨(GL kr), [], []⟩ rfl (g0 W) W [v0, v1, v2] (inv0 hg) rfl (fun i x v hx hv => ?_)).mono ?_
  · match i with
    | 0 => simp at hx hv; subst hx hv; exact .pv h0
    | 1 => simp at hx hv; subst hx hv; exact .pv h1
    | 2 => simp at hx hv; subst hx hv; exact .pv h2
    | i + 3 => simp at hx
  · rintro r W' ⟨v, x, σ', g', rfl, ⟨rfl, rfl⟩, _, hext, hra⟩
    rw [hra.pv_inv.bool_inv]
    exact ⟨rfl, below_of hext⟩
abbrev zeroDatum : Value := .agg #[.int .i64 0, .int .i64 0, .string ⟨#[]⟩, .slice none 0 0]
set_option maxRecDepth 100000 in
theorem multiPlain_lifted (os : Os) (started : os.Started) (H : Type) (enc' : TypeId × Value → H) :
    ReturnsInHanded {} Tryz.checked os 8 .any (fun w args => (Rows.multiPlainSpec.pre enc' Tryz.prog Tryz.f8 [] false w args ∧ laidMetH Tryz.prog Rows.multiPlainRow.laid w) ∧ sizedMet enc' Tryz.prog Tryz.f8 (OpenSpec.ofChange Rows.multiPlainSpec) false w args)
      (Rows.multiPlainSpec.post enc' Tryz.prog Tryz.f8 false true false false) := by
  refine returnsInHanded_of_change_and (C := Tryz.checked) (X := fun w _ => laidMetH Tryz.prog Rows.multiPlainRow.laid w) (fun _ _ _ hh h => h.of_heap hh) own started (by kernel_rfl) Tryz.func8
    (ChangeSpec.witness_shaped (enc := enc') (C := Tryz.checked) (os := os) (X := fun w _ => laidMetH Tryz.prog Rows.multiPlainRow.laid w) false (World.doorLaid Tryz.prog 136 os) #[zeroDatum, zeroDatum, zeroDatum] 8 rfl (World.shaped_of_RefB (by kernel_rfl) (by kernel_rfl)) (by kernel_rfl) (by kernel_rfl) (by kernel_rfl) (door_met os _)) ?_
  intro W base args ds gs before hval0 hW _ _ hL _
  have hW' := hW
  obtain ⟨p, q, hA0, hV, rfl, hfz, hnd⟩ := hW
  have hA : DataW.TrodAll enc' Tryz.prog W 0 (fun _ => true) true Tryz.f8.params.toList args.toList ds p := hA0
  rw [Tryz.params8] at hA
  obtain ⟨v0, v1, v2, x0, x1, x2, p0, p1, p2, rfl, rfl, rfl, h0, h1, h2⟩ := trodAll_three hA
  obtain ⟨rfl, rfl⟩ := trodVars_none hV
  clear hA0
  simp only [List.append_nil] at hW'
  obtain ⟨n0, t0⟩ := id h0
  obtain ⟨n1, t1⟩ := id h1
  obtain ⟨n2, t2⟩ := id h2
  obtain ⟨e0, u0, hc0, ho0, hr0⟩ := open_datum (S := fun _ _ => False) dty n0 _ _ t0
  have hv0 := open_agg hc0
  obtain ⟨e1, u1, hc1, ho1, hr1⟩ := open_datum (S := fun _ _ => False) dty n1 _ _ t1
  have hv1 := open_agg hc1
  obtain ⟨e2, u2, hc2, ho2, hr2⟩ := open_datum (S := fun _ _ => False) dty n2 _ _ t2
  have hv2 := open_agg hc2
  clear hval0
  have hlt := hW'.lt
  refine (multiPlain_calls hL (hv0 ▸ rp_datum ho0 hr0) (hv1 ▸ rp_datum ho1 hr1) (hv2 ▸ rp_datum ho2 hr2)).mono fun r W' ⟨hr, hb⟩ => ?_
  subst hr
  exact ⟨_, rfl, post_of_below (pa := p0 ++ (p1 ++ p2)) (pv := []) hW' (fun _ _ _ => trodAll_mk1 (shut_bool Tryz.underlying4 true))
    (fun sp hs => trodAll_mk3 (Trod_stays laidOut (by kernel_rfl) (of_decide_eq_true (by kernel_rfl)) h0 (fun x hx => hb.same (hlt x (by simp [hx]))) (fun x hx => hs x (by simp [hx]))) (Trod_stays laidOut (by kernel_rfl) (of_decide_eq_true (by kernel_rfl)) h1 (fun x hx => hb.same (hlt x (by simp [hx]))) (fun x hx => hs x (by simp [hx]))) (Trod_stays laidOut (by kernel_rfl) (of_decide_eq_true (by kernel_rfl)) h2 (fun x hx => hb.same (hlt x (by simp [hx]))) (fun x hx => hs x (by simp [hx]))))
    (fun _ _ => rfl) (by simp) hb (ok_one (by kernel_rfl) rfl (okWide_bool_mk Tryz.underlying4 _))⟩
theorem multiPlain_holds : Rows.MultiPlainSaid :=
  OpenClaim.holds_of_wide 8 Tryz.f8 rfl rfl rfl rfl rfl rfl rfl ⟨rfl, rfl, rfl, rfl, rfl⟩ rfl rfl rfl rfl rfl (by kernel_rfl) Tryz.func8 (by kernel_rfl)
    (of_decide_eq_true (by kernel_rfl)) (by unfold Func.isWrapper; rw [if_neg (by decide +kernel)]; exact ⟨rfl, rfl⟩)
    (fun os started H enc _ => multiPlain_lifted os started H enc)
/-- The tied card. -/
theorem multiPlainCard_holds : Rows.MultiPlainCardSaid :=
  Claim7.holds_tied_plain_at .later [] [.data, .data, .data, .sentinel, .sentinel, .data, .mapped] true (true, "276281381aeeddcbf331b1d3fd2842c84a196ad6d3eeb788474b70cc62e3ca80") true
    multiPlain_holds (fun _ h => by cases h) (by kernel_rfl) (fun _ h => by cases h) multiPlain_row_tie rfl ⟨rfl, rfl⟩ (by kernel_rfl) rfl
    (fun f fn hf hfn => by
      obtain rfl : f = 8 := Option.some.inj ((show Tryz.prog.funcNamed "pagoda/pagodalaw25.MultiPlain" = some 8 by kernel_rfl).symm.trans hf) |>.symm
      obtain rfl : fn = Tryz.f8 := (Option.some.inj (Tryz.func8.symm.trans hfn)).symm
      exact ⟨by kernel_rfl, fun j t ht => by
        rw [Tryz.params8] at ht
        rcases j with _ | _ | _ | j
        · obtain rfl : 24 = t := by simpa using ht
          exact (show Tryz.prog.wantsStandIn 24 = false by kernel_rfl)
        · obtain rfl : 24 = t := by simpa using ht
          exact (show Tryz.prog.wantsStandIn 24 = false by kernel_rfl)
        · obtain rfl : 24 = t := by simpa using ht
          exact (show Tryz.prog.wantsStandIn 24 = false by kernel_rfl)
        · simp at ht⟩)
    (by kernel_rfl)
end Go.Proofs.YtmpofjiokpeegaaGreatDoor
