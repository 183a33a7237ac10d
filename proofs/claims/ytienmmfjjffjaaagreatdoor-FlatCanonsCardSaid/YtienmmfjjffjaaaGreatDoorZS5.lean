/- Part of the proof that the statement holds for every input that its row lets in: the contracts of the program's functions, printed by a program out of annotations; the statement itself stands at the end of the last part. -/
import Derived.Test.YtienmmfjjffjaaaGreatDoorZS4
import Derived.Test.YtienmmfjjffjaaaGreatDoorZA3
import Derived.Test.YtienmmfjjffjaaaGreatDoorZS3
import Derived.Test.YtienmmfjjffjaaaGreatDoorRows
import Derived.Test.YtienmmfjjffjaaaGreatDoorCards
import Derived.Test.YtienmmfjjffjaaaGreatDoorTie
set_option linter.unusedSimpArgs false
set_option linter.unusedVariables false
/- FlatCanons. -/
namespace Go.Proofs.YtienmmfjjffjaaaGreatDoor
open Go Go.Aw
variable {kr : ResO}
set_option maxHeartbeats 1000000 in
theorem c_FlatCanons (p q : D) (σ : Store) (hσ : σ = ⟨(GL kr), [], []⟩) : PurAt Tryz.prog σ 4 [.pv (enc p), .pv (enc q)] (.pv (.bool true)) := by
  have hgl : σ.gl = (GL kr) := by rw [hσ]
  refine purAt_of ?_
  refine acalls_of tyOk Tryz.func4 rfl (by simp [Tryz.f4]) ?_
  refine awp_seq ?_
  refine awp_region_run (sh := []) tyOk (by simp [go_sem] <;> rfl) ?_
  refine awp_seq ?_
  refine awp_regDA (os := []) tyOk tySz 4 (by kernel_rfl) (by decide) rfl rfl ?_
  refine ul_run 1 (by simp [go_sem] <;> rfl) ?_
  refine ul_callW (by simp [go_sem]) rfl rfl rfl rfl (by simp [go_sem] <;> rfl) call9 (c_Cut17 p σ hgl) (by simp [go_sem] <;> rfl) (by simp [go_sem]) rfl rfl ⟨_, _, dnone, rfl, rfl, by simp [dnone, D.size, D.sizes]⟩ ?_
  rintro r σ1 ⟨x, rfl, hs1, hx⟩
  rw [hs1]
  clear hs1 σ1
  have hce := fcanon_err x
  refine ul_run 1 (by simp [go_sem, hce] <;> rfl) ?_
  refine ul_callW (by simp [go_sem]) rfl rfl rfl rfl (by simp [go_sem, hce] <;> rfl) call9 (c_Cut17 q σ hgl) (by simp [go_sem, hce] <;> rfl) (by simp [go_sem, hce]) rfl rfl ⟨_, _, dnone, rfl, rfl, by simp [dnone, D.size, D.sizes]⟩ ?_
  rintro r σ1 ⟨y, rfl, hs1, hy⟩
  rw [hs1]
  clear hs1 σ1
  refine ul_nil ?_
  refine ⟨?_, ?_⟩
  · refine ul_run 2 (by simp [go_sem, hce] <;> rfl) ?_
    refine ul_nil ?_
    refine al_run 2 (sh := []) tyOk (by simp [go_sem, hce] <;> rfl) ?_
    refine al_nil ?_
    refine awp_seq ?_
    refine awp_reg ?_
    refine al_run 1 (sh := []) tyOk (by simp [go_sem, hce] <;> rfl) ?_
    refine al_fn rfl rfl rfl (by simp [go_sem, hce] <;> rfl) call10 ((c_refCheck x (by omega)) _ (by exact hgl)) (by simp [go_sem, hce] <;> rfl) (by simp [go_sem, hce]) rfl rfl ?_
    refine al_run 5 (sh := []) tyOk (by simp [go_sem, hce] <;> rfl) ?_
    refine al_nil ?_
    refine awp_seq ?_
    refine awp_reg ?_
    refine al_run 1 (sh := []) tyOk (by simp [go_sem, hce] <;> rfl) ?_
    refine al_fn rfl rfl rfl (by simp [go_sem, hce] <;> rfl) call10 ((c_refCheck y (by omega)) _ (by exact hgl)) (by simp [go_sem, hce] <;> rfl) (by simp [go_sem, hce]) rfl rfl ?_
    refine al_run 5 (sh := []) tyOk (by simp [go_sem, hce] <;> rfl) ?_
    refine al_nil ?_
    refine awp_seq ?_
    refine awp_reg ?_
    refine al_run 1 (sh := []) tyOk (by simp [go_sem, hce] <;> rfl) ?_
    refine al_fn rfl rfl rfl (by simp [go_sem, hce] <;> rfl) call21 ((c_flat_Canon x (by omega)) _ (by exact hgl)) (by simp [go_sem, hce] <;> rfl) (by simp [go_sem, hce]) rfl rfl ?_
    refine al_run 6 (sh := []) tyOk (by simp [go_sem, hce] <;> rfl) ?_
    refine al_nil ?_
    refine awp_seq ?_
    refine awp_reg ?_
    refine al_run 2 (sh := []) tyOk (by simp [go_sem, hce] <;> rfl) ?_
    refine al_fn rfl rfl rfl (by simp [go_sem, hce] <;> rfl) call22 ((c_flat_Same x y (by omega) (by omega)) _ (by exact hgl)) (by simp [go_sem, hce] <;> rfl) (by simp [go_sem, hce]) rfl rfl ?_
    refine al_run 5 (sh := []) tyOk (by simp [go_sem, hce] <;> rfl) ?_
    refine al_nil ?_
    refine awp_seq ?_
    refine awp_seq ?_
    refine awp_regDC tyOk tySz 11 (by kernel_rfl) (by decide) ?_
    refine ul_run 4 (by simp [go_sem, hce] <;> rfl) ?_
    refine ul_splitT 44 (by first | rfl | (simp [go_sem, hce] <;> rfl)) (fun h0 => ?_) (fun h0 => ?_)
    · first | (cases h0; done) | (simp at h0; done)
    · refine ul_runG 3 44 false false (by simp [go_sem]) rfl (by simp [go_sem]) rfl rfl (by simp [go_sem, hce] <;> rfl) ?_
      refine ul_splitT 47 (by first | rfl | (simp [go_sem, hce] <;> rfl)) (fun h1 => ?_) (fun h1 => ?_)
      · have R : Right x := ⟨by simpa using h1, by omega⟩
        have hchk := R.chk
        have hfc := R.fcanon
        have hcx := R.canon
        have hdc := deq_refl (canonD x)
        have hsz := canon_size R
        refine ul_runG 2 47 true true (by simp [go_sem]) rfl (by simp [go_sem]) rfl rfl (by simp [go_sem, hce, hchk, hfc, hdc] <;> rfl) ?_
        refine ul_fnG 47 true true (by simp [go_sem]) rfl (by first | (intro _ _ hh; exact hh) | simp [go_sem]) (by simp [go_sem]) rfl rfl rfl (by simp [go_sem, hce, hchk, hfc, hdc] <;> rfl) call24 ((c_refCanon x R) _ (by exact hgl)) (by simp [go_sem, hce, hchk, hfc, hdc] <;> rfl) (by simp [go_sem, hce, hchk, hfc, hdc]) rfl rfl ?_
        refine ul_fnG 47 true true (by simp [go_sem]) rfl (by first | (intro _ _ hh; exact hh) | simp [go_sem]) (by simp [go_sem]) rfl rfl rfl (by simp [go_sem, hce, hchk, hfc, hdc] <;> rfl) call23 ((c_refDatum (refCanon x) R.refCanon_len (fun z hz => R.refCanon_ps z hz)) _ (by exact hgl)) (by simp [go_sem, hce, hchk, hfc, hdc] <;> rfl) (by simp [go_sem, hce, hchk, hfc, hdc]) rfl rfl ?_
        refine ul_nil ?_
        refine al_fnG 47 true true (by simp [go_sem]) rfl (by simp [go_sem]) rfl rfl (by simp [go_sem, hce, hchk, hfc, hdc, hcx] <;> rfl) call15 ((c_Same (canonD x) (by omega) (canonD x)) _ (by exact hgl)) (by simp [go_sem, hce, hchk, hfc, hdc, hcx] <;> rfl) (by simp [go_sem, hce, hchk, hfc, hdc, hcx]) rfl rfl ?_
        refine al_runG (sh := []) 1 47 true true tyOk (by simp [go_sem]) rfl (by simp [go_sem]) rfl rfl (by simp [go_sem, hce, hchk, hfc, hdc, hcx] <;> rfl) ?_
        refine al_runG (sh := []) 1 44 false false tyOk (by simp [go_sem]) rfl (by simp [go_sem]) rfl rfl (by simp [go_sem, hce, hchk, hfc, hdc, hcx] <;> rfl) ?_
        refine al_run 1 (sh := []) tyOk (by simp [go_sem, hce, hchk, hfc, hdc, hcx] <;> rfl) ?_
        refine al_nil ?_
        refine awp_cond (by first | rfl | (simp [go_sem, hce, hchk, hfc, hdc, hcx] <;> rfl)) (fun h2 => ?_) (fun h2 => ?_)
        · first | (cases h2; done) | (simp at h2; done)
        · refine awp_skip ?_
          refine awp_seq ?_
          refine awp_seq ?_
          refine awp_region_run (sh := []) tyOk (by simp [go_sem, hce, hchk, hfc, hdc, hcx] <;> rfl) ?_
          refine awp_cond (by first | rfl | (simp [go_sem, hce, hchk, hfc, hdc, hcx] <;> rfl)) (fun h3 => ?_) (fun h3 => ?_)
          · refine awp_region_run (sh := []) tyOk (by simp [go_sem, hce, hchk, hfc, hdc, hcx] <;> rfl) ?_
            refine awp_seq ?_
            refine awp_reg ?_
            refine al_run 3 (sh := []) tyOk (by simp [go_sem, hce, hchk, hfc, hdc, hcx] <;> rfl) ?_
            refine al_splitT 61 (by first | rfl | (simp [go_sem, hce, hchk, hfc, hdc, hcx] <;> rfl)) (fun h4 => ?_) (fun h4 => ?_)
            · have S : Right y := ⟨by simpa using h4, by omega⟩
              have hchy := S.chk
              have hcy := S.canon
              have hS := fSame_good R S
              refine al_runG (sh := []) 1 61 true true tyOk (by simp [go_sem]) rfl (by simp [go_sem]) rfl rfl (by simp [go_sem, hce, hchk, hfc, hdc, hcx, hchy, hS] <;> rfl) ?_
              refine al_fnG 61 true true (by simp [go_sem]) rfl (by simp [go_sem]) rfl rfl (by simp [go_sem, hce, hchk, hfc, hdc, hcx, hchy, hS] <;> rfl) call24 ((c_refCanon x R) _ (by exact hgl)) (by simp [go_sem, hce, hchk, hfc, hdc, hcx, hchy, hS] <;> rfl) (by simp [go_sem, hce, hchk, hfc, hdc, hcx, hchy, hS]) rfl rfl ?_
              refine al_fnG 61 true true (by simp [go_sem]) rfl (by simp [go_sem]) rfl rfl (by simp [go_sem, hce, hchk, hfc, hdc, hcx, hchy, hS] <;> rfl) call23 ((c_refDatum (refCanon x) R.refCanon_len (fun z hz => R.refCanon_ps z hz)) _ (by exact hgl)) (by simp [go_sem, hce, hchk, hfc, hdc, hcx, hchy, hS] <;> rfl) (by simp [go_sem, hce, hchk, hfc, hdc, hcx, hchy, hS]) rfl rfl ?_
              refine al_runG (sh := []) 1 61 true true tyOk (by simp [go_sem]) rfl (by simp [go_sem]) rfl rfl (by simp [go_sem, hce, hchk, hfc, hdc, hcx, hchy, hS, hcx] <;> rfl) ?_
              refine al_fnG 61 true true (by simp [go_sem]) rfl (by simp [go_sem]) rfl rfl (by simp [go_sem, hce, hchk, hfc, hdc, hcx, hchy, hS, hcx] <;> rfl) call24 ((c_refCanon y S) _ (by exact hgl)) (by simp [go_sem, hce, hchk, hfc, hdc, hcx, hchy, hS, hcx] <;> rfl) (by simp [go_sem, hce, hchk, hfc, hdc, hcx, hchy, hS, hcx]) rfl rfl ?_
              refine al_fnG 61 true true (by simp [go_sem]) rfl (by simp [go_sem]) rfl rfl (by simp [go_sem, hce, hchk, hfc, hdc, hcx, hchy, hS, hcx] <;> rfl) call23 ((c_refDatum (refCanon y) S.refCanon_len (fun z hz => S.refCanon_ps z hz)) _ (by exact hgl)) (by simp [go_sem, hce, hchk, hfc, hdc, hcx, hchy, hS, hcx] <;> rfl) (by simp [go_sem, hce, hchk, hfc, hdc, hcx, hchy, hS, hcx]) rfl rfl ?_
              refine al_fnG 61 true true (by simp [go_sem]) rfl (by simp [go_sem]) rfl rfl (by simp [go_sem, hce, hchk, hfc, hdc, hcx, hchy, hS, hcx, hcy] <;> rfl) call15 ((c_Same (canonD x) (by omega) (canonD y)) _ (by exact hgl)) (by simp [go_sem, hce, hchk, hfc, hdc, hcx, hchy, hS, hcx, hcy] <;> rfl) (by simp [go_sem, hce, hchk, hfc, hdc, hcx, hchy, hS, hcx, hcy]) rfl rfl ?_
              refine al_run 2 (sh := []) tyOk (by simp [go_sem, hce, hchk, hfc, hdc, hcx, hchy, hS, hcx, hcy] <;> rfl) ?_
              refine al_nil ?_
              refine awp_seq ?_
              refine awp_reg ?_
              refine al_run 4 (sh := []) tyOk (by simp [go_sem, hce, hchk, hfc, hdc, hcx, hchy, hS, hcx, hcy] <;> rfl) ?_
              refine al_splitT 73 (by first | rfl | (simp [go_sem, hce, hchk, hfc, hdc, hcx, hchy, hS, hcx, hcy] <;> rfl)) (fun h5 => ?_) (fun h5 => ?_)
              · refine al_runG (sh := []) 3 73 true true tyOk (by simp [go_sem]) rfl (by simp [go_sem]) rfl rfl (by simp [go_sem, hce, hchk, hfc, hdc, hcx, hchy, hS, hcx, hcy] <;> rfl) ?_
                refine al_run 2 (sh := []) tyOk (by simp [go_sem, hce, hchk, hfc, hdc, hcx, hchy, hS, hcx, hcy] <;> rfl) ?_
                refine al_splitT 78 (by first | rfl | (simp [go_sem, hce, hchk, hfc, hdc, hcx, hchy, hS, hcx, hcy] <;> rfl)) (fun h6 => ?_) (fun h6 => ?_)
                · refine al_fnG 78 true true (by simp [go_sem]) rfl (by simp [go_sem]) rfl rfl (by simp [go_sem, hce, hchk, hfc, hdc, hcx, hchy, hS, hcx, hcy] <;> rfl) call16 (c_alive σ hσ) (by simp [go_sem, hce, hchk, hfc, hdc, hcx, hchy, hS, hcx, hcy] <;> rfl) (by simp [go_sem, hce, hchk, hfc, hdc, hcx, hchy, hS, hcx, hcy]) rfl rfl ?_
                  refine al_run 2 (sh := []) tyOk (by simp [go_sem, hce, hchk, hfc, hdc, hcx, hchy, hS, hcx, hcy] <;> rfl) ?_
                  refine al_nil ?_
                  refine awp_ret ?_
                  refine ends_ret (by simp [go_sem, hce, hchk, hfc, hdc, hcx, hchy, hS, hcx, hcy] <;> rfl) (by simp [go_sem]) ?_
                  exact ⟨by simp [go_sem], by simp [go_sem]⟩
                · first | (cases h6; done) | (simp at h6; done)
              · first | (cases h5; done) | (simp at h5; done)
            · have hnzy : (fcheck y == 0) = false := h4
              have hS := fSame_bad2 R hnzy
              refine al_skip 7 61 true (by simp [go_sem]) (by simp [go_sem]) rfl rfl ?_
              refine al_run 2 (sh := []) tyOk (by simp [go_sem, hce, hchk, hfc, hdc, hcx, hnzy, hS] <;> rfl) ?_
              refine al_nil ?_
              refine awp_seq ?_
              refine awp_reg ?_
              refine al_run 4 (sh := []) tyOk (by simp [go_sem, hce, hchk, hfc, hdc, hcx, hnzy, hS] <;> rfl) ?_
              refine al_splitT 73 (by first | rfl | (simp [go_sem, hce, hchk, hfc, hdc, hcx, hnzy, hS] <;> rfl)) (fun h7 => ?_) (fun h7 => ?_)
              · refine al_runG (sh := []) 3 73 true true tyOk (by simp [go_sem]) rfl (by simp [go_sem]) rfl rfl (by simp [go_sem, hce, hchk, hfc, hdc, hcx, hnzy, hS] <;> rfl) ?_
                refine al_run 2 (sh := []) tyOk (by simp [go_sem, hce, hchk, hfc, hdc, hcx, hnzy, hS] <;> rfl) ?_
                refine al_splitT 78 (by first | rfl | (simp [go_sem, hce, hchk, hfc, hdc, hcx, hnzy, hS] <;> rfl)) (fun h8 => ?_) (fun h8 => ?_)
                · refine al_fnG 78 true true (by simp [go_sem]) rfl (by simp [go_sem]) rfl rfl (by simp [go_sem, hce, hchk, hfc, hdc, hcx, hnzy, hS] <;> rfl) call16 (c_alive σ hσ) (by simp [go_sem, hce, hchk, hfc, hdc, hcx, hnzy, hS] <;> rfl) (by simp [go_sem, hce, hchk, hfc, hdc, hcx, hnzy, hS]) rfl rfl ?_
                  refine al_run 2 (sh := []) tyOk (by simp [go_sem, hce, hchk, hfc, hdc, hcx, hnzy, hS] <;> rfl) ?_
                  refine al_nil ?_
                  refine awp_ret ?_
                  refine ends_ret (by simp [go_sem, hce, hchk, hfc, hdc, hcx, hnzy, hS] <;> rfl) (by simp [go_sem]) ?_
                  exact ⟨by simp [go_sem], by simp [go_sem]⟩
                · first | (cases h8; done) | (simp at h8; done)
              · first | (cases h7; done) | (simp at h7; done)
          · first | (cases h3; done) | (simp at h3; done)
      · have hnz : (fcheck x == 0) = false := h1
        have hS := fSame_bad y hnz
        refine ul_skip 4 47 true (by simp [go_sem]) (by simp [go_sem]) rfl rfl ?_
        refine ul_nil ?_
        refine al_skip 2 47 true (by simp [go_sem]) (by simp [go_sem]) rfl rfl ?_
        refine al_runG (sh := []) 1 44 false false tyOk (by simp [go_sem]) rfl (by simp [go_sem]) rfl rfl (by simp [go_sem, hce, hnz, hS] <;> rfl) ?_
        refine al_run 1 (sh := []) tyOk (by simp [go_sem, hce, hnz, hS] <;> rfl) ?_
        refine al_nil ?_
        refine awp_cond (b := false) (by simp [go_sem, hce, hnz, hS, h0, h1]) (fun h => ?_) (fun h => ?_)
        · cases h
        refine awp_skip ?_
        refine awp_seq ?_
        refine awp_seq ?_
        refine awp_region_run (sh := []) tyOk (by simp [go_sem, hce, hnz, hS] <;> rfl) ?_
        refine awp_cond (by first | rfl | (simp [go_sem, hce, hnz, hS] <;> rfl)) (fun h9 => ?_) (fun h9 => ?_)
        · first | (cases h9; done) | (simp at h9; done)
        · refine awp_skip ?_
          refine awp_seq ?_
          refine awp_reg ?_
          refine al_run 3 (sh := []) tyOk (by simp [go_sem, hce, hnz, hS] <;> rfl) ?_
          refine al_splitT 61 (by first | rfl | (simp [go_sem, hce, hnz, hS] <;> rfl)) (fun h10 => ?_) (fun h10 => ?_)
          · first | (cases h10; done) | (simp at h10; done)
          · refine al_skip 7 61 true (by simp [go_sem]) (by simp [go_sem]) rfl rfl ?_
            refine al_run 2 (sh := []) tyOk (by simp [go_sem, hce, hnz, hS] <;> rfl) ?_
            refine al_nil ?_
            refine awp_seq ?_
            refine awp_reg ?_
            refine al_run 4 (sh := []) tyOk (by simp [go_sem, hce, hnz, hS] <;> rfl) ?_
            refine al_splitT 73 (by first | rfl | (simp [go_sem, hce, hnz, hS] <;> rfl)) (fun h11 => ?_) (fun h11 => ?_)
            · refine al_runG (sh := []) 3 73 true true tyOk (by simp [go_sem]) rfl (by simp [go_sem]) rfl rfl (by simp [go_sem, hce, hnz, hS] <;> rfl) ?_
              refine al_run 2 (sh := []) tyOk (by simp [go_sem, hce, hnz, hS] <;> rfl) ?_
              refine al_splitT 78 (by first | rfl | (simp [go_sem, hce, hnz, hS] <;> rfl)) (fun h12 => ?_) (fun h12 => ?_)
              · refine al_fnG 78 true true (by simp [go_sem]) rfl (by simp [go_sem]) rfl rfl (by simp [go_sem, hce, hnz, hS] <;> rfl) call16 (c_alive σ hσ) (by simp [go_sem, hce, hnz, hS] <;> rfl) (by simp [go_sem, hce, hnz, hS]) rfl rfl ?_
                refine al_run 2 (sh := []) tyOk (by simp [go_sem, hce, hnz, hS] <;> rfl) ?_
                refine al_nil ?_
                refine awp_ret ?_
                refine ends_ret (by simp [go_sem, hce, hnz, hS] <;> rfl) (by simp [go_sem]) ?_
                exact ⟨by simp [go_sem], by simp [go_sem]⟩
              · first | (cases h12; done) | (simp at h12; done)
            · first | (cases h11; done) | (simp at h11; done)
  · refine ul_run 2 (by simp [go_sem, hce] <;> rfl) ?_
    refine ul_nil ?_
    refine al_run 2 (sh := []) tyOk (by simp [go_sem, hce] <;> rfl) ?_
    refine al_nil ?_
    refine awp_seq ?_
    refine awp_reg ?_
    refine al_run 1 (sh := []) tyOk (by simp [go_sem, hce] <;> rfl) ?_
    refine al_fn rfl rfl rfl (by simp [go_sem, hce] <;> rfl) call10 ((c_refCheck x (by omega)) _ (by exact hgl)) (by simp [go_sem, hce] <;> rfl) (by simp [go_sem, hce]) rfl rfl ?_
    refine al_run 5 (sh := []) tyOk (by simp [go_sem, hce] <;> rfl) ?_
    refine al_nil ?_
    refine awp_seq ?_
    refine awp_reg ?_
    refine al_run 1 (sh := []) tyOk (by simp [go_sem, hce] <;> rfl) ?_
    refine al_fn rfl rfl rfl (by simp [go_sem, hce] <;> rfl) call10 ((c_refCheck y (by omega)) _ (by exact hgl)) (by simp [go_sem, hce] <;> rfl) (by simp [go_sem, hce]) rfl rfl ?_
    refine al_run 5 (sh := []) tyOk (by simp [go_sem, hce] <;> rfl) ?_
    refine al_nil ?_
    refine awp_seq ?_
    refine awp_reg ?_
    refine al_run 1 (sh := []) tyOk (by simp [go_sem, hce] <;> rfl) ?_
    refine al_fn rfl rfl rfl (by simp [go_sem, hce] <;> rfl) call21 ((c_flat_Canon x (by omega)) _ (by exact hgl)) (by simp [go_sem, hce] <;> rfl) (by simp [go_sem, hce]) rfl rfl ?_
    refine al_run 6 (sh := []) tyOk (by simp [go_sem, hce] <;> rfl) ?_
    refine al_nil ?_
    refine awp_seq ?_
    refine awp_reg ?_
    refine al_run 2 (sh := []) tyOk (by simp [go_sem, hce] <;> rfl) ?_
    refine al_fn rfl rfl rfl (by simp [go_sem, hce] <;> rfl) call22 ((c_flat_Same x y (by omega) (by omega)) _ (by exact hgl)) (by simp [go_sem, hce] <;> rfl) (by simp [go_sem, hce]) rfl rfl ?_
    refine al_run 5 (sh := []) tyOk (by simp [go_sem, hce] <;> rfl) ?_
    refine al_nil ?_
    refine awp_seq ?_
    refine awp_seq ?_
    refine awp_regDC tyOk tySz 11 (by kernel_rfl) (by decide) ?_
    refine ul_run 4 (by simp [go_sem, hce] <;> rfl) ?_
    refine ul_splitT 44 (by first | rfl | (simp [go_sem, hce] <;> rfl)) (fun h13 => ?_) (fun h13 => ?_)
    · first | (cases h13; done) | (simp at h13; done)
    · refine ul_runG 3 44 false false (by simp [go_sem]) rfl (by simp [go_sem]) rfl rfl (by simp [go_sem, hce] <;> rfl) ?_
      refine ul_splitT 47 (by first | rfl | (simp [go_sem, hce] <;> rfl)) (fun h14 => ?_) (fun h14 => ?_)
      · have R : Right x := ⟨by simpa using h14, by omega⟩
        have hchk := R.chk
        have hfc := R.fcanon
        have hcx := R.canon
        have hdc := deq_refl (canonD x)
        have hsz := canon_size R
        refine ul_runG 2 47 true true (by simp [go_sem]) rfl (by simp [go_sem]) rfl rfl (by simp [go_sem, hce, hchk, hfc, hdc] <;> rfl) ?_
        refine ul_fnG 47 true true (by simp [go_sem]) rfl (by first | (intro _ _ hh; exact hh) | simp [go_sem]) (by simp [go_sem]) rfl rfl rfl (by simp [go_sem, hce, hchk, hfc, hdc] <;> rfl) call24 ((c_refCanon x R) _ (by exact hgl)) (by simp [go_sem, hce, hchk, hfc, hdc] <;> rfl) (by simp [go_sem, hce, hchk, hfc, hdc]) rfl rfl ?_
        refine ul_fnG 47 true true (by simp [go_sem]) rfl (by first | (intro _ _ hh; exact hh) | simp [go_sem]) (by simp [go_sem]) rfl rfl rfl (by simp [go_sem, hce, hchk, hfc, hdc] <;> rfl) call23 ((c_refDatum (refCanon x) R.refCanon_len (fun z hz => R.refCanon_ps z hz)) _ (by exact hgl)) (by simp [go_sem, hce, hchk, hfc, hdc] <;> rfl) (by simp [go_sem, hce, hchk, hfc, hdc]) rfl rfl ?_
        refine ul_nil ?_
        refine al_fnG 47 true true (by simp [go_sem]) rfl (by simp [go_sem]) rfl rfl (by simp [go_sem, hce, hchk, hfc, hdc, hcx] <;> rfl) call15 ((c_Same (canonD x) (by omega) (canonD x)) _ (by exact hgl)) (by simp [go_sem, hce, hchk, hfc, hdc, hcx] <;> rfl) (by simp [go_sem, hce, hchk, hfc, hdc, hcx]) rfl rfl ?_
        refine al_runG (sh := []) 1 47 true true tyOk (by simp [go_sem]) rfl (by simp [go_sem]) rfl rfl (by simp [go_sem, hce, hchk, hfc, hdc, hcx] <;> rfl) ?_
        refine al_runG (sh := []) 1 44 false false tyOk (by simp [go_sem]) rfl (by simp [go_sem]) rfl rfl (by simp [go_sem, hce, hchk, hfc, hdc, hcx] <;> rfl) ?_
        refine al_run 1 (sh := []) tyOk (by simp [go_sem, hce, hchk, hfc, hdc, hcx] <;> rfl) ?_
        refine al_nil ?_
        refine awp_cond (by first | rfl | (simp [go_sem, hce, hchk, hfc, hdc, hcx] <;> rfl)) (fun h15 => ?_) (fun h15 => ?_)
        · first | (cases h15; done) | (simp at h15; done)
        · refine awp_skip ?_
          refine awp_seq ?_
          refine awp_seq ?_
          refine awp_region_run (sh := []) tyOk (by simp [go_sem, hce, hchk, hfc, hdc, hcx] <;> rfl) ?_
          refine awp_cond (by first | rfl | (simp [go_sem, hce, hchk, hfc, hdc, hcx] <;> rfl)) (fun h16 => ?_) (fun h16 => ?_)
          · refine awp_region_run (sh := []) tyOk (by simp [go_sem, hce, hchk, hfc, hdc, hcx] <;> rfl) ?_
            refine awp_seq ?_
            refine awp_reg ?_
            refine al_run 3 (sh := []) tyOk (by simp [go_sem, hce, hchk, hfc, hdc, hcx] <;> rfl) ?_
            refine al_splitT 61 (by first | rfl | (simp [go_sem, hce, hchk, hfc, hdc, hcx] <;> rfl)) (fun h17 => ?_) (fun h17 => ?_)
            · have S : Right y := ⟨by simpa using h17, by omega⟩
              have hchy := S.chk
              have hcy := S.canon
              have hS := fSame_good R S
              refine al_runG (sh := []) 1 61 true true tyOk (by simp [go_sem]) rfl (by simp [go_sem]) rfl rfl (by simp [go_sem, hce, hchk, hfc, hdc, hcx, hchy, hS] <;> rfl) ?_
              refine al_fnG 61 true true (by simp [go_sem]) rfl (by simp [go_sem]) rfl rfl (by simp [go_sem, hce, hchk, hfc, hdc, hcx, hchy, hS] <;> rfl) call24 ((c_refCanon x R) _ (by exact hgl)) (by simp [go_sem, hce, hchk, hfc, hdc, hcx, hchy, hS] <;> rfl) (by simp [go_sem, hce, hchk, hfc, hdc, hcx, hchy, hS]) rfl rfl ?_
              refine al_fnG 61 true true (by simp [go_sem]) rfl (by simp [go_sem]) rfl rfl (by simp [go_sem, hce, hchk, hfc, hdc, hcx, hchy, hS] <;> rfl) call23 ((c_refDatum (refCanon x) R.refCanon_len (fun z hz => R.refCanon_ps z hz)) _ (by exact hgl)) (by simp [go_sem, hce, hchk, hfc, hdc, hcx, hchy, hS] <;> rfl) (by simp [go_sem, hce, hchk, hfc, hdc, hcx, hchy, hS]) rfl rfl ?_
              refine al_runG (sh := []) 1 61 true true tyOk (by simp [go_sem]) rfl (by simp [go_sem]) rfl rfl (by simp [go_sem, hce, hchk, hfc, hdc, hcx, hchy, hS, hcx] <;> rfl) ?_
              refine al_fnG 61 true true (by simp [go_sem]) rfl (by simp [go_sem]) rfl rfl (by simp [go_sem, hce, hchk, hfc, hdc, hcx, hchy, hS, hcx] <;> rfl) call24 ((c_refCanon y S) _ (by exact hgl)) (by simp [go_sem, hce, hchk, hfc, hdc, hcx, hchy, hS, hcx] <;> rfl) (by simp [go_sem, hce, hchk, hfc, hdc, hcx, hchy, hS, hcx]) rfl rfl ?_
              refine al_fnG 61 true true (by simp [go_sem]) rfl (by simp [go_sem]) rfl rfl (by simp [go_sem, hce, hchk, hfc, hdc, hcx, hchy, hS, hcx] <;> rfl) call23 ((c_refDatum (refCanon y) S.refCanon_len (fun z hz => S.refCanon_ps z hz)) _ (by exact hgl)) (by simp [go_sem, hce, hchk, hfc, hdc, hcx, hchy, hS, hcx] <;> rfl) (by simp [go_sem, hce, hchk, hfc, hdc, hcx, hchy, hS, hcx]) rfl rfl ?_
              refine al_fnG 61 true true (by simp [go_sem]) rfl (by simp [go_sem]) rfl rfl (by simp [go_sem, hce, hchk, hfc, hdc, hcx, hchy, hS, hcx, hcy] <;> rfl) call15 ((c_Same (canonD x) (by omega) (canonD y)) _ (by exact hgl)) (by simp [go_sem, hce, hchk, hfc, hdc, hcx, hchy, hS, hcx, hcy] <;> rfl) (by simp [go_sem, hce, hchk, hfc, hdc, hcx, hchy, hS, hcx, hcy]) rfl rfl ?_
              refine al_run 2 (sh := []) tyOk (by simp [go_sem, hce, hchk, hfc, hdc, hcx, hchy, hS, hcx, hcy] <;> rfl) ?_
              refine al_nil ?_
              refine awp_seq ?_
              refine awp_reg ?_
              refine al_run 4 (sh := []) tyOk (by simp [go_sem, hce, hchk, hfc, hdc, hcx, hchy, hS, hcx, hcy] <;> rfl) ?_
              refine al_splitT 73 (by first | rfl | (simp [go_sem, hce, hchk, hfc, hdc, hcx, hchy, hS, hcx, hcy] <;> rfl)) (fun h18 => ?_) (fun h18 => ?_)
              · refine al_runG (sh := []) 3 73 true true tyOk (by simp [go_sem]) rfl (by simp [go_sem]) rfl rfl (by simp [go_sem, hce, hchk, hfc, hdc, hcx, hchy, hS, hcx, hcy] <;> rfl) ?_
                refine al_run 2 (sh := []) tyOk (by simp [go_sem, hce, hchk, hfc, hdc, hcx, hchy, hS, hcx, hcy] <;> rfl) ?_
                refine al_splitT 78 (by first | rfl | (simp [go_sem, hce, hchk, hfc, hdc, hcx, hchy, hS, hcx, hcy] <;> rfl)) (fun h19 => ?_) (fun h19 => ?_)
                · refine al_fnG 78 true true (by simp [go_sem]) rfl (by simp [go_sem]) rfl rfl (by simp [go_sem, hce, hchk, hfc, hdc, hcx, hchy, hS, hcx, hcy] <;> rfl) call16 (c_alive σ hσ) (by simp [go_sem, hce, hchk, hfc, hdc, hcx, hchy, hS, hcx, hcy] <;> rfl) (by simp [go_sem, hce, hchk, hfc, hdc, hcx, hchy, hS, hcx, hcy]) rfl rfl ?_
                  refine al_run 2 (sh := []) tyOk (by simp [go_sem, hce, hchk, hfc, hdc, hcx, hchy, hS, hcx, hcy] <;> rfl) ?_
                  refine al_nil ?_
                  refine awp_ret ?_
                  refine ends_ret (by simp [go_sem, hce, hchk, hfc, hdc, hcx, hchy, hS, hcx, hcy] <;> rfl) (by simp [go_sem]) ?_
                  exact ⟨by simp [go_sem], by simp [go_sem]⟩
                · first | (cases h19; done) | (simp at h19; done)
              · first | (cases h18; done) | (simp at h18; done)
            · have hnzy : (fcheck y == 0) = false := h17
              have hS := fSame_bad2 R hnzy
              refine al_skip 7 61 true (by simp [go_sem]) (by simp [go_sem]) rfl rfl ?_
              refine al_run 2 (sh := []) tyOk (by simp [go_sem, hce, hchk, hfc, hdc, hcx, hnzy, hS] <;> rfl) ?_
              refine al_nil ?_
              refine awp_seq ?_
              refine awp_reg ?_
              refine al_run 4 (sh := []) tyOk (by simp [go_sem, hce, hchk, hfc, hdc, hcx, hnzy, hS] <;> rfl) ?_
              refine al_splitT 73 (by first | rfl | (simp [go_sem, hce, hchk, hfc, hdc, hcx, hnzy, hS] <;> rfl)) (fun h20 => ?_) (fun h20 => ?_)
              · refine al_runG (sh := []) 3 73 true true tyOk (by simp [go_sem]) rfl (by simp [go_sem]) rfl rfl (by simp [go_sem, hce, hchk, hfc, hdc, hcx, hnzy, hS] <;> rfl) ?_
                refine al_run 2 (sh := []) tyOk (by simp [go_sem, hce, hchk, hfc, hdc, hcx, hnzy, hS] <;> rfl) ?_
                refine al_splitT 78 (by first | rfl | (simp [go_sem, hce, hchk, hfc, hdc, hcx, hnzy, hS] <;> rfl)) (fun h21 => ?_) (fun h21 => ?_)
                · refine al_fnG 78 true true (by simp [go_sem]) rfl (by simp [go_sem]) rfl rfl (by simp [go_sem, hce, hchk, hfc, hdc, hcx, hnzy, hS] <;> rfl) call16 (c_alive σ hσ) (by simp [go_sem, hce, hchk, hfc, hdc, hcx, hnzy, hS] <;> rfl) (by simp [go_sem, hce, hchk, hfc, hdc, hcx, hnzy, hS]) rfl rfl ?_
                  refine al_run 2 (sh := []) tyOk (by simp [go_sem, hce, hchk, hfc, hdc, hcx, hnzy, hS] <;> rfl) ?_
                  refine al_nil ?_
                  refine awp_ret ?_
                  refine ends_ret (by simp [go_sem, hce, hchk, hfc, hdc, hcx, hnzy, hS] <;> rfl) (by simp [go_sem]) ?_
                  exact ⟨by simp [go_sem], by simp [go_sem]⟩
                · first | (cases h21; done) | (simp at h21; done)
              · first | (cases h20; done) | (simp at h20; done)
          · first | (cases h16; done) | (simp at h16; done)
      · have hnz : (fcheck x == 0) = false := h14
        have hS := fSame_bad y hnz
        refine ul_skip 4 47 true (by simp [go_sem]) (by simp [go_sem]) rfl rfl ?_
        refine ul_nil ?_
        refine al_skip 2 47 true (by simp [go_sem]) (by simp [go_sem]) rfl rfl ?_
        refine al_runG (sh := []) 1 44 false false tyOk (by simp [go_sem]) rfl (by simp [go_sem]) rfl rfl (by simp [go_sem, hce, hnz, hS] <;> rfl) ?_
        refine al_run 1 (sh := []) tyOk (by simp [go_sem, hce, hnz, hS] <;> rfl) ?_
        refine al_nil ?_
        refine awp_cond (b := false) (by simp [go_sem, hce, hnz, hS, h13, h14]) (fun h => ?_) (fun h => ?_)
        · cases h
        refine awp_skip ?_
        refine awp_seq ?_
        refine awp_seq ?_
        refine awp_region_run (sh := []) tyOk (by simp [go_sem, hce, hnz, hS] <;> rfl) ?_
        refine awp_cond (by first | rfl | (simp [go_sem, hce, hnz, hS] <;> rfl)) (fun h22 => ?_) (fun h22 => ?_)
        · first | (cases h22; done) | (simp at h22; done)
        · refine awp_skip ?_
          refine awp_seq ?_
          refine awp_reg ?_
          refine al_run 3 (sh := []) tyOk (by simp [go_sem, hce, hnz, hS] <;> rfl) ?_
          refine al_splitT 61 (by first | rfl | (simp [go_sem, hce, hnz, hS] <;> rfl)) (fun h23 => ?_) (fun h23 => ?_)
          · first | (cases h23; done) | (simp at h23; done)
          · refine al_skip 7 61 true (by simp [go_sem]) (by simp [go_sem]) rfl rfl ?_
            refine al_run 2 (sh := []) tyOk (by simp [go_sem, hce, hnz, hS] <;> rfl) ?_
            refine al_nil ?_
            refine awp_seq ?_
            refine awp_reg ?_
            refine al_run 4 (sh := []) tyOk (by simp [go_sem, hce, hnz, hS] <;> rfl) ?_
            refine al_splitT 73 (by first | rfl | (simp [go_sem, hce, hnz, hS] <;> rfl)) (fun h24 => ?_) (fun h24 => ?_)
            · refine al_runG (sh := []) 3 73 true true tyOk (by simp [go_sem]) rfl (by simp [go_sem]) rfl rfl (by simp [go_sem, hce, hnz, hS] <;> rfl) ?_
              refine al_run 2 (sh := []) tyOk (by simp [go_sem, hce, hnz, hS] <;> rfl) ?_
              refine al_splitT 78 (by first | rfl | (simp [go_sem, hce, hnz, hS] <;> rfl)) (fun h25 => ?_) (fun h25 => ?_)
              · refine al_fnG 78 true true (by simp [go_sem]) rfl (by simp [go_sem]) rfl rfl (by simp [go_sem, hce, hnz, hS] <;> rfl) call16 (c_alive σ hσ) (by simp [go_sem, hce, hnz, hS] <;> rfl) (by simp [go_sem, hce, hnz, hS]) rfl rfl ?_
                refine al_run 2 (sh := []) tyOk (by simp [go_sem, hce, hnz, hS] <;> rfl) ?_
                refine al_nil ?_
                refine awp_ret ?_
                refine ends_ret (by simp [go_sem, hce, hnz, hS] <;> rfl) (by simp [go_sem]) ?_
                exact ⟨by simp [go_sem], by simp [go_sem]⟩
              · first | (cases h25; done) | (simp at h25; done)
            · first | (cases h24; done) | (simp at h24; done)

end Go.Proofs.YtienmmfjjffjaaaGreatDoor

/- The laid tables and the data of this seat, as abstract values. -/
namespace Go.Proofs.YtienmmfjjffjaaaGreatDoor
open Go Go.Aw
variable {kr : ResO}
theorem dty : DatumTy Tryz.prog 24 22 3 2 9 :=
  { und := ⟨_, _, _, _, Tryz.underlying24, rfl, rfl, rfl, rfl, rfl, rfl, rfl, rfl⟩, i := Tryz.underlying3, n := Tryz.underlying2, s := Tryz.underlying9, k := Tryz.underlying22, cD := by kernel_rfl, ci := by kernel_rfl, cn := by kernel_rfl, cs := by kernel_rfl, ck := by kernel_rfl }
theorem gReserved : Tryz.prog.globalNamed "pagoda/node.reserved" = some 0 := by kernel_rfl
theorem gPrim : Tryz.prog.globalNamed "pagoda/prim.names" = some 1 := by kernel_rfl
theorem tReserved : (Tryz.prog.globals[0]?).map (·.type) = some 70 := by kernel_rfl
theorem tPrim : (Tryz.prog.globals[1]?).map (·.type) = some 126 := by kernel_rfl
theorem tPow : (Tryz.prog.globals[2]?).map (·.type) = some 154 := by kernel_rfl
theorem rows_pow : (Rows.laid_internal_strconv_uint64pow10 : DataW Unit) = Lib.tabData .u64 Lib.pow10Tab := by kernel_rfl
/-- What the row's listed variables are when the call begins. -/
theorem of_laid {W : World} (h : laidMetH Tryz.prog [("math/bits.deBruijn32tab", Rows.laid_math_bits_deBruijn32tab), ("math/bits.deBruijn64tab", Rows.laid_math_bits_deBruijn64tab), ("internal/strconv.uint64pow10", Rows.laid_internal_strconv_uint64pow10), ("pagoda/node.reserved", Rows.laid_pagoda_node_reserved), ("pagoda/prim.names", Rows.laid_pagoda_prim_names)] W) :
    ∃ kr : ResO, ∀ n p, (n, p) ∈ (GL kr) → RP W.heap.size (fun _ _ => False) W p (.pointer (some ⟨n, 0, none⟩)) := by
  rw [MakeChecks.laidMetH_plain _ _ _ (by kernel_rfl)] at h
  obtain ⟨ps, ⟨_, _, _, _, _, _, _, _, _, _, ⟨_, _, _, _, _, _, _, _, _, _, ⟨g2, t2, cs2, f2, p2, q2, hg2, ht2, hv2, hd2, ⟨g0, t0, cs0, f0, p0, q0, hg0, ht0, hv0, hd0, ⟨g1, t1, cs1, f1, p1, q1, hg1, ht1, hv1, hd1, _, _⟩, _⟩, _⟩, _⟩, _⟩, _, _⟩ := h
  obtain rfl := Option.some.inj (gReserved.symm.trans hg0)
  obtain rfl := Option.some.inj (gPrim.symm.trans hg1)
  obtain rfl := Option.some.inj (gPow.symm.trans hg2)
  obtain rfl := Option.some.inj (tReserved.symm.trans ht0)
  obtain rfl := Option.some.inj (tPrim.symm.trans ht1)
  obtain rfl := Option.some.inj (tPow.symm.trans ht2)
  obtain ⟨b, l, hc0, hl, hrp0⟩ := open_set (S := fun _ _ => False) (names := resNames) Tryz.underlying70 Tryz.underlying9 Tryz.underlying4 hd0
  obtain ⟨v, hc1, hone, hrp1⟩ := open_table (S := fun _ _ => False) (L := primNames) Tryz.underlying126 Tryz.underlying127 Tryz.underlying9 Tryz.underlying3 rfl rfl (by kernel_rfl) (by kernel_rfl) (by kernel_rfl) hd1
  rw [rows_pow] at hd2
  have hc2 := Lib.cells_of_tab Tryz.underlying154 Tryz.underlying140 (by kernel_rfl) (by kernel_rfl) hd2
  have hblk : ∃ e c, W.heap[(2 : Nat)]? = some (.cells (Lib.pow10Tab.map (Value.int .u64)).toArray e c) := by
    simp only [World.var?, gPow, Option.bind_some] at hv2
    split at hv2
    · rename_i cs e c hh
      cases hv2
      refine ⟨e, c, ?_⟩
      rw [hh, ← Array.toArray_toList (xs := cs2), hc2]
    · cases hv2
  obtain ⟨e2, c2, hblk⟩ := hblk
  have hcell0 : W.cell? ⟨0, 0, none⟩ = some (.map (some b)) := by
    have := World.var?_cell hg0 hv0 0
    rw [Array.eq_one_of_toList hc0] at this
    simpa using this
  have hcell1 : W.cell? ⟨1, 0, none⟩ = some v := by
    have := World.var?_cell hg1 hv1 0
    rw [Array.eq_one_of_toList hc1] at this
    simpa using this
  refine ⟨resO l hl, fun n p hm => ?_⟩
  simp only [GL, flatG, List.cons_append, List.nil_append, List.mem_cons, Prod.mk.injEq, List.not_mem_nil, or_false] at hm
  rcases hm with ⟨rfl, rfl⟩ | ⟨rfl, rfl⟩ | ⟨rfl, rfl⟩
  · rw [resV_of hl] at hrp0
    exact rp_var (cell_lt hcell0) hcell0 rfl hrp0
  · rw [primV_of] at hrp1
    exact rp_var (cell_lt hcell1) hcell1 hone hrp1
  · refine RP.tab ?_ hblk
    by_cases hlt : 2 < W.heap.size
    · exact hlt
    · rw [Array.getElem?_eq_none (by show W.heap.size ≤ _; omega)] at hblk; cases hblk

end Go.Proofs.YtienmmfjjffjaaaGreatDoor

/- FlatCanons: for every two data the law returns true, and they read as they did. -/
namespace Go.Proofs.YtienmmfjjffjaaaGreatDoor
open Go Go.Aw
variable {kr : ResO}
open Go.ChangeShapes Go.WideShapes Go.ChangeAt Go.WideMaps Go.WideElems Go.RowKit
theorem own : ownKnob Tryz.prog.godebug = none := by kernel_rfl
theorem laidOut : laidOutB Tryz.prog = true := by kernel_rfl
theorem door_met (os : Os) (args : Array Value) : laidMetH Tryz.prog Rows.flatCanonsRow.laid ((World.doorLaid Tryz.prog 90 os).forCall (fun _ _ => 0) ⟨#[], args, []⟩).memory :=
  laidMetH_of_parts3 (fuel := 8) (laidMet_of_run' 8 (by kernel_rfl) (by kernel_rfl)) (by kernel_rfl) (by kernel_rfl)
/-- The call, as the machine makes it. -/
theorem flatCanons_calls {W : World} (hL : laidMetH Tryz.prog Rows.flatCanonsRow.laid W) {v0 v1 : Value} {d0 d1 : D} (h0 : RP W.heap.size (fun _ _ => False) W (enc d0) v0) (h1 : RP W.heap.size (fun _ _ => False) W (enc d1) v1) :
    Calls Tryz.prog 4 #[v0, v1] W fun r W' => r = .returned (.bool true) ∧ Below W.heap.size W W' := by
  obtain ⟨kr, hg⟩ := of_laid hL
  refine (c_FlatCanons (kr := kr) d0 d1 ⟨(GL kr), [], []⟩ rfl (g0 W) W [v0, v1] (inv0 hg) rfl (fun i x v hx hv => ?_)).mono ?_
  · match i with
    | 0 => simp at hx hv; subst hx hv; exact .pv h0
    | 1 => simp at hx hv; subst hx hv; exact .pv h1
    | i + 2 => simp at hx
  · rintro r W' ⟨v, x, σ', g', rfl, ⟨rfl, rfl⟩, _, hext, hra⟩
    rw [hra.pv_inv.bool_inv]
    exact ⟨rfl, below_of hext⟩
abbrev zeroDatum : Value := .agg #[.int .i64 0, .int .i64 0, .string ⟨#[]⟩, .slice none 0 0]
set_option maxRecDepth 100000 in
theorem flatCanons_lifted (os : Os) (started : os.Started) (H : Type) (enc' : TypeId × Value → H) :
    ReturnsInHanded {} Tryz.checked os 4 .any (fun w args => (Rows.flatCanonsSpec.pre enc' Tryz.prog Tryz.f4 [] false w args ∧ laidMetH Tryz.prog Rows.flatCanonsRow.laid w) ∧ sizedMet enc' Tryz.prog Tryz.f4 (OpenSpec.ofChange Rows.flatCanonsSpec) false w args)
      (Rows.flatCanonsSpec.post enc' Tryz.prog Tryz.f4 false true false false) := by
  refine returnsInHanded_of_change_and (C := Tryz.checked) (X := fun w _ => laidMetH Tryz.prog Rows.flatCanonsRow.laid w) (fun _ _ _ hh h => h.of_heap hh) own started (by kernel_rfl) Tryz.func4
    (ChangeSpec.witness_shaped (enc := enc') (C := Tryz.checked) (os := os) (X := fun w _ => laidMetH Tryz.prog Rows.flatCanonsRow.laid w) false (World.doorLaid Tryz.prog 90 os) #[zeroDatum, zeroDatum] 8 rfl (World.shaped_of_RefB (by kernel_rfl) (by kernel_rfl)) (by kernel_rfl) (by kernel_rfl) (by kernel_rfl) (door_met os _)) ?_
  intro W base args ds gs before hval0 hW _ _ hL _
  have hW' := hW
  obtain ⟨p, q, hA0, hV, rfl, hfz, hnd⟩ := hW
  have hA : DataW.TrodAll enc' Tryz.prog W 0 (fun _ => true) true Tryz.f4.params.toList args.toList ds p := hA0
  rw [Tryz.params4] at hA
  obtain ⟨v0, v1, x0, x1, p0, p1, rfl, rfl, rfl, h0, h1⟩ := trodAll_two hA
  obtain ⟨rfl, rfl⟩ := trodVars_none hV
  clear hA0 hval0
  simp only [List.append_nil] at hW'
  obtain ⟨n0, t0⟩ := id h0
  obtain ⟨n1, t1⟩ := id h1
  obtain ⟨e0, u0, hc0, ho0, hr0⟩ := open_datum (S := fun _ _ => False) dty n0 _ _ t0
  have hv0 := open_agg hc0
  obtain ⟨e1, u1, hc1, ho1, hr1⟩ := open_datum (S := fun _ _ => False) dty n1 _ _ t1
  have hv1 := open_agg hc1
  have hlt := hW'.lt
  refine (flatCanons_calls hL (hv0 ▸ rp_datum ho0 hr0) (hv1 ▸ rp_datum ho1 hr1)).mono fun r W' ⟨hr, hb⟩ => ?_
  subst hr
  exact ⟨_, rfl, post_of_below (pa := p0 ++ p1) (pv := []) hW' (fun _ _ _ => trodAll_mk1 (shut_bool Tryz.underlying4 true))
    (fun sp hs => trodAll_mk2 (Trod_stays laidOut (by kernel_rfl) (of_decide_eq_true (by kernel_rfl)) h0 (fun x hx => hb.same (hlt x (by simp [hx]))) (fun x hx => hs x (by simp [hx]))) (Trod_stays laidOut (by kernel_rfl) (of_decide_eq_true (by kernel_rfl)) h1 (fun x hx => hb.same (hlt x (by simp [hx]))) (fun x hx => hs x (by simp [hx]))))
    (fun _ _ => rfl) (by simp) hb (ok_one (by kernel_rfl) rfl (okWide_bool_mk Tryz.underlying4 _))⟩
theorem flatCanons_holds : Rows.FlatCanonsSaid :=
  OpenClaim.holds_of_wide 4 Tryz.f4 rfl rfl rfl rfl rfl rfl rfl ⟨rfl, rfl, rfl, rfl, rfl⟩ rfl rfl rfl rfl rfl (by kernel_rfl) Tryz.func4 (by kernel_rfl)
    (of_decide_eq_true (by kernel_rfl)) (by unfold Func.isWrapper; rw [if_neg (by decide +kernel)]; exact ⟨rfl, rfl⟩)
    (fun os started H enc _ => flatCanons_lifted os started H enc)
/-- The tied card. -/
theorem flatCanonsCard_holds : Rows.FlatCanonsCardSaid :=
  Claim7.holds_tied_plain_at .later [] [.data, .data, .data, .mapped, .data] true (true, "90130382fac7d9d0ed5a2357e0a309ea32f779a7967c3879cd180699234b33dc") false
    flatCanons_holds (fun _ h => by cases h) (by kernel_rfl) (fun _ h => by cases h) flatCanons_row_tie rfl ⟨rfl, rfl⟩ (by kernel_rfl) rfl
    (fun f fn hf hfn => by
      obtain rfl : f = 4 := Option.some.inj ((show Tryz.prog.funcNamed "pagoda/pagodalaw17.FlatCanons" = some 4 by kernel_rfl).symm.trans hf) |>.symm
      obtain rfl : fn = Tryz.f4 := (Option.some.inj (Tryz.func4.symm.trans hfn)).symm
      exact ⟨by kernel_rfl, fun j t ht => by
        rw [Tryz.params4] at ht
        have h3 : t = 24 := by
          rcases j with _ | _ | j
          · simpa using ht.symm
          · simpa using ht.symm
          · simp at ht
        subst h3
        exact (show Tryz.prog.wantsStandIn 24 = false by kernel_rfl)⟩)
    (by kernel_rfl)
end Go.Proofs.YtienmmfjjffjaaaGreatDoor
