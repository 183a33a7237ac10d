/- Part of the proof that the statement holds for every input that its row lets in: the contracts of the program's functions, printed by a program out of annotations; the statement itself stands at the end of the last part. -/
import Derived.Test.YtienmmfjjffjaaaGreatDoorZS4
import Derived.Test.YtienmmfjjffjaaaGreatDoorZA3
import Derived.Test.YtienmmfjjffjaaaGreatDoorZS3
import Derived.Test.YtienmmfjjffjaaaGreatDoorRows
import Derived.Test.YtienmmfjjffjaaaGreatDoorCards
import Derived.Test.YtienmmfjjffjaaaGreatDoorTie
set_option linter.unusedSimpArgs false
set_option linter.unusedVariables false
/- FlatDefs. -/
namespace Go.Proofs.YtienmmfjjffjaaaGreatDoor
open Go Go.Aw
variable {kr : ResO}
set_option maxHeartbeats 1000000 in
theorem c_CutN (d : D) (lf : Nat) (dp : Int) (h1 : 0 < lf) (h2 : lf ≤ 3000) (h3 : 1 ≤ dp) (h4 : dp ≤ 2000) (σ : Store) (hgl : σ.gl = (GL kr)) : ACalls Tryz.prog 35 [.pv (enc d), .pv (.int .i64 lf), .pv (.int .i64 dp)] σ (fun r σ' => ∃ d' : D, r = .pv (enc d') ∧ σ' = σ ∧ d'.size ≤ lf) := by
  refine ACalls.less (R := fun r σ' => ∃ d' : D, WVt σ.objs.length σ.toks.length 0 r (.pv (enc d')) ∧ σ'.cut σ.objs.length σ.toks.length = σ ∧ d'.size ≤ lf) ?_ (fun r σ' ⟨d', h1, h2, h3⟩ => ⟨_, _, _, h1, Nat.le_refl _, Nat.le_refl _, fun ob hob => .inl (by rw [← h2]; exact hob), ⟨d', rfl, h2, h3⟩⟩)
  refine acalls_of tyOk Tryz.func35 rfl (by simp [Tryz.f35]) ?_
  refine awp_seq ?_
  refine awp_region_run (sh := []) tyOk (by simp [go_sem] <;> rfl) ?_
  refine awp_seq ?_
  refine awp_region_run (sh := [10]) tyOk (by simp [go_sem] <;> rfl) ?_
  refine awp_seq ?_
  refine awp_reg ?_
  refine al_run 3 (sh := []) tyOk (by simp [go_sem] <;> rfl) ?_
  refine al_callW rfl rfl rfl (by simp [go_sem] <;> rfl) call79 (c_cut d σ.objs.length lf dp _ (by exact hgl) (by simp [go_sem]) h1 h2 h3 h4) (by simp [go_sem] <;> rfl) (by simp [go_sem]) rfl rfl ?_
  rintro r σ' ⟨d', lv', rfl, rfl, hsz'⟩
  refine al_run 1 (sh := []) tyOk (by simp [go_sem] <;> rfl) ?_
  refine al_nil ?_
  refine awp_ret ?_
  -- leaf 0
  refine ends_ret (by simp [go_sem] <;> rfl) (by simp [go_sem]) ?_
  exact ⟨d', by simp [go_sem], by simp [setC, go_sem], by omega⟩

set_option maxHeartbeats 1000000 in
theorem c_FlatDefs (p f : D) (σ : Store) (hσ : σ = ⟨(GL kr), [], []⟩) : PurAt Tryz.prog σ 8 [.pv (enc p), .pv (enc f)] (.pv (.bool true)) := by
  have hgl : σ.gl = (GL kr) := by rw [hσ]
  have hdn := deq_refl dnone
  refine purAt_of ?_
  refine acalls_of tyOk Tryz.func8 rfl (by simp [Tryz.f8]) ?_
  refine awp_seq ?_
  refine awp_region_run (sh := []) tyOk (by simp [go_sem, hdn, enc_none] <;> rfl) ?_
  refine awp_seq ?_
  refine awp_regDA (os := []) tyOk tySz 4 (by kernel_rfl) (by decide) rfl rfl ?_
  refine ul_run 1 (by simp [go_sem, hdn, enc_none] <;> rfl) ?_
  refine ul_callW (by simp [go_sem]) rfl rfl rfl rfl (by simp [go_sem, hdn, enc_none] <;> rfl) call9 (c_Cut17 p σ hgl) (by simp [go_sem, hdn, enc_none] <;> rfl) (by simp [go_sem, hdn, enc_none]) rfl rfl ⟨_, _, dnone, rfl, rfl, by simp [dnone, D.size, D.sizes]⟩ ?_
  rintro r σ1 ⟨x, rfl, hs1, hx⟩
  rw [hs1]
  clear hs1 σ1
  have hre := fReach_err x
  refine ul_run 1 (by simp [go_sem, hdn, enc_none, hre] <;> rfl) ?_
  refine ul_callW (by simp [go_sem]) rfl rfl rfl rfl (by simp [go_sem, hdn, enc_none, hre] <;> rfl) call35 (c_CutN f 100 20 (by decide) (by decide) (by decide) (by decide) σ hgl) (by simp [go_sem, hdn, enc_none, hre] <;> rfl) (by simp [go_sem, hdn, enc_none, hre]) rfl rfl ⟨_, _, dnone, rfl, rfl, by simp [dnone, D.size, D.sizes]⟩ ?_
  rintro r σ1 ⟨y, rfl, hs1, hy⟩
  rw [hs1]
  clear hs1 σ1
  refine ul_nil ?_
  refine ⟨?_, ?_⟩
  · refine ul_run 2 (by simp [go_sem, hdn, enc_none, hre] <;> rfl) ?_
    refine ul_nil ?_
    refine al_run 2 (sh := []) tyOk (by simp [go_sem, hdn, enc_none, hre] <;> rfl) ?_
    refine al_nil ?_
    refine awp_seq ?_
    refine awp_reg ?_
    refine al_run 1 (sh := []) tyOk (by simp [go_sem, hdn, enc_none, hre] <;> rfl) ?_
    refine al_fn rfl rfl rfl (by simp [go_sem, hdn, enc_none, hre] <;> rfl) call10 ((c_refCheck x (by omega)) _ (by exact hgl)) (by simp [go_sem, hdn, enc_none, hre] <;> rfl) (by simp [go_sem, hdn, enc_none, hre]) rfl rfl ?_
    refine al_run 5 (sh := []) tyOk (by simp [go_sem, hdn, enc_none, hre] <;> rfl) ?_
    refine al_nil ?_
    refine awp_seq ?_
    refine awp_reg ?_
    refine al_run 2 (sh := []) tyOk (by simp [go_sem, hdn, enc_none, hre] <;> rfl) ?_
    refine al_fn rfl rfl rfl (by simp [go_sem, hdn, enc_none, hre] <;> rfl) call36 ((c_flat_Def x y (by omega)) _ (by exact hgl)) (by simp [go_sem, hdn, enc_none, hre] <;> rfl) (by simp [go_sem, hdn, enc_none, hre]) rfl rfl ?_
    refine al_run 8 (sh := []) tyOk (by simp [go_sem, hdn, enc_none, hre] <;> rfl) ?_
    refine al_nil ?_
    refine awp_seq ?_
    refine awp_reg ?_
    refine al_run 2 (sh := []) tyOk (by simp [go_sem, hdn, enc_none, hre] <;> rfl) ?_
    refine al_fn rfl rfl rfl (by simp [go_sem, hdn, enc_none, hre] <;> rfl) call37 ((c_flat_Calls x y (by omega)) _ (by exact hgl)) (by simp [go_sem, hdn, enc_none, hre] <;> rfl) (by simp [go_sem, hdn, enc_none, hre]) rfl rfl ?_
    refine al_run 5 (sh := []) tyOk (by simp [go_sem, hdn, enc_none, hre] <;> rfl) ?_
    refine al_nil ?_
    refine awp_seq ?_
    refine awp_reg ?_
    refine al_run 1 (sh := []) tyOk (by simp [go_sem, hdn, enc_none, hre] <;> rfl) ?_
    refine al_fn rfl rfl rfl (by simp [go_sem, hdn, enc_none, hre] <;> rfl) call25 ((c_flat_Reach x (by omega)) _ (by exact hgl)) (by simp [go_sem, hdn, enc_none, hre] <;> rfl) (by simp [go_sem, hdn, enc_none, hre]) rfl rfl ?_
    refine al_run 5 (sh := []) tyOk (by simp [go_sem, hdn, enc_none, hre] <;> rfl) ?_
    refine al_nil ?_
    refine awp_seq ?_
    refine awp_seq ?_
    refine awp_reg ?_
    refine al_run 4 (sh := []) tyOk (by simp [go_sem, hdn, enc_none, hre] <;> rfl) ?_
    refine al_splitT 47 (by first | rfl | (simp [go_sem, hdn, enc_none, hre] <;> rfl)) (fun h0 => ?_) (fun h0 => ?_)
    · first | (cases h0; done) | (simp at h0; done)
    · refine al_runG (sh := []) 3 47 false false tyOk (by simp [go_sem]) rfl (by simp [go_sem]) rfl rfl (by simp [go_sem, hdn, enc_none, hre] <;> rfl) ?_
      refine al_splitT 50 (by first | rfl | (simp [go_sem, hdn, enc_none, hre] <;> rfl)) (fun h1 => ?_) (fun h1 => ?_)
      · have R : Right x := ⟨by simpa using h1, by omega⟩
        have hchk := R.chk
        have hRL := R.reachL
        have hLL := deqs_refl ((reach x).map D.head)
        refine al_runG (sh := []) 2 50 true true tyOk (by simp [go_sem]) rfl (by simp [go_sem]) rfl rfl (by simp [go_sem, hdn, enc_none, hre, hchk, hRL, hLL] <;> rfl) ?_
        refine al_fnG 50 true true (by simp [go_sem]) rfl (by simp [go_sem]) rfl rfl (by simp [go_sem, hdn, enc_none, hre, hchk, hRL, hLL] <;> rfl) call38 ((c_refReach x R) _ (by exact hgl)) (by simp [go_sem, hdn, enc_none, hre, hchk, hRL, hLL] <;> rfl) (by simp [go_sem, hdn, enc_none, hre, hchk, hRL, hLL]) rfl rfl ?_
        refine al_fnG 50 true true (by simp [go_sem]) rfl (by simp [go_sem]) rfl rfl (by simp [go_sem, hdn, enc_none, hre, hchk, hRL, hLL] <;> rfl) call18 ((c_Lists ((reach x).map D.head) ((reach x).map D.head) R.reach_len R.reach_len (fun z hz => R.reach_size z hz)) _ (by exact hgl)) (by simp [go_sem, hdn, enc_none, hre, hchk, hRL, hLL] <;> rfl) (by simp [go_sem, hdn, enc_none, hre, hchk, hRL, hLL]) rfl rfl ?_
        refine al_runG (sh := []) 1 50 true true tyOk (by simp [go_sem]) rfl (by simp [go_sem]) rfl rfl (by simp [go_sem, hdn, enc_none, hre, hchk, hRL, hLL] <;> rfl) ?_
        refine al_runG (sh := []) 1 47 false false tyOk (by simp [go_sem]) rfl (by simp [go_sem]) rfl rfl (by simp [go_sem, hdn, enc_none, hre, hchk, hRL, hLL] <;> rfl) ?_
        refine al_run 1 (sh := []) tyOk (by simp [go_sem, hdn, enc_none, hre, hchk, hRL, hLL] <;> rfl) ?_
        refine al_nil ?_
        refine awp_cond (by first | rfl | (simp [go_sem, hdn, enc_none, hre, hchk, hRL, hLL] <;> rfl)) (fun h2 => ?_) (fun h2 => ?_)
        · first | (cases h2; done) | (simp at h2; done)
        · refine awp_skip ?_
          refine awp_seq ?_
          refine awp_region_run (sh := []) tyOk (by simp [go_sem, hdn, enc_none, hre, hchk, hRL, hLL] <;> rfl) ?_
          refine awp_seq ?_
          refine awp_seq ?_
          refine awp_region_run (sh := []) tyOk (by simp [go_sem, hdn, enc_none, hre, hchk, hRL, hLL] <;> rfl) ?_
          refine awp_cond (by first | rfl | (simp [go_sem, hdn, enc_none, hre, hchk, hRL, hLL] <;> rfl)) (fun h3 => ?_) (fun h3 => ?_)
          · refine awp_seq ?_
            refine awp_reg ?_
            refine al_run 2 (sh := []) tyOk (by simp [go_sem, hdn, enc_none, hre, hchk, hRL, hLL] <;> rfl) ?_
            refine al_fn rfl rfl rfl (by simp [go_sem, hdn, enc_none, hre, hchk, hRL, hLL] <;> rfl) call39 ((c_Find (rdefs x) (by have := R.len; omega) y (fun z hz => by have := (R.small z hz).1; omega)) _ (by exact hgl)) (by simp [go_sem, hdn, enc_none, hre, hchk, hRL, hLL] <;> rfl) (by simp [go_sem, hdn, enc_none, hre, hchk, hRL, hLL]) rfl rfl ?_
            refine al_run 1 (sh := []) tyOk (by simp [go_sem, hdn, enc_none, hre, hchk, hRL, hLL] <;> rfl) ?_
            refine al_nil ?_
            refine awp_seq ?_
            refine awp_region_run (sh := []) tyOk (by simp [go_sem, hdn, enc_none, hre, hchk, hRL, hLL] <;> rfl) ?_
            refine awp_cond (by first | rfl | (simp [go_sem, hdn, enc_none, hre, hchk, hRL, hLL] <;> rfl)) (fun h4 => ?_) (fun h4 => ?_)
            · obtain ⟨hD, hC⟩ := R.def_none (f := y) (by simpa using h4)
              refine awp_region_run (sh := []) tyOk (by simp [go_sem, hdn, enc_none, hre, hchk, hRL, hLL, hD, hC] <;> rfl) ?_
              refine awp_seq ?_
              refine awp_seq ?_
              refine awp_reg ?_
              refine al_run 4 (sh := []) tyOk (by simp [go_sem, hdn, enc_none, hre, hchk, hRL, hLL, hD, hC] <;> rfl) ?_
              refine al_splitT 68 (by first | rfl | (simp [go_sem, hdn, enc_none, hre, hchk, hRL, hLL, hD, hC] <;> rfl)) (fun h5 => ?_) (fun h5 => ?_)
              · first | (cases h5; done) | (simp at h5; done)
              · refine al_runG (sh := []) 3 68 false false tyOk (by simp [go_sem]) rfl (by simp [go_sem]) rfl rfl (by simp [go_sem, hdn, enc_none, hre, hchk, hRL, hLL, hD, hC] <;> rfl) ?_
                refine al_run 1 (sh := []) tyOk (by simp [go_sem, hdn, enc_none, hre, hchk, hRL, hLL, hD, hC] <;> rfl) ?_
                refine al_nil ?_
                refine awp_cond (by first | rfl | (simp [go_sem, hdn, enc_none, hre, hchk, hRL, hLL, hD, hC] <;> rfl)) (fun h6 => ?_) (fun h6 => ?_)
                · first | (cases h6; done) | (simp at h6; done)
                · refine awp_skip ?_
                  refine awp_seq ?_
                  refine awp_seq ?_
                  refine awp_region_run (sh := []) tyOk (by simp [go_sem, hdn, enc_none, hre, hchk, hRL, hLL, hD, hC] <;> rfl) ?_
                  refine awp_cond (by first | rfl | (simp [go_sem, hdn, enc_none, hre, hchk, hRL, hLL, hD, hC] <;> rfl)) (fun h7 => ?_) (fun h7 => ?_)
                  · refine awp_seq ?_
                    refine awp_reg ?_
                    refine al_run 4 (sh := []) tyOk (by simp [go_sem, hdn, enc_none, hre, hchk, hRL, hLL, hD, hC] <;> rfl) ?_
                    refine al_splitT 78 (by first | rfl | (simp [go_sem, hdn, enc_none, hre, hchk, hRL, hLL, hD, hC] <;> rfl)) (fun h8 => ?_) (fun h8 => ?_)
                    · refine al_runG (sh := []) 2 78 true true tyOk (by simp [go_sem]) rfl (by simp [go_sem]) rfl rfl (by simp [go_sem, hdn, enc_none, hre, hchk, hRL, hLL, hD, hC] <;> rfl) ?_
                      refine al_fnG 78 true true (by simp [go_sem]) rfl (by simp [go_sem]) rfl rfl (by simp [go_sem, hdn, enc_none, hre, hchk, hRL, hLL, hD, hC] <;> rfl) call15 ((c_Same dnone (Nat.le_of_ble_eq_true rfl) dnone) _ (by exact hgl)) (by simp [go_sem, hdn, enc_none, hre, hchk, hRL, hLL, hD, hC] <;> rfl) (by simp [go_sem, hdn, enc_none, hre, hchk, hRL, hLL, hD, hC]) rfl rfl ?_
                      refine al_run 2 (sh := []) tyOk (by simp [go_sem, hdn, enc_none, hre, hchk, hRL, hLL, hD, hC] <;> rfl) ?_
                      refine al_splitT 83 (by first | rfl | (simp [go_sem, hdn, enc_none, hre, hchk, hRL, hLL, hD, hC] <;> rfl)) (fun h9 => ?_) (fun h9 => ?_)
                      · refine al_runG (sh := []) 3 83 true true tyOk (by simp [go_sem]) rfl (by simp [go_sem]) rfl rfl (by simp [go_sem, hdn, enc_none, hre, hchk, hRL, hLL, hD, hC] <;> rfl) ?_
                        refine al_run 2 (sh := []) tyOk (by simp [go_sem, hdn, enc_none, hre, hchk, hRL, hLL, hD, hC] <;> rfl) ?_
                        refine al_splitT 88 (by first | rfl | (simp [go_sem, hdn, enc_none, hre, hchk, hRL, hLL, hD, hC] <;> rfl)) (fun h10 => ?_) (fun h10 => ?_)
                        · refine al_fnG 88 true true (by simp [go_sem]) rfl (by simp [go_sem]) rfl rfl (by simp [go_sem, hdn, enc_none, hre, hchk, hRL, hLL, hD, hC] <;> rfl) call16 (c_alive σ hσ) (by simp [go_sem, hdn, enc_none, hre, hchk, hRL, hLL, hD, hC] <;> rfl) (by simp [go_sem, hdn, enc_none, hre, hchk, hRL, hLL, hD, hC]) rfl rfl ?_
                          refine al_run 2 (sh := []) tyOk (by simp [go_sem, hdn, enc_none, hre, hchk, hRL, hLL, hD, hC] <;> rfl) ?_
                          refine al_nil ?_
                          refine awp_ret ?_
                          refine then_ret ?_
                          -- leaf 0
                          refine ends_ret (by simp [go_sem, hdn, enc_none, hre, hchk, hRL, hLL, hD, hC] <;> rfl) (by simp [go_sem]) ?_
                          exact ⟨by simp [go_sem], by simp [go_sem]⟩
                        · first | (cases h10; done) | (simp at h10; done)
                      · first | (cases h9; done) | (simp at h9; done)
                    · first | (cases h8; done) | (simp at h8; done)
                  · first | (cases h7; done) | (simp at h7; done)
            · obtain ⟨hi0, x0, ns, x2, hix, hD, hC, hg2, hs2, hn8⟩ := R.def_some (f := y) (by simpa using h4)
              have hd2 := deq_refl x2
              have hll := deqs_refl (callsOf x2)
              refine awp_skip ?_
              refine awp_seq ?_
              refine awp_seq ?_
              refine awp_reg ?_
              refine al_run 4 (sh := []) tyOk (by simp [go_sem, hdn, enc_none, hre, hchk, hRL, hLL, hi0, hix, hD, hC, hd2, hll] <;> rfl) ?_
              refine al_splitT 68 (by first | rfl | (simp [go_sem, hdn, enc_none, hre, hchk, hRL, hLL, hi0, hix, hD, hC, hd2, hll] <;> rfl)) (fun h11 => ?_) (fun h11 => ?_)
              · first | (cases h11; done) | (simp at h11; done)
              · refine al_runG (sh := []) 3 68 false false tyOk (by simp [go_sem]) rfl (by simp [go_sem]) rfl rfl (by simp [go_sem, hdn, enc_none, hre, hchk, hRL, hLL, hi0, hix, hD, hC, hd2, hll] <;> rfl) ?_
                refine al_run 1 (sh := []) tyOk (by simp [go_sem, hdn, enc_none, hre, hchk, hRL, hLL, hi0, hix, hD, hC, hd2, hll] <;> rfl) ?_
                refine al_nil ?_
                refine awp_cond (by first | rfl | (simp [go_sem, hdn, enc_none, hre, hchk, hRL, hLL, hi0, hix, hD, hC, hd2, hll] <;> rfl)) (fun h12 => ?_) (fun h12 => ?_)
                · first | (cases h12; done) | (simp at h12; done)
                · refine awp_skip ?_
                  refine awp_seq ?_
                  refine awp_seq ?_
                  refine awp_region_run (sh := []) tyOk (by simp [go_sem, hdn, enc_none, hre, hchk, hRL, hLL, hi0, hix, hD, hC, hd2, hll] <;> rfl) ?_
                  refine awp_cond (by first | rfl | (simp [go_sem, hdn, enc_none, hre, hchk, hRL, hLL, hi0, hix, hD, hC, hd2, hll] <;> rfl)) (fun h13 => ?_) (fun h13 => ?_)
                  · first | (cases h13; done) | (simp at h13; done)
                  · refine awp_skip ?_
                    refine awp_seq ?_
                    refine awp_regDC tyOk tySz 24 (drawOk_of (by kernel_rfl)) (by decide) ?_
                    refine ul_run 6 (by simp [go_sem, hdn, enc_none, hre, hchk, hRL, hLL, hi0, hix, hD, hC, hd2, hll] <;> rfl) ?_
                    refine ul_fn (by first | (intro _ _ hh; exact hh) | simp [go_sem]) rfl rfl rfl rfl (by simp [go_sem, hdn, enc_none, hre, hchk, hRL, hLL, hi0, hix, hD, hC, hd2, hll] <;> rfl) call17 ((c_texts ns ns (by omega) (by omega)) _ (by exact hgl)) (by simp [go_sem, hdn, enc_none, hre, hchk, hRL, hLL, hi0, hix, hD, hC, hd2, hll] <;> rfl) (by simp [go_sem, hdn, enc_none, hre, hchk, hRL, hLL, hi0, hix, hD, hC, hd2, hll]) rfl rfl ?_
                    refine ul_run 1 (by simp [go_sem, hdn, enc_none, hre, hchk, hRL, hLL, hi0, hix, hD, hC, hd2, hll] <;> rfl) ?_
                    refine ul_splitT 98 (by first | rfl | (simp [go_sem, hdn, enc_none, hre, hchk, hRL, hLL, hi0, hix, hD, hC, hd2, hll] <;> rfl)) (fun h14 => ?_) (fun h14 => ?_)
                    · refine ul_runG 6 98 true true (by simp [go_sem]) rfl (by simp [go_sem]) rfl rfl (by simp [go_sem, hdn, enc_none, hre, hchk, hRL, hLL, hi0, hix, hD, hC, hd2, hll] <;> rfl) ?_
                      refine ul_fnG 98 true true (by simp [go_sem]) rfl (by first | (intro _ _ hh; exact hh) | simp [go_sem]) (by simp [go_sem]) rfl rfl rfl (by simp [go_sem, hdn, enc_none, hre, hchk, hRL, hLL, hi0, hix, hD, hC, hd2, hll] <;> rfl) call15 ((c_Same x2 (by omega) x2) _ (by exact hgl)) (by simp [go_sem, hdn, enc_none, hre, hchk, hRL, hLL, hi0, hix, hD, hC, hd2, hll] <;> rfl) (by simp [go_sem, hdn, enc_none, hre, hchk, hRL, hLL, hi0, hix, hD, hC, hd2, hll]) rfl rfl ?_
                      refine ul_run 2 (by simp [go_sem, hdn, enc_none, hre, hchk, hRL, hLL, hi0, hix, hD, hC, hd2, hll] <;> rfl) ?_
                      refine ul_splitT 107 (by first | rfl | (simp [go_sem, hdn, enc_none, hre, hchk, hRL, hLL, hi0, hix, hD, hC, hd2, hll] <;> rfl)) (fun h15 => ?_) (fun h15 => ?_)
                      · refine ul_runG 6 107 true true (by simp [go_sem]) rfl (by simp [go_sem]) rfl rfl (by simp [go_sem, hdn, enc_none, hre, hchk, hRL, hLL, hi0, hix, hD, hC, hd2, hll] <;> rfl) ?_
                        refine ul_fnG 107 true true (by simp [go_sem]) rfl (by first | (intro _ _ hh; exact hh) | simp [go_sem]) (by simp [go_sem]) rfl rfl rfl (by simp [go_sem, hdn, enc_none, hre, hchk, hRL, hLL, hi0, hix, hD, hC, hd2, hll] <;> rfl) call40 ((c_refCalls x2 hg2 (by omega)) _ (by exact hgl)) (by simp [go_sem, hdn, enc_none, hre, hchk, hRL, hLL, hi0, hix, hD, hC, hd2, hll] <;> rfl) (by simp [go_sem, hdn, enc_none, hre, hchk, hRL, hLL, hi0, hix, hD, hC, hd2, hll]) rfl rfl ?_
                        refine ul_nil ?_
                        refine al_fnG 107 true true (by simp [go_sem]) rfl (by simp [go_sem]) rfl rfl (by simp [go_sem, hdn, enc_none, hre, hchk, hRL, hLL, hi0, hix, hD, hC, hd2, hll] <;> rfl) call18 ((c_Lists (callsOf x2) (callsOf x2) (by have := callsOf_len hg2; omega) (by have := callsOf_len hg2; omega) (fun z hz => by have := callsOf_size hg2 z hz; omega)) _ (by exact hgl)) (by simp [go_sem, hdn, enc_none, hre, hchk, hRL, hLL, hi0, hix, hD, hC, hd2, hll] <;> rfl) (by simp [go_sem, hdn, enc_none, hre, hchk, hRL, hLL, hi0, hix, hD, hC, hd2, hll]) rfl rfl ?_
                        refine al_run 2 (sh := []) tyOk (by simp [go_sem, hdn, enc_none, hre, hchk, hRL, hLL, hi0, hix, hD, hC, hd2, hll] <;> rfl) ?_
                        refine al_splitT 117 (by first | rfl | (simp [go_sem, hdn, enc_none, hre, hchk, hRL, hLL, hi0, hix, hD, hC, hd2, hll] <;> rfl)) (fun h16 => ?_) (fun h16 => ?_)
                        · refine al_fnG 117 true true (by simp [go_sem]) rfl (by simp [go_sem]) rfl rfl (by simp [go_sem, hdn, enc_none, hre, hchk, hRL, hLL, hi0, hix, hD, hC, hd2, hll] <;> rfl) call16 (c_alive σ hσ) (by simp [go_sem, hdn, enc_none, hre, hchk, hRL, hLL, hi0, hix, hD, hC, hd2, hll] <;> rfl) (by simp [go_sem, hdn, enc_none, hre, hchk, hRL, hLL, hi0, hix, hD, hC, hd2, hll]) rfl rfl ?_
                          refine al_run 2 (sh := []) tyOk (by simp [go_sem, hdn, enc_none, hre, hchk, hRL, hLL, hi0, hix, hD, hC, hd2, hll] <;> rfl) ?_
                          refine al_nil ?_
                          refine awp_ret ?_
                          -- leaf 1
                          refine ends_ret (by simp [go_sem, hdn, enc_none, hre, hchk, hRL, hLL, hi0, hix, hD, hC, hd2, hll] <;> rfl) (by simp [go_sem]) ?_
                          exact ⟨by simp [go_sem], by simp [go_sem]⟩
                        · first | (cases h16; done) | (simp at h16; done)
                      · first | (cases h15; done) | (simp at h15; done)
                    · first | (cases h14; done) | (simp at h14; done)
          · first | (cases h3; done) | (simp at h3; done)
      · have hnz : (fcheck x == 0) = false := h1
        have hnz2 : (fcheck x != 0) = true := by rw [bne, hnz]; rfl
        have hD := fDef_bad (f := y) hnz
        have hC := fCalls_bad (f := y) hnz
        refine al_skip 5 50 true (by simp [go_sem]) (by simp [go_sem]) rfl rfl ?_
        refine al_runG (sh := []) 1 47 false false tyOk (by simp [go_sem]) rfl (by simp [go_sem]) rfl rfl (by simp [go_sem, hdn, enc_none, hre, hnz, hnz2, hD, hC] <;> rfl) ?_
        refine al_run 1 (sh := []) tyOk (by simp [go_sem, hdn, enc_none, hre, hnz, hnz2, hD, hC] <;> rfl) ?_
        refine al_nil ?_
        refine awp_cond (b := false) (by simp [go_sem, hdn, enc_none, hre, hnz, hnz2, hD, hC, h0, h1]) (fun h => ?_) (fun h => ?_)
        · cases h
        refine awp_skip ?_
        refine awp_seq ?_
        refine awp_region_run (sh := []) tyOk (by simp [go_sem, hdn, enc_none, hre, hnz, hnz2, hD, hC] <;> rfl) ?_
        refine awp_seq ?_
        refine awp_seq ?_
        refine awp_region_run (sh := []) tyOk (by simp [go_sem, hdn, enc_none, hre, hnz, hnz2, hD, hC] <;> rfl) ?_
        refine awp_cond (by first | rfl | (simp [go_sem, hdn, enc_none, hre, hnz, hnz2, hD, hC] <;> rfl)) (fun h17 => ?_) (fun h17 => ?_)
        · first | (cases h17; done) | (simp at h17; done)
        · refine awp_skip ?_
          refine awp_seq ?_
          refine awp_seq ?_
          refine awp_reg ?_
          refine al_run 4 (sh := []) tyOk (by simp [go_sem, hdn, enc_none, hre, hnz, hnz2, hD, hC] <;> rfl) ?_
          refine al_splitT 68 (by first | rfl | (simp [go_sem, hdn, enc_none, hre, hnz, hnz2, hD, hC] <;> rfl)) (fun h18 => ?_) (fun h18 => ?_)
          · first | (cases h18; done) | (simp at h18; done)
          · refine al_runG (sh := []) 3 68 false false tyOk (by simp [go_sem]) rfl (by simp [go_sem]) rfl rfl (by simp [go_sem, hdn, enc_none, hre, hnz, hnz2, hD, hC] <;> rfl) ?_
            refine al_run 1 (sh := []) tyOk (by simp [go_sem, hdn, enc_none, hre, hnz, hnz2, hD, hC] <;> rfl) ?_
            refine al_nil ?_
            refine awp_cond (by first | rfl | (simp [go_sem, hdn, enc_none, hre, hnz, hnz2, hD, hC] <;> rfl)) (fun h19 => ?_) (fun h19 => ?_)
            · first | (cases h19; done) | (simp at h19; done)
            · refine awp_skip ?_
              refine awp_seq ?_
              refine awp_seq ?_
              refine awp_region_run (sh := []) tyOk (by simp [go_sem, hdn, enc_none, hre, hnz, hnz2, hD, hC] <;> rfl) ?_
              refine awp_cond (by first | rfl | (simp [go_sem, hdn, enc_none, hre, hnz, hnz2, hD, hC] <;> rfl)) (fun h20 => ?_) (fun h20 => ?_)
              · refine awp_seq ?_
                refine awp_reg ?_
                refine al_run 4 (sh := []) tyOk (by simp [go_sem, hdn, enc_none, hre, hnz, hnz2, hD, hC] <;> rfl) ?_
                refine al_splitT 78 (by first | rfl | (simp [go_sem, hdn, enc_none, hre, hnz, hnz2, hD, hC] <;> rfl)) (fun h21 => ?_) (fun h21 => ?_)
                · refine al_runG (sh := []) 2 78 true true tyOk (by simp [go_sem]) rfl (by simp [go_sem]) rfl rfl (by simp [go_sem, hdn, enc_none, hre, hnz, hnz2, hD, hC] <;> rfl) ?_
                  refine al_fnG 78 true true (by simp [go_sem]) rfl (by simp [go_sem]) rfl rfl (by simp [go_sem, hdn, enc_none, hre, hnz, hnz2, hD, hC] <;> rfl) call15 ((c_Same dnone (Nat.le_of_ble_eq_true rfl) dnone) _ (by exact hgl)) (by simp [go_sem, hdn, enc_none, hre, hnz, hnz2, hD, hC] <;> rfl) (by simp [go_sem, hdn, enc_none, hre, hnz, hnz2, hD, hC]) rfl rfl ?_
                  refine al_run 2 (sh := []) tyOk (by simp [go_sem, hdn, enc_none, hre, hnz, hnz2, hD, hC] <;> rfl) ?_
                  refine al_splitT 83 (by first | rfl | (simp [go_sem, hdn, enc_none, hre, hnz, hnz2, hD, hC] <;> rfl)) (fun h22 => ?_) (fun h22 => ?_)
                  · refine al_runG (sh := []) 3 83 true true tyOk (by simp [go_sem]) rfl (by simp [go_sem]) rfl rfl (by simp [go_sem, hdn, enc_none, hre, hnz, hnz2, hD, hC] <;> rfl) ?_
                    refine al_run 2 (sh := []) tyOk (by simp [go_sem, hdn, enc_none, hre, hnz, hnz2, hD, hC] <;> rfl) ?_
                    refine al_splitT 88 (by first | rfl | (simp [go_sem, hdn, enc_none, hre, hnz, hnz2, hD, hC] <;> rfl)) (fun h23 => ?_) (fun h23 => ?_)
                    · refine al_fnG 88 true true (by simp [go_sem]) rfl (by simp [go_sem]) rfl rfl (by simp [go_sem, hdn, enc_none, hre, hnz, hnz2, hD, hC] <;> rfl) call16 (c_alive σ hσ) (by simp [go_sem, hdn, enc_none, hre, hnz, hnz2, hD, hC] <;> rfl) (by simp [go_sem, hdn, enc_none, hre, hnz, hnz2, hD, hC]) rfl rfl ?_
                      refine al_run 2 (sh := []) tyOk (by simp [go_sem, hdn, enc_none, hre, hnz, hnz2, hD, hC] <;> rfl) ?_
                      refine al_nil ?_
                      refine awp_ret ?_
                      refine then_ret ?_
                      -- leaf 2
                      refine ends_ret (by simp [go_sem, hdn, enc_none, hre, hnz, hnz2, hD, hC] <;> rfl) (by simp [go_sem]) ?_
                      exact ⟨by simp [go_sem], by simp [go_sem]⟩
                    · first | (cases h23; done) | (simp at h23; done)
                  · first | (cases h22; done) | (simp at h22; done)
                · first | (cases h21; done) | (simp at h21; done)
              · first | (cases h20; done) | (simp at h20; done)
  · refine ul_run 2 (by simp [go_sem, hdn, enc_none, hre] <;> rfl) ?_
    refine ul_nil ?_
    refine al_run 2 (sh := []) tyOk (by simp [go_sem, hdn, enc_none, hre] <;> rfl) ?_
    refine al_nil ?_
    refine awp_seq ?_
    refine awp_reg ?_
    refine al_run 1 (sh := []) tyOk (by simp [go_sem, hdn, enc_none, hre] <;> rfl) ?_
    refine al_fn rfl rfl rfl (by simp [go_sem, hdn, enc_none, hre] <;> rfl) call10 ((c_refCheck x (by omega)) _ (by exact hgl)) (by simp [go_sem, hdn, enc_none, hre] <;> rfl) (by simp [go_sem, hdn, enc_none, hre]) rfl rfl ?_
    refine al_run 5 (sh := []) tyOk (by simp [go_sem, hdn, enc_none, hre] <;> rfl) ?_
    refine al_nil ?_
    refine awp_seq ?_
    refine awp_reg ?_
    refine al_run 2 (sh := []) tyOk (by simp [go_sem, hdn, enc_none, hre] <;> rfl) ?_
    refine al_fn rfl rfl rfl (by simp [go_sem, hdn, enc_none, hre] <;> rfl) call36 ((c_flat_Def x y (by omega)) _ (by exact hgl)) (by simp [go_sem, hdn, enc_none, hre] <;> rfl) (by simp [go_sem, hdn, enc_none, hre]) rfl rfl ?_
    refine al_run 8 (sh := []) tyOk (by simp [go_sem, hdn, enc_none, hre] <;> rfl) ?_
    refine al_nil ?_
    refine awp_seq ?_
    refine awp_reg ?_
    refine al_run 2 (sh := []) tyOk (by simp [go_sem, hdn, enc_none, hre] <;> rfl) ?_
    refine al_fn rfl rfl rfl (by simp [go_sem, hdn, enc_none, hre] <;> rfl) call37 ((c_flat_Calls x y (by omega)) _ (by exact hgl)) (by simp [go_sem, hdn, enc_none, hre] <;> rfl) (by simp [go_sem, hdn, enc_none, hre]) rfl rfl ?_
    refine al_run 5 (sh := []) tyOk (by simp [go_sem, hdn, enc_none, hre] <;> rfl) ?_
    refine al_nil ?_
    refine awp_seq ?_
    refine awp_reg ?_
    refine al_run 1 (sh := []) tyOk (by simp [go_sem, hdn, enc_none, hre] <;> rfl) ?_
    refine al_fn rfl rfl rfl (by simp [go_sem, hdn, enc_none, hre] <;> rfl) call25 ((c_flat_Reach x (by omega)) _ (by exact hgl)) (by simp [go_sem, hdn, enc_none, hre] <;> rfl) (by simp [go_sem, hdn, enc_none, hre]) rfl rfl ?_
    refine al_run 5 (sh := []) tyOk (by simp [go_sem, hdn, enc_none, hre] <;> rfl) ?_
    refine al_nil ?_
    refine awp_seq ?_
    refine awp_seq ?_
    refine awp_reg ?_
    refine al_run 4 (sh := []) tyOk (by simp [go_sem, hdn, enc_none, hre] <;> rfl) ?_
    refine al_splitT 47 (by first | rfl | (simp [go_sem, hdn, enc_none, hre] <;> rfl)) (fun h24 => ?_) (fun h24 => ?_)
    · first | (cases h24; done) | (simp at h24; done)
    · refine al_runG (sh := []) 3 47 false false tyOk (by simp [go_sem]) rfl (by simp [go_sem]) rfl rfl (by simp [go_sem, hdn, enc_none, hre] <;> rfl) ?_
      refine al_splitT 50 (by first | rfl | (simp [go_sem, hdn, enc_none, hre] <;> rfl)) (fun h25 => ?_) (fun h25 => ?_)
      · have R : Right x := ⟨by simpa using h25, by omega⟩
        have hchk := R.chk
        have hRL := R.reachL
        have hLL := deqs_refl ((reach x).map D.head)
        refine al_runG (sh := []) 2 50 true true tyOk (by simp [go_sem]) rfl (by simp [go_sem]) rfl rfl (by simp [go_sem, hdn, enc_none, hre, hchk, hRL, hLL] <;> rfl) ?_
        refine al_fnG 50 true true (by simp [go_sem]) rfl (by simp [go_sem]) rfl rfl (by simp [go_sem, hdn, enc_none, hre, hchk, hRL, hLL] <;> rfl) call38 ((c_refReach x R) _ (by exact hgl)) (by simp [go_sem, hdn, enc_none, hre, hchk, hRL, hLL] <;> rfl) (by simp [go_sem, hdn, enc_none, hre, hchk, hRL, hLL]) rfl rfl ?_
        refine al_fnG 50 true true (by simp [go_sem]) rfl (by simp [go_sem]) rfl rfl (by simp [go_sem, hdn, enc_none, hre, hchk, hRL, hLL] <;> rfl) call18 ((c_Lists ((reach x).map D.head) ((reach x).map D.head) R.reach_len R.reach_len (fun z hz => R.reach_size z hz)) _ (by exact hgl)) (by simp [go_sem, hdn, enc_none, hre, hchk, hRL, hLL] <;> rfl) (by simp [go_sem, hdn, enc_none, hre, hchk, hRL, hLL]) rfl rfl ?_
        refine al_runG (sh := []) 1 50 true true tyOk (by simp [go_sem]) rfl (by simp [go_sem]) rfl rfl (by simp [go_sem, hdn, enc_none, hre, hchk, hRL, hLL] <;> rfl) ?_
        refine al_runG (sh := []) 1 47 false false tyOk (by simp [go_sem]) rfl (by simp [go_sem]) rfl rfl (by simp [go_sem, hdn, enc_none, hre, hchk, hRL, hLL] <;> rfl) ?_
        refine al_run 1 (sh := []) tyOk (by simp [go_sem, hdn, enc_none, hre, hchk, hRL, hLL] <;> rfl) ?_
        refine al_nil ?_
        refine awp_cond (by first | rfl | (simp [go_sem, hdn, enc_none, hre, hchk, hRL, hLL] <;> rfl)) (fun h26 => ?_) (fun h26 => ?_)
        · first | (cases h26; done) | (simp at h26; done)
        · refine awp_skip ?_
          refine awp_seq ?_
          refine awp_region_run (sh := []) tyOk (by simp [go_sem, hdn, enc_none, hre, hchk, hRL, hLL] <;> rfl) ?_
          refine awp_seq ?_
          refine awp_seq ?_
          refine awp_region_run (sh := []) tyOk (by simp [go_sem, hdn, enc_none, hre, hchk, hRL, hLL] <;> rfl) ?_
          refine awp_cond (by first | rfl | (simp [go_sem, hdn, enc_none, hre, hchk, hRL, hLL] <;> rfl)) (fun h27 => ?_) (fun h27 => ?_)
          · refine awp_seq ?_
            refine awp_reg ?_
            refine al_run 2 (sh := []) tyOk (by simp [go_sem, hdn, enc_none, hre, hchk, hRL, hLL] <;> rfl) ?_
            refine al_fn rfl rfl rfl (by simp [go_sem, hdn, enc_none, hre, hchk, hRL, hLL] <;> rfl) call39 ((c_Find (rdefs x) (by have := R.len; omega) y (fun z hz => by have := (R.small z hz).1; omega)) _ (by exact hgl)) (by simp [go_sem, hdn, enc_none, hre, hchk, hRL, hLL] <;> rfl) (by simp [go_sem, hdn, enc_none, hre, hchk, hRL, hLL]) rfl rfl ?_
            refine al_run 1 (sh := []) tyOk (by simp [go_sem, hdn, enc_none, hre, hchk, hRL, hLL] <;> rfl) ?_
            refine al_nil ?_
            refine awp_seq ?_
            refine awp_region_run (sh := []) tyOk (by simp [go_sem, hdn, enc_none, hre, hchk, hRL, hLL] <;> rfl) ?_
            refine awp_cond (by first | rfl | (simp [go_sem, hdn, enc_none, hre, hchk, hRL, hLL] <;> rfl)) (fun h28 => ?_) (fun h28 => ?_)
            · obtain ⟨hD, hC⟩ := R.def_none (f := y) (by simpa using h28)
              refine awp_region_run (sh := []) tyOk (by simp [go_sem, hdn, enc_none, hre, hchk, hRL, hLL, hD, hC] <;> rfl) ?_
              refine awp_seq ?_
              refine awp_seq ?_
              refine awp_reg ?_
              refine al_run 4 (sh := []) tyOk (by simp [go_sem, hdn, enc_none, hre, hchk, hRL, hLL, hD, hC] <;> rfl) ?_
              refine al_splitT 68 (by first | rfl | (simp [go_sem, hdn, enc_none, hre, hchk, hRL, hLL, hD, hC] <;> rfl)) (fun h29 => ?_) (fun h29 => ?_)
              · first | (cases h29; done) | (simp at h29; done)
              · refine al_runG (sh := []) 3 68 false false tyOk (by simp [go_sem]) rfl (by simp [go_sem]) rfl rfl (by simp [go_sem, hdn, enc_none, hre, hchk, hRL, hLL, hD, hC] <;> rfl) ?_
                refine al_run 1 (sh := []) tyOk (by simp [go_sem, hdn, enc_none, hre, hchk, hRL, hLL, hD, hC] <;> rfl) ?_
                refine al_nil ?_
                refine awp_cond (by first | rfl | (simp [go_sem, hdn, enc_none, hre, hchk, hRL, hLL, hD, hC] <;> rfl)) (fun h30 => ?_) (fun h30 => ?_)
                · first | (cases h30; done) | (simp at h30; done)
                · refine awp_skip ?_
                  refine awp_seq ?_
                  refine awp_seq ?_
                  refine awp_region_run (sh := []) tyOk (by simp [go_sem, hdn, enc_none, hre, hchk, hRL, hLL, hD, hC] <;> rfl) ?_
                  refine awp_cond (by first | rfl | (simp [go_sem, hdn, enc_none, hre, hchk, hRL, hLL, hD, hC] <;> rfl)) (fun h31 => ?_) (fun h31 => ?_)
                  · refine awp_seq ?_
                    refine awp_reg ?_
                    refine al_run 4 (sh := []) tyOk (by simp [go_sem, hdn, enc_none, hre, hchk, hRL, hLL, hD, hC] <;> rfl) ?_
                    refine al_splitT 78 (by first | rfl | (simp [go_sem, hdn, enc_none, hre, hchk, hRL, hLL, hD, hC] <;> rfl)) (fun h32 => ?_) (fun h32 => ?_)
                    · refine al_runG (sh := []) 2 78 true true tyOk (by simp [go_sem]) rfl (by simp [go_sem]) rfl rfl (by simp [go_sem, hdn, enc_none, hre, hchk, hRL, hLL, hD, hC] <;> rfl) ?_
                      refine al_fnG 78 true true (by simp [go_sem]) rfl (by simp [go_sem]) rfl rfl (by simp [go_sem, hdn, enc_none, hre, hchk, hRL, hLL, hD, hC] <;> rfl) call15 ((c_Same dnone (Nat.le_of_ble_eq_true rfl) dnone) _ (by exact hgl)) (by simp [go_sem, hdn, enc_none, hre, hchk, hRL, hLL, hD, hC] <;> rfl) (by simp [go_sem, hdn, enc_none, hre, hchk, hRL, hLL, hD, hC]) rfl rfl ?_
                      refine al_run 2 (sh := []) tyOk (by simp [go_sem, hdn, enc_none, hre, hchk, hRL, hLL, hD, hC] <;> rfl) ?_
                      refine al_splitT 83 (by first | rfl | (simp [go_sem, hdn, enc_none, hre, hchk, hRL, hLL, hD, hC] <;> rfl)) (fun h33 => ?_) (fun h33 => ?_)
                      · refine al_runG (sh := []) 3 83 true true tyOk (by simp [go_sem]) rfl (by simp [go_sem]) rfl rfl (by simp [go_sem, hdn, enc_none, hre, hchk, hRL, hLL, hD, hC] <;> rfl) ?_
                        refine al_run 2 (sh := []) tyOk (by simp [go_sem, hdn, enc_none, hre, hchk, hRL, hLL, hD, hC] <;> rfl) ?_
                        refine al_splitT 88 (by first | rfl | (simp [go_sem, hdn, enc_none, hre, hchk, hRL, hLL, hD, hC] <;> rfl)) (fun h34 => ?_) (fun h34 => ?_)
                        · refine al_fnG 88 true true (by simp [go_sem]) rfl (by simp [go_sem]) rfl rfl (by simp [go_sem, hdn, enc_none, hre, hchk, hRL, hLL, hD, hC] <;> rfl) call16 (c_alive σ hσ) (by simp [go_sem, hdn, enc_none, hre, hchk, hRL, hLL, hD, hC] <;> rfl) (by simp [go_sem, hdn, enc_none, hre, hchk, hRL, hLL, hD, hC]) rfl rfl ?_
                          refine al_run 2 (sh := []) tyOk (by simp [go_sem, hdn, enc_none, hre, hchk, hRL, hLL, hD, hC] <;> rfl) ?_
                          refine al_nil ?_
                          refine awp_ret ?_
                          refine then_ret ?_
                          -- leaf 3
                          refine ends_ret (by simp [go_sem, hdn, enc_none, hre, hchk, hRL, hLL, hD, hC] <;> rfl) (by simp [go_sem]) ?_
                          exact ⟨by simp [go_sem], by simp [go_sem]⟩
                        · first | (cases h34; done) | (simp at h34; done)
                      · first | (cases h33; done) | (simp at h33; done)
                    · first | (cases h32; done) | (simp at h32; done)
                  · first | (cases h31; done) | (simp at h31; done)
            · obtain ⟨hi0, x0, ns, x2, hix, hD, hC, hg2, hs2, hn8⟩ := R.def_some (f := y) (by simpa using h28)
              have hd2 := deq_refl x2
              have hll := deqs_refl (callsOf x2)
              refine awp_skip ?_
              refine awp_seq ?_
              refine awp_seq ?_
              refine awp_reg ?_
              refine al_run 4 (sh := []) tyOk (by simp [go_sem, hdn, enc_none, hre, hchk, hRL, hLL, hi0, hix, hD, hC, hd2, hll] <;> rfl) ?_
              refine al_splitT 68 (by first | rfl | (simp [go_sem, hdn, enc_none, hre, hchk, hRL, hLL, hi0, hix, hD, hC, hd2, hll] <;> rfl)) (fun h35 => ?_) (fun h35 => ?_)
              · first | (cases h35; done) | (simp at h35; done)
              · refine al_runG (sh := []) 3 68 false false tyOk (by simp [go_sem]) rfl (by simp [go_sem]) rfl rfl (by simp [go_sem, hdn, enc_none, hre, hchk, hRL, hLL, hi0, hix, hD, hC, hd2, hll] <;> rfl) ?_
                refine al_run 1 (sh := []) tyOk (by simp [go_sem, hdn, enc_none, hre, hchk, hRL, hLL, hi0, hix, hD, hC, hd2, hll] <;> rfl) ?_
                refine al_nil ?_
                refine awp_cond (by first | rfl | (simp [go_sem, hdn, enc_none, hre, hchk, hRL, hLL, hi0, hix, hD, hC, hd2, hll] <;> rfl)) (fun h36 => ?_) (fun h36 => ?_)
                · first | (cases h36; done) | (simp at h36; done)
                · refine awp_skip ?_
                  refine awp_seq ?_
                  refine awp_seq ?_
                  refine awp_region_run (sh := []) tyOk (by simp [go_sem, hdn, enc_none, hre, hchk, hRL, hLL, hi0, hix, hD, hC, hd2, hll] <;> rfl) ?_
                  refine awp_cond (by first | rfl | (simp [go_sem, hdn, enc_none, hre, hchk, hRL, hLL, hi0, hix, hD, hC, hd2, hll] <;> rfl)) (fun h37 => ?_) (fun h37 => ?_)
                  · first | (cases h37; done) | (simp at h37; done)
                  · refine awp_skip ?_
                    refine awp_seq ?_
                    refine awp_regDC tyOk tySz 24 (drawOk_of (by kernel_rfl)) (by decide) ?_
                    refine ul_run 6 (by simp [go_sem, hdn, enc_none, hre, hchk, hRL, hLL, hi0, hix, hD, hC, hd2, hll] <;> rfl) ?_
                    refine ul_fn (by first | (intro _ _ hh; exact hh) | simp [go_sem]) rfl rfl rfl rfl (by simp [go_sem, hdn, enc_none, hre, hchk, hRL, hLL, hi0, hix, hD, hC, hd2, hll] <;> rfl) call17 ((c_texts ns ns (by omega) (by omega)) _ (by exact hgl)) (by simp [go_sem, hdn, enc_none, hre, hchk, hRL, hLL, hi0, hix, hD, hC, hd2, hll] <;> rfl) (by simp [go_sem, hdn, enc_none, hre, hchk, hRL, hLL, hi0, hix, hD, hC, hd2, hll]) rfl rfl ?_
                    refine ul_run 1 (by simp [go_sem, hdn, enc_none, hre, hchk, hRL, hLL, hi0, hix, hD, hC, hd2, hll] <;> rfl) ?_
                    refine ul_splitT 98 (by first | rfl | (simp [go_sem, hdn, enc_none, hre, hchk, hRL, hLL, hi0, hix, hD, hC, hd2, hll] <;> rfl)) (fun h38 => ?_) (fun h38 => ?_)
                    · refine ul_runG 6 98 true true (by simp [go_sem]) rfl (by simp [go_sem]) rfl rfl (by simp [go_sem, hdn, enc_none, hre, hchk, hRL, hLL, hi0, hix, hD, hC, hd2, hll] <;> rfl) ?_
                      refine ul_fnG 98 true true (by simp [go_sem]) rfl (by first | (intro _ _ hh; exact hh) | simp [go_sem]) (by simp [go_sem]) rfl rfl rfl (by simp [go_sem, hdn, enc_none, hre, hchk, hRL, hLL, hi0, hix, hD, hC, hd2, hll] <;> rfl) call15 ((c_Same x2 (by omega) x2) _ (by exact hgl)) (by simp [go_sem, hdn, enc_none, hre, hchk, hRL, hLL, hi0, hix, hD, hC, hd2, hll] <;> rfl) (by simp [go_sem, hdn, enc_none, hre, hchk, hRL, hLL, hi0, hix, hD, hC, hd2, hll]) rfl rfl ?_
                      refine ul_run 2 (by simp [go_sem, hdn, enc_none, hre, hchk, hRL, hLL, hi0, hix, hD, hC, hd2, hll] <;> rfl) ?_
                      refine ul_splitT 107 (by first | rfl | (simp [go_sem, hdn, enc_none, hre, hchk, hRL, hLL, hi0, hix, hD, hC, hd2, hll] <;> rfl)) (fun h39 => ?_) (fun h39 => ?_)
                      · refine ul_runG 6 107 true true (by simp [go_sem]) rfl (by simp [go_sem]) rfl rfl (by simp [go_sem, hdn, enc_none, hre, hchk, hRL, hLL, hi0, hix, hD, hC, hd2, hll] <;> rfl) ?_
                        refine ul_fnG 107 true true (by simp [go_sem]) rfl (by first | (intro _ _ hh; exact hh) | simp [go_sem]) (by simp [go_sem]) rfl rfl rfl (by simp [go_sem, hdn, enc_none, hre, hchk, hRL, hLL, hi0, hix, hD, hC, hd2, hll] <;> rfl) call40 ((c_refCalls x2 hg2 (by omega)) _ (by exact hgl)) (by simp [go_sem, hdn, enc_none, hre, hchk, hRL, hLL, hi0, hix, hD, hC, hd2, hll] <;> rfl) (by simp [go_sem, hdn, enc_none, hre, hchk, hRL, hLL, hi0, hix, hD, hC, hd2, hll]) rfl rfl ?_
                        refine ul_nil ?_
                        refine al_fnG 107 true true (by simp [go_sem]) rfl (by simp [go_sem]) rfl rfl (by simp [go_sem, hdn, enc_none, hre, hchk, hRL, hLL, hi0, hix, hD, hC, hd2, hll] <;> rfl) call18 ((c_Lists (callsOf x2) (callsOf x2) (by have := callsOf_len hg2; omega) (by have := callsOf_len hg2; omega) (fun z hz => by have := callsOf_size hg2 z hz; omega)) _ (by exact hgl)) (by simp [go_sem, hdn, enc_none, hre, hchk, hRL, hLL, hi0, hix, hD, hC, hd2, hll] <;> rfl) (by simp [go_sem, hdn, enc_none, hre, hchk, hRL, hLL, hi0, hix, hD, hC, hd2, hll]) rfl rfl ?_
                        refine al_run 2 (sh := []) tyOk (by simp [go_sem, hdn, enc_none, hre, hchk, hRL, hLL, hi0, hix, hD, hC, hd2, hll] <;> rfl) ?_
                        refine al_splitT 117 (by first | rfl | (simp [go_sem, hdn, enc_none, hre, hchk, hRL, hLL, hi0, hix, hD, hC, hd2, hll] <;> rfl)) (fun h40 => ?_) (fun h40 => ?_)
                        · refine al_fnG 117 true true (by simp [go_sem]) rfl (by simp [go_sem]) rfl rfl (by simp [go_sem, hdn, enc_none, hre, hchk, hRL, hLL, hi0, hix, hD, hC, hd2, hll] <;> rfl) call16 (c_alive σ hσ) (by simp [go_sem, hdn, enc_none, hre, hchk, hRL, hLL, hi0, hix, hD, hC, hd2, hll] <;> rfl) (by simp [go_sem, hdn, enc_none, hre, hchk, hRL, hLL, hi0, hix, hD, hC, hd2, hll]) rfl rfl ?_
                          refine al_run 2 (sh := []) tyOk (by simp [go_sem, hdn, enc_none, hre, hchk, hRL, hLL, hi0, hix, hD, hC, hd2, hll] <;> rfl) ?_
                          refine al_nil ?_
                          refine awp_ret ?_
                          -- leaf 4
                          refine ends_ret (by simp [go_sem, hdn, enc_none, hre, hchk, hRL, hLL, hi0, hix, hD, hC, hd2, hll] <;> rfl) (by simp [go_sem]) ?_
                          exact ⟨by simp [go_sem], by simp [go_sem]⟩
                        · first | (cases h40; done) | (simp at h40; done)
                      · first | (cases h39; done) | (simp at h39; done)
                    · first | (cases h38; done) | (simp at h38; done)
          · first | (cases h27; done) | (simp at h27; done)
      · have hnz : (fcheck x == 0) = false := h25
        have hnz2 : (fcheck x != 0) = true := by rw [bne, hnz]; rfl
        have hD := fDef_bad (f := y) hnz
        have hC := fCalls_bad (f := y) hnz
        refine al_skip 5 50 true (by simp [go_sem]) (by simp [go_sem]) rfl rfl ?_
        refine al_runG (sh := []) 1 47 false false tyOk (by simp [go_sem]) rfl (by simp [go_sem]) rfl rfl (by simp [go_sem, hdn, enc_none, hre, hnz, hnz2, hD, hC] <;> rfl) ?_
        refine al_run 1 (sh := []) tyOk (by simp [go_sem, hdn, enc_none, hre, hnz, hnz2, hD, hC] <;> rfl) ?_
        refine al_nil ?_
        refine awp_cond (b := false) (by simp [go_sem, hdn, enc_none, hre, hnz, hnz2, hD, hC, h24, h25]) (fun h => ?_) (fun h => ?_)
        · cases h
        refine awp_skip ?_
        refine awp_seq ?_
        refine awp_region_run (sh := []) tyOk (by simp [go_sem, hdn, enc_none, hre, hnz, hnz2, hD, hC] <;> rfl) ?_
        refine awp_seq ?_
        refine awp_seq ?_
        refine awp_region_run (sh := []) tyOk (by simp [go_sem, hdn, enc_none, hre, hnz, hnz2, hD, hC] <;> rfl) ?_
        refine awp_cond (by first | rfl | (simp [go_sem, hdn, enc_none, hre, hnz, hnz2, hD, hC] <;> rfl)) (fun h41 => ?_) (fun h41 => ?_)
        · first | (cases h41; done) | (simp at h41; done)
        · refine awp_skip ?_
          refine awp_seq ?_
          refine awp_seq ?_
          refine awp_reg ?_
          refine al_run 4 (sh := []) tyOk (by simp [go_sem, hdn, enc_none, hre, hnz, hnz2, hD, hC] <;> rfl) ?_
          refine al_splitT 68 (by first | rfl | (simp [go_sem, hdn, enc_none, hre, hnz, hnz2, hD, hC] <;> rfl)) (fun h42 => ?_) (fun h42 => ?_)
          · first | (cases h42; done) | (simp at h42; done)
          · refine al_runG (sh := []) 3 68 false false tyOk (by simp [go_sem]) rfl (by simp [go_sem]) rfl rfl (by simp [go_sem, hdn, enc_none, hre, hnz, hnz2, hD, hC] <;> rfl) ?_
            refine al_run 1 (sh := []) tyOk (by simp [go_sem, hdn, enc_none, hre, hnz, hnz2, hD, hC] <;> rfl) ?_
            refine al_nil ?_
            refine awp_cond (by first | rfl | (simp [go_sem, hdn, enc_none, hre, hnz, hnz2, hD, hC] <;> rfl)) (fun h43 => ?_) (fun h43 => ?_)
            · first | (cases h43; done) | (simp at h43; done)
            · refine awp_skip ?_
              refine awp_seq ?_
              refine awp_seq ?_
              refine awp_region_run (sh := []) tyOk (by simp [go_sem, hdn, enc_none, hre, hnz, hnz2, hD, hC] <;> rfl) ?_
              refine awp_cond (by first | rfl | (simp [go_sem, hdn, enc_none, hre, hnz, hnz2, hD, hC] <;> rfl)) (fun h44 => ?_) (fun h44 => ?_)
              · refine awp_seq ?_
                refine awp_reg ?_
                refine al_run 4 (sh := []) tyOk (by simp [go_sem, hdn, enc_none, hre, hnz, hnz2, hD, hC] <;> rfl) ?_
                refine al_splitT 78 (by first | rfl | (simp [go_sem, hdn, enc_none, hre, hnz, hnz2, hD, hC] <;> rfl)) (fun h45 => ?_) (fun h45 => ?_)
                · refine al_runG (sh := []) 2 78 true true tyOk (by simp [go_sem]) rfl (by simp [go_sem]) rfl rfl (by simp [go_sem, hdn, enc_none, hre, hnz, hnz2, hD, hC] <;> rfl) ?_
                  refine al_fnG 78 true true (by simp [go_sem]) rfl (by simp [go_sem]) rfl rfl (by simp [go_sem, hdn, enc_none, hre, hnz, hnz2, hD, hC] <;> rfl) call15 ((c_Same dnone (Nat.le_of_ble_eq_true rfl) dnone) _ (by exact hgl)) (by simp [go_sem, hdn, enc_none, hre, hnz, hnz2, hD, hC] <;> rfl) (by simp [go_sem, hdn, enc_none, hre, hnz, hnz2, hD, hC]) rfl rfl ?_
                  refine al_run 2 (sh := []) tyOk (by simp [go_sem, hdn, enc_none, hre, hnz, hnz2, hD, hC] <;> rfl) ?_
                  refine al_splitT 83 (by first | rfl | (simp [go_sem, hdn, enc_none, hre, hnz, hnz2, hD, hC] <;> rfl)) (fun h46 => ?_) (fun h46 => ?_)
                  · refine al_runG (sh := []) 3 83 true true tyOk (by simp [go_sem]) rfl (by simp [go_sem]) rfl rfl (by simp [go_sem, hdn, enc_none, hre, hnz, hnz2, hD, hC] <;> rfl) ?_
                    refine al_run 2 (sh := []) tyOk (by simp [go_sem, hdn, enc_none, hre, hnz, hnz2, hD, hC] <;> rfl) ?_
                    refine al_splitT 88 (by first | rfl | (simp [go_sem, hdn, enc_none, hre, hnz, hnz2, hD, hC] <;> rfl)) (fun h47 => ?_) (fun h47 => ?_)
                    · refine al_fnG 88 true true (by simp [go_sem]) rfl (by simp [go_sem]) rfl rfl (by simp [go_sem, hdn, enc_none, hre, hnz, hnz2, hD, hC] <;> rfl) call16 (c_alive σ hσ) (by simp [go_sem, hdn, enc_none, hre, hnz, hnz2, hD, hC] <;> rfl) (by simp [go_sem, hdn, enc_none, hre, hnz, hnz2, hD, hC]) rfl rfl ?_
                      refine al_run 2 (sh := []) tyOk (by simp [go_sem, hdn, enc_none, hre, hnz, hnz2, hD, hC] <;> rfl) ?_
                      refine al_nil ?_
                      refine awp_ret ?_
                      refine then_ret ?_
                      -- leaf 5
                      refine ends_ret (by simp [go_sem, hdn, enc_none, hre, hnz, hnz2, hD, hC] <;> rfl) (by simp [go_sem]) ?_
                      exact ⟨by simp [go_sem], by simp [go_sem]⟩
                    · first | (cases h47; done) | (simp at h47; done)
                  · first | (cases h46; done) | (simp at h46; done)
                · first | (cases h45; done) | (simp at h45; done)
              · first | (cases h44; done) | (simp at h44; done)

end Go.Proofs.YtienmmfjjffjaaaGreatDoor

/- The laid tables and the data of this seat, as abstract values. -/
namespace Go.Proofs.YtienmmfjjffjaaaGreatDoor
open Go Go.Aw
variable {kr : ResO}
theorem dty : DatumTy Tryz.prog 24 22 3 2 9 :=
  { und := ⟨_, _, _, _, Tryz.underlying24, rfl, rfl, rfl, rfl, rfl, rfl, rfl, rfl⟩, i := Tryz.underlying3, n := Tryz.underlying2, s := Tryz.underlying9, k := Tryz.underlying22, cD := by kernel_rfl, ci := by kernel_rfl, cn := by kernel_rfl, cs := by kernel_rfl, ck := by kernel_rfl }
theorem gReserved : Tryz.prog.globalNamed "pagoda/node.reserved" = some 0 := by kernel_rfl
theorem gPrim : Tryz.prog.globalNamed "pagoda/prim.names" = some 1 := by kernel_rfl
theorem tReserved : (Tryz.prog.globals[0]?).map (·.type) = some 70 := by kernel_rfl
theorem tPrim : (Tryz.prog.globals[1]?).map (·.type) = some 126 := by kernel_rfl
theorem tPow : (Tryz.prog.globals[2]?).map (·.type) = some 154 := by kernel_rfl
theorem rows_pow : (Rows.laid_internal_strconv_uint64pow10 : DataW Unit) = Lib.tabData .u64 Lib.pow10Tab := by kernel_rfl
/-- What the row's listed variables are when the call begins. -/
theorem of_laid {W : World} (h : laidMetH Tryz.prog [("math/bits.deBruijn32tab", Rows.laid_math_bits_deBruijn32tab), ("math/bits.deBruijn64tab", Rows.laid_math_bits_deBruijn64tab), ("internal/strconv.uint64pow10", Rows.laid_internal_strconv_uint64pow10), ("pagoda/node.reserved", Rows.laid_pagoda_node_reserved), ("pagoda/prim.names", Rows.laid_pagoda_prim_names)] W) :
    ∃ kr : ResO, ∀ n p, (n, p) ∈ (GL kr) → RP W.heap.size (fun _ _ => False) W p (.pointer (some ⟨n, 0, none⟩)) := by
  rw [MakeChecks.laidMetH_plain _ _ _ (by kernel_rfl)] at h
  obtain ⟨ps, ⟨_, _, _, _, _, _, _, _, _, _, ⟨_, _, _, _, _, _, _, _, _, _, ⟨g2, t2, cs2, f2, p2, q2, hg2, ht2, hv2, hd2, ⟨g0, t0, cs0, f0, p0, q0, hg0, ht0, hv0, hd0, ⟨g1, t1, cs1, f1, p1, q1, hg1, ht1, hv1, hd1, _, _⟩, _⟩, _⟩, _⟩, _⟩, _, _⟩ := h
  obtain rfl := Option.some.inj (gReserved.symm.trans hg0)
  obtain rfl := Option.some.inj (gPrim.symm.trans hg1)
  obtain rfl := Option.some.inj (gPow.symm.trans hg2)
  obtain rfl := Option.some.inj (tReserved.symm.trans ht0)
  obtain rfl := Option.some.inj (tPrim.symm.trans ht1)
  obtain rfl := Option.some.inj (tPow.symm.trans ht2)
  obtain ⟨b, l, hc0, hl, hrp0⟩ := open_set (S := fun _ _ => False) (names := resNames) Tryz.underlying70 Tryz.underlying9 Tryz.underlying4 hd0
  obtain ⟨v, hc1, hone, hrp1⟩ := open_table (S := fun _ _ => False) (L := primNames) Tryz.underlying126 Tryz.underlying127 Tryz.underlying9 Tryz.underlying3 rfl rfl (by kernel_rfl) (by kernel_rfl) (by kernel_rfl) hd1
  rw [rows_pow] at hd2
  have hc2 := Lib.cells_of_tab Tryz.underlying154 Tryz.underlying140 (by kernel_rfl) (by kernel_rfl) hd2
  have hblk : ∃ e c, W.heap[(2 : Nat)]? = some (.cells (Lib.pow10Tab.map (Value.int .u64)).toArray e c) := by
    simp only [World.var?, gPow, Option.bind_some] at hv2
    split at hv2
    · rename_i cs e c hh
      cases hv2
      refine ⟨e, c, ?_⟩
      rw [hh, ← Array.toArray_toList (xs := cs2), hc2]
    · cases hv2
  obtain ⟨e2, c2, hblk⟩ := hblk
  have hcell0 : W.cell? ⟨0, 0, none⟩ = some (.map (some b)) := by
    have := World.var?_cell hg0 hv0 0
    rw [Array.eq_one_of_toList hc0] at this
    simpa using this
  have hcell1 : W.cell? ⟨1, 0, none⟩ = some v := by
    have := World.var?_cell hg1 hv1 0
    rw [Array.eq_one_of_toList hc1] at this
    simpa using this
  refine ⟨resO l hl, fun n p hm => ?_⟩
  simp only [GL, flatG, List.cons_append, List.nil_append, List.mem_cons, Prod.mk.injEq, List.not_mem_nil, or_false] at hm
  rcases hm with ⟨rfl, rfl⟩ | ⟨rfl, rfl⟩ | ⟨rfl, rfl⟩
  · rw [resV_of hl] at hrp0
    exact rp_var (cell_lt hcell0) hcell0 rfl hrp0
  · rw [primV_of] at hrp1
    exact rp_var (cell_lt hcell1) hcell1 hone hrp1
  · refine RP.tab ?_ hblk
    by_cases hlt : 2 < W.heap.size
    · exact hlt
    · rw [Array.getElem?_eq_none (by show W.heap.size ≤ _; omega)] at hblk; cases hblk

end Go.Proofs.YtienmmfjjffjaaaGreatDoor

/- FlatDefs: for every two data the law returns true, and they read as they did. -/
namespace Go.Proofs.YtienmmfjjffjaaaGreatDoor
open Go Go.Aw
variable {kr : ResO}
open Go.ChangeShapes Go.WideShapes Go.ChangeAt Go.WideMaps Go.WideElems Go.RowKit
theorem own : ownKnob Tryz.prog.godebug = none := by kernel_rfl
theorem laidOut : laidOutB Tryz.prog = true := by kernel_rfl
theorem door_met (os : Os) (args : Array Value) : laidMetH Tryz.prog Rows.flatDefsRow.laid ((World.doorLaid Tryz.prog 90 os).forCall (fun _ _ => 0) ⟨#[], args, []⟩).memory :=
  laidMetH_of_parts3 (fuel := 8) (laidMet_of_run' 8 (by kernel_rfl) (by kernel_rfl)) (by kernel_rfl) (by kernel_rfl)
/-- The call, as the machine makes it. -/
theorem flatDefs_calls {W : World} (hL : laidMetH Tryz.prog Rows.flatDefsRow.laid W) {v0 v1 : Value} {d0 d1 : D} (h0 : RP W.heap.size (fun _ _ => False) W (enc d0) v0) (h1 : RP W.heap.size (fun _ _ => False) W (enc d1) v1) :
    Calls Tryz.prog 8 #[v0, v1] W fun r W' => r = .returned (.bool true) ∧ Below W.heap.size W W' := by
  obtain ⟨kr, hg⟩ := of_laid hL
  refine (c_FlatDefs (kr := kr) d0 d1 ⟨(GL kr), [], []⟩ rfl (g0 W) W [v0, v1] (inv0 hg) rfl (fun i x v hx hv => ?_)).mono ?_
  · match i with
    | 0 => simp at hx hv; subst hx hv; exact .pv h0
    | 1 => simp at hx hv; subst hx hv; exact .pv h1
    | i + 2 => simp at hx
  · rintro r W' ⟨v, x, σ', g', rfl, ⟨rfl, rfl⟩, _, hext, hra⟩
    rw [hra.pv_inv.bool_inv]
    exact ⟨rfl, below_of hext⟩
abbrev zeroDatum : Value := .agg #[.int .i64 0, .int .i64 0, .string ⟨#[]⟩, .slice none 0 0]
set_option maxRecDepth 100000 in
theorem flatDefs_lifted (os : Os) (started : os.Started) (H : Type) (enc' : TypeId × Value → H) :
    ReturnsInHanded {} Tryz.checked os 8 .any (fun w args => (Rows.flatDefsSpec.pre enc' Tryz.prog Tryz.f8 [] false w args ∧ laidMetH Tryz.prog Rows.flatDefsRow.laid w) ∧ sizedMet enc' Tryz.prog Tryz.f8 (OpenSpec.ofChange Rows.flatDefsSpec) false w args)
      (Rows.flatDefsSpec.post enc' Tryz.prog Tryz.f8 false true false false) := by
  refine returnsInHanded_of_change_and (C := Tryz.checked) (X := fun w _ => laidMetH Tryz.prog Rows.flatDefsRow.laid w) (fun _ _ _ hh h => h.of_heap hh) own started (by kernel_rfl) Tryz.func8
    (ChangeSpec.witness_shaped (enc := enc') (C := Tryz.checked) (os := os) (X := fun w _ => laidMetH Tryz.prog Rows.flatDefsRow.laid w) false (World.doorLaid Tryz.prog 90 os) #[zeroDatum, zeroDatum] 8 rfl (World.shaped_of_RefB (by kernel_rfl) (by kernel_rfl)) (by kernel_rfl) (by kernel_rfl) (by kernel_rfl) (door_met os _)) ?_
  intro W base args ds gs before hval0 hW _ _ hL _
  have hW' := hW
  obtain ⟨p, q, hA0, hV, rfl, hfz, hnd⟩ := hW
  have hA : DataW.TrodAll enc' Tryz.prog W 0 (fun _ => true) true Tryz.f8.params.toList args.toList ds p := hA0
  rw [Tryz.params8] at hA
  obtain ⟨v0, v1, x0, x1, p0, p1, rfl, rfl, rfl, h0, h1⟩ := trodAll_two hA
  obtain ⟨rfl, rfl⟩ := trodVars_none hV
  clear hA0 hval0
  simp only [List.append_nil] at hW'
  obtain ⟨n0, t0⟩ := id h0
  obtain ⟨n1, t1⟩ := id h1
  obtain ⟨e0, u0, hc0, ho0, hr0⟩ := open_datum (S := fun _ _ => False) dty n0 _ _ t0
  have hv0 := open_agg hc0
  obtain ⟨e1, u1, hc1, ho1, hr1⟩ := open_datum (S := fun _ _ => False) dty n1 _ _ t1
  have hv1 := open_agg hc1
  have hlt := hW'.lt
  refine (flatDefs_calls hL (hv0 ▸ rp_datum ho0 hr0) (hv1 ▸ rp_datum ho1 hr1)).mono fun r W' ⟨hr, hb⟩ => ?_
  subst hr
  exact ⟨_, rfl, post_of_below (pa := p0 ++ p1) (pv := []) hW' (fun _ _ _ => trodAll_mk1 (shut_bool Tryz.underlying4 true))
    (fun sp hs => trodAll_mk2 (Trod_stays laidOut (by kernel_rfl) (of_decide_eq_true (by kernel_rfl)) h0 (fun x hx => hb.same (hlt x (by simp [hx]))) (fun x hx => hs x (by simp [hx]))) (Trod_stays laidOut (by kernel_rfl) (of_decide_eq_true (by kernel_rfl)) h1 (fun x hx => hb.same (hlt x (by simp [hx]))) (fun x hx => hs x (by simp [hx]))))
    (fun _ _ => rfl) (by simp) hb (ok_one (by kernel_rfl) rfl (okWide_bool_mk Tryz.underlying4 _))⟩
theorem flatDefs_holds : Rows.FlatDefsSaid :=
  OpenClaim.holds_of_wide 8 Tryz.f8 rfl rfl rfl rfl rfl rfl rfl ⟨rfl, rfl, rfl, rfl, rfl⟩ rfl rfl rfl rfl rfl (by kernel_rfl) Tryz.func8 (by kernel_rfl)
    (of_decide_eq_true (by kernel_rfl)) (by unfold Func.isWrapper; rw [if_neg (by decide +kernel)]; exact ⟨rfl, rfl⟩)
    (fun os started H enc _ => flatDefs_lifted os started H enc)
/-- The tied card. -/
theorem flatDefsCard_holds : Rows.FlatDefsCardSaid :=
  Claim7.holds_tied_plain_at .later [] [.data, .data, .data, .mapped, .data] true (true, "90130382fac7d9d0ed5a2357e0a309ea32f779a7967c3879cd180699234b33dc") false
    flatDefs_holds (fun _ h => by cases h) (by kernel_rfl) (fun _ h => by cases h) flatDefs_row_tie rfl ⟨rfl, rfl⟩ (by kernel_rfl) rfl
    (fun f fn hf hfn => by
      obtain rfl : f = 8 := Option.some.inj ((show Tryz.prog.funcNamed "pagoda/pagodalaw17.FlatDefs" = some 8 by kernel_rfl).symm.trans hf) |>.symm
      obtain rfl : fn = Tryz.f8 := (Option.some.inj (Tryz.func8.symm.trans hfn)).symm
      exact ⟨by kernel_rfl, fun j t ht => by
        rw [Tryz.params8] at ht
        have h3 : t = 24 := by
          rcases j with _ | _ | j
          · simpa using ht.symm
          · simpa using ht.symm
          · simp at ht
        subst h3
        exact (show Tryz.prog.wantsStandIn 24 = false by kernel_rfl)⟩)
    (by kernel_rfl)
end Go.Proofs.YtienmmfjjffjaaaGreatDoor
