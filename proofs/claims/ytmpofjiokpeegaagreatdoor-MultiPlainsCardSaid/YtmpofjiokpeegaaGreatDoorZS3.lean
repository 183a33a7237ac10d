/- Part of the proof that the statement holds for every input that its row lets in: the contracts of the program's functions, printed by a program out of annotations; the statement itself stands at the end of the last part. -/
import Derived.Test.YtmpofjiokpeegaaGreatDoorZS2
import Derived.Test.YtmpofjiokpeegaaGreatDoorZA4
import Derived.Test.YtmpofjiokpeegaaGreatDoorRows
import Derived.Test.YtmpofjiokpeegaaGreatDoorCards
import Derived.Test.YtmpofjiokpeegaaGreatDoorTie
set_option linter.unusedSimpArgs false
set_option linter.unusedVariables false
/- The example, alive; MultiChecks. -/
namespace Go.Proofs.YtmpofjiokpeegaaGreatDoor
open Go Go.Aw
variable {kr : KR}
set_option maxHeartbeats 1000000 in
theorem c_alive (σ : Store) (hσ : σ = ⟨(GL kr), [], []⟩) : PurAt Tryz.prog σ 22 [] (.pv (.bool true)) := by
 have hgl : σ.gl = (GL kr) := by rw [hσ]
 have hP := ex_plain
 have hL := ex_lifted
 have hC3 := ex_check3
 have hS3 := ex_size3
 have hC6 := ex_check6
 obtain ⟨z1, z2, z3, z4, z5, z6⟩ := ex_sizes
 have hr1 := c_read1 (kr := kr)
 have hr2 := c_read2 (kr := kr)
 have hr3 := c_read3 (kr := kr)
 have hr4 := c_read4 (kr := kr)
 have hr5 := c_read5 (kr := kr)
 have hr6 := c_read6 (kr := kr)
 rw [← hσ] at hr1 hr2 hr3 hr4 hr5 hr6
 clear hσ
 generalize ex1 = x1 at *
 generalize ex2 = x2 at *
 generalize ex3 = x3 at *
 generalize ex4 = x4 at *
 generalize ex5 = x5 at *
 generalize ex6 = x6 at *
 have hd4 := deq_refl x4
 have hd5 := deq_refl x5
 refine purAt_of ?_
 refine acalls_of tyOk Tryz.func22 rfl (by simp [Tryz.f22]) ?_
 refine awp_seq (aR (by simp [go_sem, hP, hL, hC3, hS3, hC6, hd4, hd5] <;> rfl) ?_)
 refine awp_seq (awp_reg ?_)
 refine aF call68 (hr1) (by simp [go_sem, hP, hL, hC3, hS3, hC6, hd4, hd5] <;> rfl) (by simp [go_sem, hP, hL, hC3, hS3, hC6, hd4, hd5]) ?_
 refine aF call36 ((c_mPlain x1 (by omega)) _ (by exact hgl)) (by simp [go_sem, hP, hL, hC3, hS3, hC6, hd4, hd5] <;> rfl) (by simp [go_sem, hP, hL, hC3, hS3, hC6, hd4, hd5]) ?_
 refine aL 6 (by simp [go_sem, hP, hL, hC3, hS3, hC6, hd4, hd5] <;> rfl) ?_
 refine al_nil ?_
 refine awp_seq (awp_reg ?_)
 refine aF call68 (hr2) (by simp [go_sem, hP, hL, hC3, hS3, hC6, hd4, hd5] <;> rfl) (by simp [go_sem, hP, hL, hC3, hS3, hC6, hd4, hd5]) ?_
 refine aF call16 ((c_mLifted x2 (by omega)) _ (by exact hgl)) (by simp [go_sem, hP, hL, hC3, hS3, hC6, hd4, hd5] <;> rfl) (by simp [go_sem, hP, hL, hC3, hS3, hC6, hd4, hd5]) ?_
 refine aL 6 (by simp [go_sem, hP, hL, hC3, hS3, hC6, hd4, hd5] <;> rfl) ?_
 refine al_nil ?_
 refine awp_seq (awp_reg ?_)
 refine aF call68 (hr3) (by simp [go_sem, hP, hL, hC3, hS3, hC6, hd4, hd5] <;> rfl) (by simp [go_sem, hP, hL, hC3, hS3, hC6, hd4, hd5]) ?_
 refine aF call19 ((c_mSize x3 (by omega)) _ (by exact hgl)) (by simp [go_sem, hP, hL, hC3, hS3, hC6, hd4, hd5] <;> rfl) (by simp [go_sem, hP, hL, hC3, hS3, hC6, hd4, hd5]) ?_
 refine aL 5 (by simp [go_sem, hP, hL, hC3, hS3, hC6, hd4, hd5] <;> rfl) ?_
 refine al_nil ?_
 refine awp_seq (awp_regDC tyOk tySz 14 (drawOk_of (by kernel_rfl)) (by decide) ?_)
 refine ul_run 3 (by simp [go_sem, hP, hL, hC3, hS3, hC6, hd4, hd5] <;> rfl) ?_
 refine ul_splitT 24 (by first | rfl | (simp [go_sem, hP, hL, hC3, hS3, hC6, hd4, hd5] <;> rfl)) (fun h20 => ?_) (fun h20 => ?_)
 ·refine ul_runG 1 24 true true (by simp [go_sem]) rfl (by simp [go_sem]) rfl rfl (by simp [go_sem, hP, hL, hC3, hS3, hC6, hd4, hd5] <;> rfl) ?_
  refine ul_fnG 24 true true (by simp [go_sem]) rfl (by first | (intro _ _ hh; exact hh) | simp [go_sem]) (by simp [go_sem]) rfl rfl rfl (by simp [go_sem, hP, hL, hC3, hS3, hC6, hd4, hd5] <;> rfl) call68 (hr4) (by simp [go_sem, hP, hL, hC3, hS3, hC6, hd4, hd5] <;> rfl) (by simp [go_sem, hP, hL, hC3, hS3, hC6, hd4, hd5]) rfl rfl ?_
  refine ul_fnG 24 true true (by simp [go_sem]) rfl (by first | (intro _ _ hh; exact hh) | simp [go_sem]) (by simp [go_sem]) rfl rfl rfl (by simp [go_sem, hP, hL, hC3, hS3, hC6, hd4, hd5] <;> rfl) call35 ((c_Same x4 (by omega) x4) _ (by exact hgl)) (by simp [go_sem, hP, hL, hC3, hS3, hC6, hd4, hd5] <;> rfl) (by simp [go_sem, hP, hL, hC3, hS3, hC6, hd4, hd5]) rfl rfl ?_
  refine ul_run 2 (by simp [go_sem, hP, hL, hC3, hS3, hC6, hd4, hd5] <;> rfl) ?_
  refine ul_splitT 29 (by first | rfl | (simp [go_sem, hP, hL, hC3, hS3, hC6, hd4, hd5] <;> rfl)) (fun h21 => ?_) (fun h21 => ?_)
  ·refine ul_runG 2 29 true true (by simp [go_sem]) rfl (by simp [go_sem]) rfl rfl (by simp [go_sem, hP, hL, hC3, hS3, hC6, hd4, hd5] <;> rfl) ?_
   refine ul_run 2 (by simp [go_sem, hP, hL, hC3, hS3, hC6, hd4, hd5] <;> rfl) ?_
   refine ul_splitT 33 (by first | rfl | (simp [go_sem, hP, hL, hC3, hS3, hC6, hd4, hd5] <;> rfl)) (fun h22 => ?_) (fun h22 => ?_)
   ·refine ul_runG 1 33 true true (by simp [go_sem]) rfl (by simp [go_sem]) rfl rfl (by simp [go_sem, hP, hL, hC3, hS3, hC6, hd4, hd5] <;> rfl) ?_
    refine ul_fnG 33 true true (by simp [go_sem]) rfl (by first | (intro _ _ hh; exact hh) | simp [go_sem]) (by simp [go_sem]) rfl rfl rfl (by simp [go_sem, hP, hL, hC3, hS3, hC6, hd4, hd5] <;> rfl) call68 (hr5) (by simp [go_sem, hP, hL, hC3, hS3, hC6, hd4, hd5] <;> rfl) (by simp [go_sem, hP, hL, hC3, hS3, hC6, hd4, hd5]) rfl rfl ?_
    refine ul_nil ?_
    refine al_fnG 33 true true (by simp [go_sem]) rfl (by simp [go_sem]) rfl rfl (by simp [go_sem, hP, hL, hC3, hS3, hC6, hd4, hd5] <;> rfl) call35 ((c_Same x5 (by omega) x5) _ (by exact hgl)) (by simp [go_sem, hP, hL, hC3, hS3, hC6, hd4, hd5] <;> rfl) (by simp [go_sem, hP, hL, hC3, hS3, hC6, hd4, hd5]) rfl rfl ?_
    refine aL 2 (by simp [go_sem, hP, hL, hC3, hS3, hC6, hd4, hd5] <;> rfl) ?_
    refine al_splitT 38 (by first | rfl | (simp [go_sem, hP, hL, hC3, hS3, hC6, hd4, hd5] <;> rfl)) (fun h23 => ?_) (fun h23 => ?_)
    ·refine aLG 2 38 true (by simp [go_sem, hP, hL, hC3, hS3, hC6, hd4, hd5] <;> rfl) ?_
     refine aL 2 (by simp [go_sem, hP, hL, hC3, hS3, hC6, hd4, hd5] <;> rfl) ?_
     refine al_splitT 42 (by first | rfl | (simp [go_sem, hP, hL, hC3, hS3, hC6, hd4, hd5] <;> rfl)) (fun h24 => ?_) (fun h24 => ?_)
     ·refine aLG 2 42 true (by simp [go_sem, hP, hL, hC3, hS3, hC6, hd4, hd5] <;> rfl) ?_
      refine aL 2 (by simp [go_sem, hP, hL, hC3, hS3, hC6, hd4, hd5] <;> rfl) ?_
      refine al_splitT 46 (by first | rfl | (simp [go_sem, hP, hL, hC3, hS3, hC6, hd4, hd5] <;> rfl)) (fun h25 => ?_) (fun h25 => ?_)
      ·refine al_fnG 46 true true (by simp [go_sem]) rfl (by simp [go_sem]) rfl rfl (by simp [go_sem, hP, hL, hC3, hS3, hC6, hd4, hd5] <;> rfl) call68 (hr6) (by simp [go_sem, hP, hL, hC3, hS3, hC6, hd4, hd5] <;> rfl) (by simp [go_sem, hP, hL, hC3, hS3, hC6, hd4, hd5]) rfl rfl ?_
       refine al_fnG 46 true true (by simp [go_sem]) rfl (by simp [go_sem]) rfl rfl (by simp [go_sem, hP, hL, hC3, hS3, hC6, hd4, hd5] <;> rfl) call21 ((c_mCheck x6 (by omega)) _ (by exact hgl)) (by simp [go_sem, hP, hL, hC3, hS3, hC6, hd4, hd5] <;> rfl) (by simp [go_sem, hP, hL, hC3, hS3, hC6, hd4, hd5]) rfl rfl ?_
       refine aLG 1 46 true (by simp [go_sem, hP, hL, hC3, hS3, hC6, hd4, hd5] <;> rfl) ?_
       refine aL 2 (by simp [go_sem, hP, hL, hC3, hS3, hC6, hd4, hd5] <;> rfl) ?_
       refine al_nil ?_
       refine awp_ret ?_
       refine ends_ret (by simp [go_sem] <;> rfl) (by simp [go_sem]) ?_
       exact ⟨by simp [go_sem], by simp [go_sem]⟩
      ·cases h25
     ·cases h24
    ·cases h23
   ·cases h22
  ·cases h21
 ·cases h20

end Go.Proofs.YtmpofjiokpeegaaGreatDoor

/- The specification: names that become others, Plain. -/
namespace Go.Proofs.YtmpofjiokpeegaaGreatDoor
open Go Go.Aw
variable {kr : KR}
set_option maxHeartbeats 1000000 in
theorem c_rfind (env : List ByteArray) (hl : env.length ≤ 1000000000) (s : ByteArray) : Pur Tryz.prog (GL kr) 135 [.pv (encR env), .pv (.str s)] (.tuple [.pv (.str (rfindS env s)), .pv (.bool (lastI env s).isSome)]) := by
 have hw0 : IntKind.i64.wrap ((env.length : Int) - 1) = (env.length : Int) - 1 := wrap_id (by omega) (by omega)
 have hnsl := newS_length env
 refine pur_of fun σ hgl => ?_
 refine acalls_of tyOk Tryz.func135 rfl (by simp [Tryz.f135]) ?_
 refine awp_seq (aR (by simp [go_sem, encR, hw0] <;> rfl) ?_)
 refine awp_seq (awp_seq (aR (by simp [go_sem, encR, hw0] <;> rfl) ?_))
 refine awp_block ?_
 refine awp_loop_headK σ.objs.length σ.toks.length 1 [1, 2, 4, 5] (fun k : Nat => [(6, .pv (.int .i64 ((env.length : Int) - 1 - (k : Int))))]) (fun k => σ) (fun k => k ≤ env.length ∧ NoneLast env s k) (fun k => env.length - k) 0 (⟨Nat.zero_le _, .zero⟩) ⟨by simp [go_sem, encR, hw0], rfl, by simp, by simp, by simp [go_sem, encR, hw0], fun ob h => .inl (by simpa [go_sem, encR, hw0] using h), by simp [go_sem]⟩ ?_
 rintro k ⟨hk, hn⟩
 refine awp_seq (awp_seq (aR (by simp [go_sem, encR, hw0] <;> rfl) ?_))
 refine awp_cond (by first | rfl | (simp [go_sem, encR, hw0] <;> rfl)) (fun h0 => ?_) (fun h0 => ?_)
 ·have hlt : k < env.length := by simp at h0; omega
  obtain ⟨q, hq, hqn⟩ : ∃ q : Nat, (env.length : Int) - 1 - (k : Int) = q ∧ q = env.length - 1 - k := ⟨env.length - 1 - k, by omega, rfl⟩
  obtain ⟨x, hx, hxm⟩ := get_lt (l := env) (k := q) (by omega)
  have hnq : (newS env)[q]? = some (namedB (q : Nat)) := newS_get (by omega)
  have hw : IntKind.i64.wrap ((q : Int) - 1) = (env.length : Int) - 1 - ((k : Int) + 1) := by rw [wrap_id (by omega) (by omega)]; omega
  refine awp_skip ?_
  refine awp_seq (awp_block ?_)
  refine awp_seq (aR (by simp [go_sem, encR, hw0, hq, hx, hnq] <;> rfl) ?_)
  refine awp_cond (by first | rfl | (simp [go_sem, encR, hw0, hq, hx, hnq] <;> rfl)) (fun h1 => ?_) (fun h1 => ?_)
  ·refine awp_seq ?_
   refine aR (by simp [go_sem, encR, hw0, hq, hx, hnq] <;> rfl) ?_
   refine awp_ret ?_
   refine inBlock_ret ?_
   refine then_ret ?_
   refine then_ret ?_
   refine inBlock_ret ?_
   refine then_ret ?_
   refine ends_ret (by simp [go_sem] <;> rfl) (by simp [go_sem]) ?_
   have hli : lastI env s = some q := by subst hqn; exact lastI_found hn hlt (by rw [hx]; congr 1; simpa using h1)
   exact ⟨by simp [go_sem, rfindS, hli], by simp [go_sem]⟩
  ·refine awp_skip ?_
   refine aR (by simp [go_sem, encR, hw0, hq, hx, hnq] <;> rfl) ?_
   exact next_intro (k + 1) σ.objs.length σ.toks.length 1 (⟨hlt, hn.succ (hqn ▸ hx) h1⟩) (by omega) ⟨by simp [go_sem, encR, hw0, hq, hx, hnq, hw], rfl, by simp, by simp, by simp [go_sem, encR, hw0, hq, hx, hnq, hw], fun ob h => .inl (by simpa [go_sem, encR, hw0, hq, hx, hnq, hw] using h), by simp [go_sem]⟩
 ·have hke : k = env.length := by simp at h0; omega
  subst hke
  have hli := lastI_none hn
  refine awp_exit ?_
  refine then_exit ?_
  refine then_exit ?_
  refine inBlock_hit ?_
  refine awp_seq (aR (by simp [go_sem, encR, hw0, hli] <;> rfl) ?_)
  refine awp_ret ?_
  refine ends_ret (by simp [go_sem] <;> rfl) (by simp [go_sem]) ?_
  exact ⟨by simp [go_sem, rfindS, hli], by simp [go_sem]⟩

set_option maxHeartbeats 1000000 in
theorem c_rNamed (n : Int) (h0 : -9223372036854775808 ≤ n) (h1 : n ≤ 9223372036854775807) : Pur Tryz.prog (GL kr) 87 [.pv (.int .i64 n)] (.pv (.str (namedB n))) := by
 have hcat : 2 + (itoaB n).size ≤ 9223372036854775807 := by have := itoaB_size h0 h1; omega
 refine pur_of fun σ hgl => ?_
 refine acalls_of tyOk Tryz.func87 rfl (by simp [Tryz.f87]) ?_
 refine awp_seq (aR (by simp [go_sem, hcat] <;> rfl) ?_)
 refine awp_seq (awp_reg ?_)
 refine aL 1 (by simp [go_sem, hcat] <;> rfl) ?_
 refine aF call89 ((c_Itoa n h0 h1) _ (by exact hgl)) (by simp [go_sem, hcat] <;> rfl) (by simp [go_sem, hcat]) ?_
 refine aL 2 (by simp [go_sem, hcat] <;> rfl) ?_
 refine al_nil ?_
 refine awp_ret ?_
 refine ends_ret (by simp [go_sem, hcat] <;> rfl) (by simp [go_sem]) ?_
 exact ⟨by simp [go_sem, hcat, namedB], by simp [go_sem]⟩

set_option maxHeartbeats 1000000 in
theorem c_rwith (env : List ByteArray) (hl : env.length ≤ 1000000000) (s : ByteArray) : Pur Tryz.prog (GL kr) 136 [.pv (encR env), .pv (.str s)] (.pv (encR (env ++ [s]))) := by
 have hnsl := newS_length env
 have hns := newS_snoc env s
 have hb1 : env.length * 16 ≤ 140737488355328 := by omega
 have hb2 : (env.length + 1) * 16 ≤ 140737488355328 := by omega
 refine pur_of fun σ hgl => ?_
 refine acalls_of tyOk Tryz.func136 rfl (by simp [Tryz.f136]) ?_
 refine awp_seq (aR (by simp [go_sem, encR, hb1, hb2, hnsl, allSz_str] <;> rfl) ?_)
 refine awp_seq (awp_regDP tyOk tySz 14 (by kernel_rfl) (by decide) ?_)
 refine ul_run 14 (by simp [go_sem, encR, hb1, hb2, hnsl, allSz_str] <;> rfl) ?_
 refine ul_nil ?_
 refine aF call87 ((c_rNamed (env.length : Nat) (by omega) (by omega)) _ (by exact hgl)) (by simp [go_sem, encR, hb1, hb2, hnsl, allSz_str] <;> rfl) (by simp [go_sem, encR, hb1, hb2, hnsl, allSz_str]) ?_
 refine aL 4 (by simp [go_sem, encR, hb1, hb2, hnsl, allSz_str] <;> rfl) ?_
 refine al_nil ?_
 refine awp_ret ?_
 refine ends_ret (by simp [go_sem] <;> rfl) (by simp [go_sem]) ?_
 exact ⟨by simp [go_sem, encR, hns], by simp [go_sem]⟩

set_option maxHeartbeats 1000000 in
theorem c_rplain0 (d : D) : ∀ (hg : GoodM d) (env : List ByteArray) (hb : env.length + 3 * d.size ≤ 1000000000), Pur Tryz.prog (GL kr) 85 [.pv (enc d), .pv (encR env)] (.tuple [.pv (enc (mren d (env))), .pv (.int .i64 ((mmost d (env) : Nat) : Int))]) := by
 induction d using D.ind with
 | _ kind num text kids ih =>
 generalize hD : D.mk kind num text kids = d at *
 have hk : d.kids = kids := by rw [← hD]; rfl
 clear hD
 subst hk
 have hkl := D.kids_length_lt d
 intro hg env hb
 have hki := hg.kids_inner
 have hd1 := D.size_pos d
 have hwq := hg.word_is (w := sQuote) (by decide)
 have hwf := hg.word_is (w := sFn) (by decide)
 have hwl := hg.word_is (w := sLet) (by decide)
 refine pur_of fun σ hgl => ?_
 refine acalls_of tyOk Tryz.func85 rfl (by simp [Tryz.f85]) ?_
 refine awp_seq (aR (by simp [go_sem, encR] <;> rfl) ?_)
 refine awp_seq (awp_seq (aR (by simp [go_sem, encR] <;> rfl) ?_))
 refine awp_cond (by first | rfl | (simp [go_sem, encR] <;> rfl)) (fun h0 => ?_) (fun h0 => ?_)
 ·have hk2 : d.kind = 2 := by simpa using h0
  obtain ⟨hM, hMm⟩ := mren_sym hg hk2 env
  refine awp_seq (awp_reg ?_)
  refine aL 3 (by simp [go_sem, encR] <;> rfl) ?_
  refine aF call135 ((c_rfind env (by omega) d.text) _ (by exact hgl)) (by simp [go_sem, encR] <;> rfl) (by simp [go_sem, encR]) ?_
  refine aL 5 (by simp [go_sem, encR] <;> rfl) ?_
  refine al_nil ?_
  refine awp_seq (awp_regDX tyOk tySz 6 [2] false (by kernel_rfl) (by decide) ?_)
  refine ul_run 1 (by simp [go_sem, encR] <;> rfl) ?_
  refine ul_fn (by first | (intro _ _ hh; exact hh) | simp [go_sem]) rfl rfl rfl rfl (by simp [go_sem, encR] <;> rfl) call88 ((c_Sym01 (rfindS env d.text)) _ (by exact hgl)) (by simp [go_sem, encR] <;> rfl) (by simp [go_sem, encR]) rfl rfl ?_
  refine ul_run 4 (by simp [go_sem, encR] <;> rfl) ?_
  refine ul_nil ?_
  refine aL 1 (by simp [go_sem, encR] <;> rfl) ?_
  refine al_nil ?_
  refine awp_ret ?_
  refine then_ret ?_
  refine ends_ret (by simp [go_sem] <;> rfl) (by simp [go_sem]) ?_
  exact ⟨by simp [go_sem, hM, hMm, enc_sym, dsym], by simp [go_sem]⟩
 ·refine awp_skip ?_
  refine awp_seq (awp_seq (awp_reg ?_))
  refine aL 4 (by simp [go_sem, encR] <;> rfl) ?_
  refine al_splitT 34 (by first | rfl | (simp [go_sem, encR] <;> rfl)) (fun h1 => ?_) (fun h1 => ?_)
  ·have hk1 : d.kind = 1 := by simpa using h1
   obtain ⟨hM, hMm⟩ := mren_num hk1 env
   refine aK 3 34 false ?_
   refine aL 1 (by simp [go_sem, encR] <;> rfl) ?_
   refine al_nil ?_
   refine awp_cond (b := true) (by simp [go_sem, encR, h0, h1]) (fun h => ?_) (fun h => ?_)
   rotate_left
   ·cases h
   refine awp_seq (awp_regDX tyOk tySz 5 [2] false (by kernel_rfl) (by decide) ?_)
   refine ul_run 5 (by simp [go_sem, encR] <;> rfl) ?_
   refine ul_nil ?_
   refine aL 1 (by simp [go_sem, encR] <;> rfl) ?_
   refine al_nil ?_
   refine awp_ret ?_
   refine then_ret ?_
   refine ends_ret (by simp [go_sem] <;> rfl) (by simp [go_sem]) ?_
   exact ⟨by simp [go_sem, hM, hMm], by simp [go_sem]⟩
  ·refine aLG 1 34 false (by simp [go_sem, encR] <;> rfl) ?_
   refine al_fnG 34 false false (by simp [go_sem]) rfl (by simp [go_sem]) rfl rfl (by simp [go_sem, encR] <;> rfl) call70 ((c_Word d) _ (by exact hgl)) (by simp [go_sem, encR] <;> rfl) (by simp [go_sem, encR]) rfl rfl ?_
   refine aLG 1 34 false (by simp [go_sem, encR] <;> rfl) ?_
   refine aL 1 (by simp [go_sem, encR] <;> rfl) ?_
   refine al_nil ?_
   refine awp_cond (by first | rfl | (simp [go_sem, encR] <;> rfl)) (fun h2 => ?_) (fun h2 => ?_)
   ·obtain ⟨hM, hMm⟩ := mren_quote (hwq.symm.trans h2) env
    refine awp_seq (awp_regDX tyOk tySz 5 [2] false (by kernel_rfl) (by decide) ?_)
    refine ul_run 5 (by simp [go_sem, encR] <;> rfl) ?_
    refine ul_nil ?_
    refine aL 1 (by simp [go_sem, encR] <;> rfl) ?_
    refine al_nil ?_
    refine awp_ret ?_
    refine then_ret ?_
    refine ends_ret (by simp [go_sem] <;> rfl) (by simp [go_sem]) ?_
    exact ⟨by simp [go_sem, hM, hMm], by simp [go_sem]⟩
   ·have hnq : isW d sQuote = false := hwq.symm.trans h2
    have hk3 : d.kind = 3 := by rcases hg.kind with h | ⟨h, _⟩ | h <;> simp_all
    have hq : d.head.text ≠ sQuote := isW_ne hk3 hnq
    obtain ⟨x0, r0, hx0⟩ := kids_cons (hg.ne hk3)
    have hh := head_cons hx0
    have hk0 : d.kids[0]? = some d.head := by rw [hh, hx0]; rfl
    have hML := mren_list hk3 hq env
    obtain ⟨out0, hout0⟩ : ∃ z, z = d.head :: (newN d env.length).map dsym := ⟨_, rfl⟩
    rw [← hout0] at hML
    have hwn : IntKind.i64.wrap ((env.length : Int) + 1) = (env.length : Int) + 1 := wrap_id (by omega) (by omega)
    have hme := mmost_le (d := d) env
    have hlm := mmost_ge (d := d) (env := env)
    have hil := inner_len d
    refine awp_skip ?_
    refine awp_seq (aR (by simp [go_sem, encR, hk0, hwn] <;> rfl) ?_)
    refine awp_seq (aR (by simp [go_sem, encR, hk0, hwn] <;> rfl) ?_)
    refine awp_seq (aR (by simp [go_sem, encR, hk0, hwn] <;> rfl) ?_)
    refine awp_seq (awp_seq (awp_reg ?_))
    refine aL 1 (by simp [go_sem, encR, hk0, hwn] <;> rfl) ?_
    refine aF call70 ((c_Word d) _ (by exact hgl)) (by simp [go_sem, encR, hk0, hwn] <;> rfl) (by simp [go_sem, encR, hk0, hwn]) ?_
    refine al_nil ?_
    refine awp_block ?_
    refine awp_seq (aR (by simp [go_sem, encR, hk0, hwn] <;> rfl) ?_)
    refine awp_cond (by first | rfl | (simp [go_sem, encR, hk0, hwn] <;> rfl)) (fun h3 => ?_) (fun h3 => ?_)
    ·have hwf1 : isW d sFn = true := hwf.symm.trans h3
     obtain ⟨f, y, b, hk1, hk2, hkids, hd1e, hd2e, hinn, _, _, _, ht⟩ := hg.fn hwf1
     have hbk : ∀ k, bnd d k = [f.text, y.text] := fun k => by rw [bnd_fn hwf1, hd1e, hd2e]
     have hnw := newN_2 (d := d) (by rw [ht]; rfl) env.length
     have hO : out0.map enc = [enc d.head, enc (dsym (namedB (env.length : Nat))), enc (dsym (namedB ((env.length + 1 : Nat) : Int)))] := by rw [hout0, hnw]; rfl
     have hol : out0.length = 3 := by rw [hout0, hnw]; rfl
     obtain ⟨e1, he1⟩ : ∃ z, z = env ++ [f.text] := ⟨_, rfl⟩
     obtain ⟨e2, he2⟩ : ∃ z, z = e1 ++ [y.text] := ⟨_, rfl⟩
     have hl1 : e1.length = env.length + 1 := by rw [he1]; simp
     have hW1 : Pur Tryz.prog (GL kr) 136 [.pv (encR env), .pv (.str f.text)] (.pv (encR e1)) := by rw [he1]; exact c_rwith env (by omega) f.text
     have hW2 : Pur Tryz.prog (GL kr) 136 [.pv (encR e1), .pv (.str y.text)] (.pv (encR e2)) := by rw [he2]; exact c_rwith e1 (by omega) y.text
     have hnl : isW d sLet = false := by unfold isW; rw [ht]; simp [show decide (sFn = sLet) = false by decide]
     have hwln : decide (word d = ⟨#[108, 101, 116]⟩) = false := hwl.trans hnl
     refine awp_seq (awp_regDP tyOk tySz 6 (by kernel_rfl) (by decide) ?_)
     refine ul_run 6 (by simp [go_sem, encR, hk0, hwn, hk1, hk2] <;> rfl) ?_
     refine ul_nil ?_
     refine aF call136 ((hW1) _ (by exact hgl)) (by simp [go_sem, encR, hk0, hwn, hk1, hk2] <;> rfl) (by simp [go_sem, encR, hk0, hwn, hk1, hk2]) ?_
     refine aL 1 (by simp [go_sem, encR, hk0, hwn, hk1, hk2] <;> rfl) ?_
     refine al_nil ?_
     refine awp_seq (awp_regDP tyOk tySz 6 (by kernel_rfl) (by decide) ?_)
     refine ul_run 6 (by simp [go_sem, encR, hk0, hwn, hk1, hk2] <;> rfl) ?_
     refine ul_nil ?_
     refine aF call136 ((hW2) _ (by exact hgl)) (by simp [go_sem, encR, hk0, hwn, hk1, hk2] <;> rfl) (by simp [go_sem, encR, hk0, hwn, hk1, hk2]) ?_
     refine aL 1 (by simp [go_sem, encR, hk0, hwn, hk1, hk2] <;> rfl) ?_
     refine al_nil ?_
     refine awp_regDC tyOk tySz 15 (by kernel_rfl) (by decide) ?_
     refine ul_run 7 (by simp [go_sem, encR, hk0, hwn, hk1, hk2] <;> rfl) ?_
     refine ul_fn (by first | (intro _ _ hh; exact hh) | simp [go_sem]) rfl rfl rfl rfl (by simp [go_sem, encR, hk0, hwn, hk1, hk2] <;> rfl) call87 ((c_rNamed (env.length : Nat) (by omega) (by omega)) _ (by exact hgl)) (by simp [go_sem, encR, hk0, hwn, hk1, hk2] <;> rfl) (by simp [go_sem, encR, hk0, hwn, hk1, hk2]) rfl rfl ?_
     refine ul_fn (by first | (intro _ _ hh; exact hh) | simp [go_sem]) rfl rfl rfl rfl (by simp [go_sem, encR, hk0, hwn, hk1, hk2] <;> rfl) call88 ((c_Sym01 (namedB (env.length : Nat))) _ (by exact hgl)) (by simp [go_sem, encR, hk0, hwn, hk1, hk2] <;> rfl) (by simp [go_sem, encR, hk0, hwn, hk1, hk2]) rfl rfl ?_
     refine ul_run 4 (by simp [go_sem, encR, hk0, hwn, hk1, hk2] <;> rfl) ?_
     refine ul_fn (by first | (intro _ _ hh; exact hh) | simp [go_sem]) rfl rfl rfl rfl (by simp [go_sem, encR, hk0, hwn, hk1, hk2] <;> rfl) call87 ((c_rNamed ((env.length + 1 : Nat) : Int) (by omega) (by omega)) _ (by exact hgl)) (by simp [go_sem, encR, hk0, hwn, hk1, hk2] <;> rfl) (by simp [go_sem, encR, hk0, hwn, hk1, hk2, hwn]) rfl rfl ?_
     refine ul_fn (by first | (intro _ _ hh; exact hh) | simp [go_sem]) rfl rfl rfl rfl (by simp [go_sem, encR, hk0, hwn, hk1, hk2] <;> rfl) call88 ((c_Sym01 (namedB ((env.length + 1 : Nat) : Int))) _ (by exact hgl)) (by simp [go_sem, encR, hk0, hwn, hk1, hk2] <;> rfl) (by simp [go_sem, encR, hk0, hwn, hk1, hk2]) rfl rfl ?_
     refine ul_nil ?_
     refine aL 2 (by simp [go_sem, encR, hk0, hwn, hk1, hk2] <;> rfl) ?_
     refine al_nil ?_
     refine awp_seq (awp_reg ?_)
     refine aL 1 (by simp [go_sem, encR, hk0, hwn, hk1, hk2] <;> rfl) ?_
     refine aF call69 ((c_Kids d hg.form_ok) _ (by exact hgl)) (by simp [go_sem, encR, hk0, hwn, hk1, hk2] <;> rfl) (by simp [go_sem, encR, hk0, hwn, hk1, hk2]) ?_
     refine aL 1 (by simp [go_sem, encR, hk0, hwn, hk1, hk2, hki] <;> rfl) ?_
     refine al_nil ?_
     refine awp_seq (awp_seq (aR (by simp [go_sem, encR, hk0, hwn, hk1, hk2, hki] <;> rfl) ?_))
     refine awp_adopt' 8 24 4 (by simp [go_sem] <;> rfl) ?_
     refine awp_block ?_
     refine awp_loop_headK σ.objs.length (σ.toks.length + 1) 4 [2, 3, 4, 5, 10, 11] (fun k : Nat => [(8, .acc (out0.map enc ++ ((mapI (fun i x => mren x (env ++ bnd d i)) (inner d)).map enc).take k) σ.toks.length), (9, .pv (.int .i64 ((mostK d env k : Nat) : Int))), (12, .pv (.int .i64 ↑k))]) (fun k => { σ with toks := σ.toks ++ [⟨out0.length + k, 24, 4⟩] }) (fun k => k ≤ (inner d).length) (fun k => (inner d).length - k) 0 (Nat.zero_le _) ⟨by simp [go_sem, encR, hk0, hwn, hk1, hk2, hki, hO, hol, mostK_zero], rfl, by simp, by simp, by simp [go_sem, encR, hk0, hwn, hk1, hk2, hki, hO, hol, mostK_zero], fun ob h => .inl (by simpa [go_sem, encR, hk0, hwn, hk1, hk2, hki, hO, hol, mostK_zero] using h), by simp [go_sem]⟩ ?_
     intro k hk
     refine awp_seq (awp_seq (aR (by simp [go_sem, encR, hk0, hwn, hk1, hk2, hki] <;> rfl) ?_))
     refine awp_cond (by first | rfl | (simp [go_sem, encR, hk0, hwn, hk1, hk2, hki] <;> rfl)) (fun h4 => ?_) (fun h4 => ?_)
     ·have hlt : k < (inner d).length := by simp at h4; omega
      have hw : IntKind.i64.wrap (↑k + 1) = (k : Int) + 1 := wrap_succ (by omega)
      obtain ⟨x, hx, hxm⟩ := get_lt hlt
      have hbl := bnd_len d k
      have hih : ∀ e' : List ByteArray, e' = env ++ bnd d k → Pur Tryz.prog (GL kr) 85 [.pv (enc x), .pv (encR e')] (.tuple [.pv (enc (mren x (env ++ bnd d k))), .pv (.int .i64 ((mmost x (env ++ bnd d k) : Nat) : Int))]) := fun e' he => by subst he; exact ih x (inner_mem hxm) (hg.part hxm) (env ++ bnd d k) (by have := D.size_kid_lt (inner_mem hxm); rw [List.length_append]; omega)
      have hmx := mostK_next (env := env) hx
      have hmn : ((mapI (fun i x => mren x (env ++ bnd d i)) (inner d)).map enc).take (k + 1) = ((mapI (fun i x => mren x (env ++ bnd d i)) (inner d)).map enc).take k ++ [enc (mren x (env ++ bnd d k))] := take_next (by rw [List.getElem?_map, mapI_get, hx]; rfl)
      have hm : min k (inner d).length = k := by omega
      have hb2 : (out0.length + k + 1) * 56 ≤ 140737488355328 := by rw [hol]; omega
      refine awp_skip ?_
      refine awp_seq (awp_block ?_)
      refine awp_seq (aR (by simp [go_sem, encR, hk0, hwn, hk1, hk2, hki, hx, hm, hb2, mapI_length, hmx, hwln] <;> rfl) ?_)
      refine awp_seq (awp_seq (awp_reg ?_))
      refine aL 1 (by simp [go_sem, encR, hk0, hwn, hk1, hk2, hki, hx, hm, hb2, mapI_length, hmx, hwln] <;> rfl) ?_
      refine aF call70 ((c_Word d) _ (by exact hgl)) (by simp [go_sem, encR, hk0, hwn, hk1, hk2, hki, hx, hm, hb2, mapI_length, hmx, hwln] <;> rfl) (by simp [go_sem, encR, hk0, hwn, hk1, hk2, hki, hx, hm, hb2, mapI_length, hmx, hwln]) ?_
      refine aL 2 (by simp [go_sem, encR, hk0, hwn, hk1, hk2, hki, hx, hm, hb2, mapI_length, hmx, hwln] <;> rfl) ?_
      refine al_splitT 110 (by first | rfl | (simp [go_sem, encR, hk0, hwn, hk1, hk2, hki, hx, hm, hb2, mapI_length, hmx, hwln] <;> rfl)) (fun h5 => ?_) (fun h5 => ?_)
      ·first | (cases h5; done) | (simp at h5; done)
      ·have hec : e2 = env ++ bnd d k := by rw [he2, he1, hbk]; simp
       refine aK 2 110 true ?_
       refine aL 1 (by simp [go_sem, encR, hk0, hwn, hk1, hk2, hki, hx, hm, hb2, mapI_length, hmx, hwln] <;> rfl) ?_
       refine al_nil ?_
       refine awp_cond (b := false) (by simp [go_sem, encR, hk0, hwn, hk1, hk2, hki, hx, hm, hb2, mapI_length, hmx, hwln, h0, h1, h2, h3, h4, h5]) (fun h => ?_) (fun h => ?_)
       ·cases h
       refine awp_skip ?_
       refine awp_seq (awp_regDC tyOk tySz 11 (by kernel_rfl) (by decide) ?_)
       refine ul_run 5 (by simp [go_sem, encR, hk0, hwn, hk1, hk2, hki, hx, hm, hb2, mapI_length, hmx, hwln] <;> rfl) ?_
       refine ul_fn (by first | (intro _ _ hh; exact hh) | simp [go_sem]) rfl rfl rfl rfl (by simp [go_sem, encR, hk0, hwn, hk1, hk2, hki, hx, hm, hb2, mapI_length, hmx, hwln] <;> rfl) call85 ((hih _ hec) _ (by exact hgl)) (by simp [go_sem, encR, hk0, hwn, hk1, hk2, hki, hx, hm, hb2, mapI_length, hmx, hwln] <;> rfl) (by simp [go_sem, encR, hk0, hwn, hk1, hk2, hki, hx, hm, hb2, mapI_length, hmx, hwln]) rfl rfl ?_
       refine ul_run 5 (by simp [go_sem, encR, hk0, hwn, hk1, hk2, hki, hx, hm, hb2, mapI_length, hmx, hwln] <;> rfl) ?_
       refine ul_nil ?_
       refine aL 1 (by simp [go_sem, encR, hk0, hwn, hk1, hk2, hki, hx, hm, hb2, mapI_length, hmx, hwln] <;> rfl) ?_
       refine al_nil ?_
       refine aR (by simp [go_sem, encR, hk0, hwn, hk1, hk2, hki, hx, hm, hb2, mapI_length, hmx, hwln] <;> rfl) ?_
       refine aR (by simp [go_sem, encR, hk0, hwn, hk1, hk2, hki, hx, hm, hb2, mapI_length, hmx, hwln] <;> rfl) ?_
       exact next_intro (k + 1) σ.objs.length (σ.toks.length + 1) 4 (hlt) (by omega) ⟨by simp [go_sem, encR, hk0, hwn, hk1, hk2, hki, hx, hm, hb2, mapI_length, hmx, hwln, hw, hmn, Nat.add_assoc], rfl, by simp, by simp, by simp [go_sem, encR, hk0, hwn, hk1, hk2, hki, hx, hm, hb2, mapI_length, hmx, hwln, hw, hmn, Nat.add_assoc], fun ob h => .inl (by simpa [go_sem, encR, hk0, hwn, hk1, hk2, hki, hx, hm, hb2, mapI_length, hmx, hwln, hw, hmn, Nat.add_assoc] using h), by simp [go_sem]⟩
     ·have hke : k = (inner d).length := by simp at h4; omega
      subst hke
      have hma : ((mapI (fun i x => mren x (env ++ bnd d i)) (inner d)).map enc).take (inner d).length = (mapI (fun i x => mren x (env ++ bnd d i)) (inner d)).map enc := List.take_of_length_le (by simp [mapI_length])
      have hmm := mostK_all (d := d) (env := env)
      refine awp_exit ?_
      refine then_exit ?_
      refine then_exit ?_
      refine inBlock_hit ?_
      refine awp_seq (awp_reg ?_)
      refine aL 1 (by simp [go_sem, encR, hk0, hwn, hk1, hk2, hki, hma, hmm] <;> rfl) ?_
      refine aF call90 ((c_List01 (out0 ++ mapI (fun i x => mren x (env ++ bnd d i)) (inner d)) (by rw [List.length_append, mapI_length, hol]; have := inner_len d; omega)) _ (by exact hgl)) (by simp [go_sem, encR, hk0, hwn, hk1, hk2, hki, hma, hmm] <;> rfl) (by simp [go_sem, encR, hk0, hwn, hk1, hk2, hki, hma, hmm]) ?_
      refine aL 3 (by simp [go_sem, encR, hk0, hwn, hk1, hk2, hki, hma, hmm] <;> rfl) ?_
      refine al_nil ?_
      refine awp_ret ?_
      refine ends_ret (by simp [go_sem] <;> rfl) (by simp [go_sem]) ?_
      exact ⟨by simp [go_sem, hML], by simp [go_sem]⟩
    ·refine awp_seq ?_
     refine aR (by simp [go_sem, encR, hk0, hwn] <;> rfl) ?_
     refine awp_cond (by first | rfl | (simp [go_sem, encR, hk0, hwn] <;> rfl)) (fun h6 => ?_) (fun h6 => ?_)
     ·have hwl1 : isW d sLet = true := hwl.symm.trans h6
      obtain ⟨y, a, b, hk1, hkids, hd1e, hinn, _, _, ht⟩ := hg.lett hwl1
      have hnw := newN_1 (d := d) (by rw [ht]; rfl) env.length
      have hO : out0.map enc = [enc d.head, enc (dsym (namedB (env.length : Nat)))] := by rw [hout0, hnw]; rfl
      have hol : out0.length = 2 := by rw [hout0, hnw]; rfl
      obtain ⟨e3, he3⟩ : ∃ z, z = env ++ [y.text] := ⟨_, rfl⟩
      have hW3 : Pur Tryz.prog (GL kr) 136 [.pv (encR env), .pv (.str y.text)] (.pv (encR e3)) := by rw [he3]; exact c_rwith env (by omega) y.text
      have hwln : decide (word d = ⟨#[108, 101, 116]⟩) = true := h6
      refine awp_regDC tyOk tySz 9 (by kernel_rfl) (by decide) ?_
      refine ul_run 7 (by simp [go_sem, encR, hk0, hwn, hk1] <;> rfl) ?_
      refine ul_fn (by first | (intro _ _ hh; exact hh) | simp [go_sem]) rfl rfl rfl rfl (by simp [go_sem, encR, hk0, hwn, hk1] <;> rfl) call87 ((c_rNamed (env.length : Nat) (by omega) (by omega)) _ (by exact hgl)) (by simp [go_sem, encR, hk0, hwn, hk1] <;> rfl) (by simp [go_sem, encR, hk0, hwn, hk1]) rfl rfl ?_
      refine ul_fn (by first | (intro _ _ hh; exact hh) | simp [go_sem]) rfl rfl rfl rfl (by simp [go_sem, encR, hk0, hwn, hk1] <;> rfl) call88 ((c_Sym01 (namedB (env.length : Nat))) _ (by exact hgl)) (by simp [go_sem, encR, hk0, hwn, hk1] <;> rfl) (by simp [go_sem, encR, hk0, hwn, hk1]) rfl rfl ?_
      refine ul_nil ?_
      refine aL 2 (by simp [go_sem, encR, hk0, hwn, hk1] <;> rfl) ?_
      refine al_nil ?_
      refine awp_seq (awp_reg ?_)
      refine aL 1 (by simp [go_sem, encR, hk0, hwn, hk1] <;> rfl) ?_
      refine aF call69 ((c_Kids d hg.form_ok) _ (by exact hgl)) (by simp [go_sem, encR, hk0, hwn, hk1] <;> rfl) (by simp [go_sem, encR, hk0, hwn, hk1]) ?_
      refine aL 1 (by simp [go_sem, encR, hk0, hwn, hk1, hki] <;> rfl) ?_
      refine al_nil ?_
      refine awp_seq (awp_seq (aR (by simp [go_sem, encR, hk0, hwn, hk1, hki] <;> rfl) ?_))
      refine awp_adopt' 8 24 4 (by simp [go_sem] <;> rfl) ?_
      refine awp_block ?_
      refine awp_loop_headK σ.objs.length (σ.toks.length + 1) 4 [2, 3, 4, 5, 10, 11] (fun k : Nat => [(8, .acc (out0.map enc ++ ((mapI (fun i x => mren x (env ++ bnd d i)) (inner d)).map enc).take k) σ.toks.length), (9, .pv (.int .i64 ((mostK d env k : Nat) : Int))), (12, .pv (.int .i64 ↑k))]) (fun k => { σ with toks := σ.toks ++ [⟨out0.length + k, 24, 4⟩] }) (fun k => k ≤ (inner d).length) (fun k => (inner d).length - k) 0 (Nat.zero_le _) ⟨by simp [go_sem, encR, hk0, hwn, hk1, hki, hO, hol, mostK_zero], rfl, by simp, by simp, by simp [go_sem, encR, hk0, hwn, hk1, hki, hO, hol, mostK_zero], fun ob h => .inl (by simpa [go_sem, encR, hk0, hwn, hk1, hki, hO, hol, mostK_zero] using h), by simp [go_sem]⟩ ?_
      intro k hk
      refine awp_seq (awp_seq (aR (by simp [go_sem, encR, hk0, hwn, hk1, hki] <;> rfl) ?_))
      refine awp_cond (by first | rfl | (simp [go_sem, encR, hk0, hwn, hk1, hki] <;> rfl)) (fun h7 => ?_) (fun h7 => ?_)
      ·have hlt : k < (inner d).length := by simp at h7; omega
       have hw : IntKind.i64.wrap (↑k + 1) = (k : Int) + 1 := wrap_succ (by omega)
       obtain ⟨x, hx, hxm⟩ := get_lt hlt
       have hbl := bnd_len d k
       have hih : ∀ e' : List ByteArray, e' = env ++ bnd d k → Pur Tryz.prog (GL kr) 85 [.pv (enc x), .pv (encR e')] (.tuple [.pv (enc (mren x (env ++ bnd d k))), .pv (.int .i64 ((mmost x (env ++ bnd d k) : Nat) : Int))]) := fun e' he => by subst he; exact ih x (inner_mem hxm) (hg.part hxm) (env ++ bnd d k) (by have := D.size_kid_lt (inner_mem hxm); rw [List.length_append]; omega)
       have hmx := mostK_next (env := env) hx
       have hmn : ((mapI (fun i x => mren x (env ++ bnd d i)) (inner d)).map enc).take (k + 1) = ((mapI (fun i x => mren x (env ++ bnd d i)) (inner d)).map enc).take k ++ [enc (mren x (env ++ bnd d k))] := take_next (by rw [List.getElem?_map, mapI_get, hx]; rfl)
       have hm : min k (inner d).length = k := by omega
       have hb2 : (out0.length + k + 1) * 56 ≤ 140737488355328 := by rw [hol]; omega
       refine awp_skip ?_
       refine awp_seq (awp_block ?_)
       refine awp_seq (aR (by simp [go_sem, encR, hk0, hwn, hk1, hki, hx, hm, hb2, mapI_length, hmx, hwln] <;> rfl) ?_)
       refine awp_seq (awp_seq (awp_reg ?_))
       refine aL 1 (by simp [go_sem, encR, hk0, hwn, hk1, hki, hx, hm, hb2, mapI_length, hmx, hwln] <;> rfl) ?_
       refine aF call70 ((c_Word d) _ (by exact hgl)) (by simp [go_sem, encR, hk0, hwn, hk1, hki, hx, hm, hb2, mapI_length, hmx, hwln] <;> rfl) (by simp [go_sem, encR, hk0, hwn, hk1, hki, hx, hm, hb2, mapI_length, hmx, hwln]) ?_
       refine aL 2 (by simp [go_sem, encR, hk0, hwn, hk1, hki, hx, hm, hb2, mapI_length, hmx, hwln] <;> rfl) ?_
       refine al_splitT 110 (by first | rfl | (simp [go_sem, encR, hk0, hwn, hk1, hki, hx, hm, hb2, mapI_length, hmx, hwln] <;> rfl)) (fun h8 => ?_) (fun h8 => ?_)
       ·refine aLG 2 110 true (by simp [go_sem, encR, hk0, hwn, hk1, hki, hx, hm, hb2, mapI_length, hmx, hwln] <;> rfl) ?_
        refine aL 1 (by simp [go_sem, encR, hk0, hwn, hk1, hki, hx, hm, hb2, mapI_length, hmx, hwln] <;> rfl) ?_
        refine al_nil ?_
        refine awp_cond (by first | rfl | (simp [go_sem, encR, hk0, hwn, hk1, hki, hx, hm, hb2, mapI_length, hmx, hwln] <;> rfl)) (fun h9 => ?_) (fun h9 => ?_)
        ·have hk1e : k = 1 := by have hh := h9; simp at hh; omega
         have hec : e3 = env ++ bnd d k := by rw [he3, bnd_let hwl1, if_pos hk1e, hd1e]
         refine awp_regDP tyOk tySz 6 (by kernel_rfl) (by decide) ?_
         refine ul_run 6 (by simp [go_sem, encR, hk0, hwn, hk1, hki, hx, hm, hb2, mapI_length, hmx, hwln] <;> rfl) ?_
         refine ul_nil ?_
         refine aF call136 ((hW3) _ (by exact hgl)) (by simp [go_sem, encR, hk0, hwn, hk1, hki, hx, hm, hb2, mapI_length, hmx, hwln] <;> rfl) (by simp [go_sem, encR, hk0, hwn, hk1, hki, hx, hm, hb2, mapI_length, hmx, hwln]) ?_
         refine aL 1 (by simp [go_sem, encR, hk0, hwn, hk1, hki, hx, hm, hb2, mapI_length, hmx, hwln] <;> rfl) ?_
         refine al_nil ?_
         refine awp_seq (awp_regDC tyOk tySz 11 (by kernel_rfl) (by decide) ?_)
         refine ul_run 5 (by simp [go_sem, encR, hk0, hwn, hk1, hki, hx, hm, hb2, mapI_length, hmx, hwln] <;> rfl) ?_
         refine ul_fn (by first | (intro _ _ hh; exact hh) | simp [go_sem]) rfl rfl rfl rfl (by simp [go_sem, encR, hk0, hwn, hk1, hki, hx, hm, hb2, mapI_length, hmx, hwln] <;> rfl) call85 ((hih _ hec) _ (by exact hgl)) (by simp [go_sem, encR, hk0, hwn, hk1, hki, hx, hm, hb2, mapI_length, hmx, hwln] <;> rfl) (by simp [go_sem, encR, hk0, hwn, hk1, hki, hx, hm, hb2, mapI_length, hmx, hwln]) rfl rfl ?_
         refine ul_run 5 (by simp [go_sem, encR, hk0, hwn, hk1, hki, hx, hm, hb2, mapI_length, hmx, hwln] <;> rfl) ?_
         refine ul_nil ?_
         refine aL 1 (by simp [go_sem, encR, hk0, hwn, hk1, hki, hx, hm, hb2, mapI_length, hmx, hwln] <;> rfl) ?_
         refine al_nil ?_
         refine aR (by simp [go_sem, encR, hk0, hwn, hk1, hki, hx, hm, hb2, mapI_length, hmx, hwln] <;> rfl) ?_
         refine aR (by simp [go_sem, encR, hk0, hwn, hk1, hki, hx, hm, hb2, mapI_length, hmx, hwln] <;> rfl) ?_
         exact next_intro (k + 1) σ.objs.length (σ.toks.length + 1) 4 (hlt) (by omega) ⟨by simp [go_sem, encR, hk0, hwn, hk1, hki, hx, hm, hb2, mapI_length, hmx, hwln, hw, hmn, Nat.add_assoc], rfl, by simp, by simp, by simp [go_sem, encR, hk0, hwn, hk1, hki, hx, hm, hb2, mapI_length, hmx, hwln, hw, hmn, Nat.add_assoc], fun ob h => .inl (by simpa [go_sem, encR, hk0, hwn, hk1, hki, hx, hm, hb2, mapI_length, hmx, hwln, hw, hmn, Nat.add_assoc] using h), by simp [go_sem]⟩
        ·have hk1e : ¬ k = 1 := by have hh := h9; simp at hh; omega
         have hec : env = env ++ bnd d k := by rw [bnd_let hwl1, if_neg hk1e]; simp
         refine awp_skip ?_
         refine awp_seq (awp_regDC tyOk tySz 11 (by kernel_rfl) (by decide) ?_)
         refine ul_run 5 (by simp [go_sem, encR, hk0, hwn, hk1, hki, hx, hm, hb2, mapI_length, hmx, hwln] <;> rfl) ?_
         refine ul_fn (by first | (intro _ _ hh; exact hh) | simp [go_sem]) rfl rfl rfl rfl (by simp [go_sem, encR, hk0, hwn, hk1, hki, hx, hm, hb2, mapI_length, hmx, hwln] <;> rfl) call85 ((hih _ hec) _ (by exact hgl)) (by simp [go_sem, encR, hk0, hwn, hk1, hki, hx, hm, hb2, mapI_length, hmx, hwln] <;> rfl) (by simp [go_sem, encR, hk0, hwn, hk1, hki, hx, hm, hb2, mapI_length, hmx, hwln]) rfl rfl ?_
         refine ul_run 5 (by simp [go_sem, encR, hk0, hwn, hk1, hki, hx, hm, hb2, mapI_length, hmx, hwln] <;> rfl) ?_
         refine ul_nil ?_
         refine aL 1 (by simp [go_sem, encR, hk0, hwn, hk1, hki, hx, hm, hb2, mapI_length, hmx, hwln] <;> rfl) ?_
         refine al_nil ?_
         refine aR (by simp [go_sem, encR, hk0, hwn, hk1, hki, hx, hm, hb2, mapI_length, hmx, hwln] <;> rfl) ?_
         refine aR (by simp [go_sem, encR, hk0, hwn, hk1, hki, hx, hm, hb2, mapI_length, hmx, hwln] <;> rfl) ?_
         exact next_intro (k + 1) σ.objs.length (σ.toks.length + 1) 4 (hlt) (by omega) ⟨by simp [go_sem, encR, hk0, hwn, hk1, hki, hx, hm, hb2, mapI_length, hmx, hwln, hw, hmn, Nat.add_assoc], rfl, by simp, by simp, by simp [go_sem, encR, hk0, hwn, hk1, hki, hx, hm, hb2, mapI_length, hmx, hwln, hw, hmn, Nat.add_assoc], fun ob h => .inl (by simpa [go_sem, encR, hk0, hwn, hk1, hki, hx, hm, hb2, mapI_length, hmx, hwln, hw, hmn, Nat.add_assoc] using h), by simp [go_sem]⟩
       ·first | (cases h8; done) | (simp at h8; done)
      ·have hke : k = (inner d).length := by simp at h7; omega
       subst hke
       have hma : ((mapI (fun i x => mren x (env ++ bnd d i)) (inner d)).map enc).take (inner d).length = (mapI (fun i x => mren x (env ++ bnd d i)) (inner d)).map enc := List.take_of_length_le (by simp [mapI_length])
       have hmm := mostK_all (d := d) (env := env)
       refine awp_exit ?_
       refine then_exit ?_
       refine then_exit ?_
       refine inBlock_hit ?_
       refine awp_seq (awp_reg ?_)
       refine aL 1 (by simp [go_sem, encR, hk0, hwn, hk1, hki, hma, hmm] <;> rfl) ?_
       refine aF call90 ((c_List01 (out0 ++ mapI (fun i x => mren x (env ++ bnd d i)) (inner d)) (by rw [List.length_append, mapI_length, hol]; have := inner_len d; omega)) _ (by exact hgl)) (by simp [go_sem, encR, hk0, hwn, hk1, hki, hma, hmm] <;> rfl) (by simp [go_sem, encR, hk0, hwn, hk1, hki, hma, hmm]) ?_
       refine aL 3 (by simp [go_sem, encR, hk0, hwn, hk1, hki, hma, hmm] <;> rfl) ?_
       refine al_nil ?_
       refine awp_ret ?_
       refine ends_ret (by simp [go_sem] <;> rfl) (by simp [go_sem]) ?_
       exact ⟨by simp [go_sem, hML], by simp [go_sem]⟩
     ·have hnf : isW d sFn = false := hwf.symm.trans h3
      have hnl : isW d sLet = false := hwl.symm.trans h6
      have hnw := newN_0 (d := d) (shN_op (isW_ne hk3 hnf) (isW_ne hk3 hnl)) env.length
      have hO : out0.map enc = [enc d.head] := by rw [hout0, hnw]; rfl
      have hol : out0.length = 1 := by rw [hout0, hnw]; rfl
      have hwln : decide (word d = ⟨#[108, 101, 116]⟩) = false := h6
      refine aR (by simp [go_sem, encR, hk0, hwn] <;> rfl) ?_
      refine awp_seq (awp_reg ?_)
      refine aL 1 (by simp [go_sem, encR, hk0, hwn] <;> rfl) ?_
      refine aF call69 ((c_Kids d hg.form_ok) _ (by exact hgl)) (by simp [go_sem, encR, hk0, hwn] <;> rfl) (by simp [go_sem, encR, hk0, hwn]) ?_
      refine aL 1 (by simp [go_sem, encR, hk0, hwn, hki] <;> rfl) ?_
      refine al_nil ?_
      refine awp_seq (awp_seq (aR (by simp [go_sem, encR, hk0, hwn, hki] <;> rfl) ?_))
      refine awp_adopt' 8 24 4 (by simp [go_sem] <;> rfl) ?_
      refine awp_block ?_
      refine awp_loop_headK σ.objs.length (σ.toks.length + 1) 4 [2, 3, 4, 5, 10, 11] (fun k : Nat => [(8, .acc (out0.map enc ++ ((mapI (fun i x => mren x (env ++ bnd d i)) (inner d)).map enc).take k) σ.toks.length), (9, .pv (.int .i64 ((mostK d env k : Nat) : Int))), (12, .pv (.int .i64 ↑k))]) (fun k => { σ with toks := σ.toks ++ [⟨out0.length + k, 24, 4⟩] }) (fun k => k ≤ (inner d).length) (fun k => (inner d).length - k) 0 (Nat.zero_le _) ⟨by simp [go_sem, encR, hk0, hwn, hki, hO, hol, mostK_zero], rfl, by simp, by simp, by simp [go_sem, encR, hk0, hwn, hki, hO, hol, mostK_zero], fun ob h => .inl (by simpa [go_sem, encR, hk0, hwn, hki, hO, hol, mostK_zero] using h), by simp [go_sem]⟩ ?_
      intro k hk
      refine awp_seq (awp_seq (aR (by simp [go_sem, encR, hk0, hwn, hki] <;> rfl) ?_))
      refine awp_cond (by first | rfl | (simp [go_sem, encR, hk0, hwn, hki] <;> rfl)) (fun h10 => ?_) (fun h10 => ?_)
      ·have hlt : k < (inner d).length := by simp at h10; omega
       have hw : IntKind.i64.wrap (↑k + 1) = (k : Int) + 1 := wrap_succ (by omega)
       obtain ⟨x, hx, hxm⟩ := get_lt hlt
       have hbl := bnd_len d k
       have hih : ∀ e' : List ByteArray, e' = env ++ bnd d k → Pur Tryz.prog (GL kr) 85 [.pv (enc x), .pv (encR e')] (.tuple [.pv (enc (mren x (env ++ bnd d k))), .pv (.int .i64 ((mmost x (env ++ bnd d k) : Nat) : Int))]) := fun e' he => by subst he; exact ih x (inner_mem hxm) (hg.part hxm) (env ++ bnd d k) (by have := D.size_kid_lt (inner_mem hxm); rw [List.length_append]; omega)
       have hmx := mostK_next (env := env) hx
       have hmn : ((mapI (fun i x => mren x (env ++ bnd d i)) (inner d)).map enc).take (k + 1) = ((mapI (fun i x => mren x (env ++ bnd d i)) (inner d)).map enc).take k ++ [enc (mren x (env ++ bnd d k))] := take_next (by rw [List.getElem?_map, mapI_get, hx]; rfl)
       have hm : min k (inner d).length = k := by omega
       have hb2 : (out0.length + k + 1) * 56 ≤ 140737488355328 := by rw [hol]; omega
       refine awp_skip ?_
       refine awp_seq (awp_block ?_)
       refine awp_seq (aR (by simp [go_sem, encR, hk0, hwn, hki, hx, hm, hb2, mapI_length, hmx, hwln] <;> rfl) ?_)
       refine awp_seq (awp_seq (awp_reg ?_))
       refine aL 1 (by simp [go_sem, encR, hk0, hwn, hki, hx, hm, hb2, mapI_length, hmx, hwln] <;> rfl) ?_
       refine aF call70 ((c_Word d) _ (by exact hgl)) (by simp [go_sem, encR, hk0, hwn, hki, hx, hm, hb2, mapI_length, hmx, hwln] <;> rfl) (by simp [go_sem, encR, hk0, hwn, hki, hx, hm, hb2, mapI_length, hmx, hwln]) ?_
       refine aL 2 (by simp [go_sem, encR, hk0, hwn, hki, hx, hm, hb2, mapI_length, hmx, hwln] <;> rfl) ?_
       refine al_splitT 110 (by first | rfl | (simp [go_sem, encR, hk0, hwn, hki, hx, hm, hb2, mapI_length, hmx, hwln] <;> rfl)) (fun h11 => ?_) (fun h11 => ?_)
       ·first | (cases h11; done) | (simp at h11; done)
       ·have hec : env = env ++ bnd d k := by rw [bnd_op hnf hnl]; simp
        refine aK 2 110 true ?_
        refine aL 1 (by simp [go_sem, encR, hk0, hwn, hki, hx, hm, hb2, mapI_length, hmx, hwln] <;> rfl) ?_
        refine al_nil ?_
        refine awp_cond (b := false) (by simp [go_sem, encR, hk0, hwn, hki, hx, hm, hb2, mapI_length, hmx, hwln, h0, h1, h2, h3, h6, h10, h11]) (fun h => ?_) (fun h => ?_)
        ·cases h
        refine awp_skip ?_
        refine awp_seq (awp_regDC tyOk tySz 11 (by kernel_rfl) (by decide) ?_)
        refine ul_run 5 (by simp [go_sem, encR, hk0, hwn, hki, hx, hm, hb2, mapI_length, hmx, hwln] <;> rfl) ?_
        refine ul_fn (by first | (intro _ _ hh; exact hh) | simp [go_sem]) rfl rfl rfl rfl (by simp [go_sem, encR, hk0, hwn, hki, hx, hm, hb2, mapI_length, hmx, hwln] <;> rfl) call85 ((hih _ hec) _ (by exact hgl)) (by simp [go_sem, encR, hk0, hwn, hki, hx, hm, hb2, mapI_length, hmx, hwln] <;> rfl) (by simp [go_sem, encR, hk0, hwn, hki, hx, hm, hb2, mapI_length, hmx, hwln]) rfl rfl ?_
        refine ul_run 5 (by simp [go_sem, encR, hk0, hwn, hki, hx, hm, hb2, mapI_length, hmx, hwln] <;> rfl) ?_
        refine ul_nil ?_
        refine aL 1 (by simp [go_sem, encR, hk0, hwn, hki, hx, hm, hb2, mapI_length, hmx, hwln] <;> rfl) ?_
        refine al_nil ?_
        refine aR (by simp [go_sem, encR, hk0, hwn, hki, hx, hm, hb2, mapI_length, hmx, hwln] <;> rfl) ?_
        refine aR (by simp [go_sem, encR, hk0, hwn, hki, hx, hm, hb2, mapI_length, hmx, hwln] <;> rfl) ?_
        exact next_intro (k + 1) σ.objs.length (σ.toks.length + 1) 4 (hlt) (by omega) ⟨by simp [go_sem, encR, hk0, hwn, hki, hx, hm, hb2, mapI_length, hmx, hwln, hw, hmn, Nat.add_assoc], rfl, by simp, by simp, by simp [go_sem, encR, hk0, hwn, hki, hx, hm, hb2, mapI_length, hmx, hwln, hw, hmn, Nat.add_assoc], fun ob h => .inl (by simpa [go_sem, encR, hk0, hwn, hki, hx, hm, hb2, mapI_length, hmx, hwln, hw, hmn, Nat.add_assoc] using h), by simp [go_sem]⟩
      ·have hke : k = (inner d).length := by simp at h10; omega
       subst hke
       have hma : ((mapI (fun i x => mren x (env ++ bnd d i)) (inner d)).map enc).take (inner d).length = (mapI (fun i x => mren x (env ++ bnd d i)) (inner d)).map enc := List.take_of_length_le (by simp [mapI_length])
       have hmm := mostK_all (d := d) (env := env)
       refine awp_exit ?_
       refine then_exit ?_
       refine then_exit ?_
       refine inBlock_hit ?_
       refine awp_seq (awp_reg ?_)
       refine aL 1 (by simp [go_sem, encR, hk0, hwn, hki, hma, hmm] <;> rfl) ?_
       refine aF call90 ((c_List01 (out0 ++ mapI (fun i x => mren x (env ++ bnd d i)) (inner d)) (by rw [List.length_append, mapI_length, hol]; have := inner_len d; omega)) _ (by exact hgl)) (by simp [go_sem, encR, hk0, hwn, hki, hma, hmm] <;> rfl) (by simp [go_sem, encR, hk0, hwn, hki, hma, hmm]) ?_
       refine aL 3 (by simp [go_sem, encR, hk0, hwn, hki, hma, hmm] <;> rfl) ?_
       refine al_nil ?_
       refine awp_ret ?_
       refine ends_ret (by simp [go_sem] <;> rfl) (by simp [go_sem]) ?_
       exact ⟨by simp [go_sem, hML], by simp [go_sem]⟩

set_option maxHeartbeats 1000000 in
theorem c_rPlain (d : D) (hg : GoodM d) (hd : d.size ≤ 100000000) : Pur Tryz.prog (GL kr) 38 [.pv (enc d)] (.tuple [.pv (enc (rplain d).1), .pv (.int .i64 (rplain d).2)]) := by
 obtain ⟨m, hm⟩ : ∃ z, z = mmost d [] := ⟨_, rfl⟩
 obtain ⟨F, hF⟩ : ∃ z, z = mfree d [] [] := ⟨_, rfl⟩
 have hme : m ≤ 2 * d.size := by have h := mmost_le (d := d) []; rw [← hm] at h; simpa using h
 have hFl : F.length ≤ d.size := by have h := mfree_len d [] []; rw [← hF] at h; simpa using h
 have hP : Pur Tryz.prog (GL kr) 85 [.pv (enc d), .pv (encR [])] (.tuple [.pv (enc (mren d [])), .pv (.int .i64 ((m : Nat) : Int))]) := by rw [hm]; exact c_rplain0 d hg [] (by simp; omega)
 have hFr : Pur Tryz.prog (GL kr) 13 [.pv (enc d)] (.pv (.slice (F.map .str))) := by rw [hF]; exact c_rFree d hg hd
 have henc : encR [] = .agg [.slice [], .slice []] := rfl
 refine pur_of fun σ hgl => ?_
 refine acalls_of tyOk Tryz.func38 rfl (by simp [Tryz.f38]) ?_
 refine awp_seq (aR (by simp [go_sem] <;> rfl) ?_)
 refine awp_seq (awp_reg ?_)
 refine aL 2 (by simp [go_sem] <;> rfl) ?_
 refine aF call85 ((hP) _ (by exact hgl)) (by simp [go_sem] <;> rfl) (by simp [go_sem, henc]) ?_
 refine aL 6 (by simp [go_sem] <;> rfl) ?_
 refine al_nil ?_
 refine awp_seq (awp_reg ?_)
 refine aL 1 (by simp [go_sem] <;> rfl) ?_
 refine aF call13 ((hFr) _ (by exact hgl)) (by simp [go_sem] <;> rfl) (by simp [go_sem]) ?_
 refine aL 1 (by simp [go_sem] <;> rfl) ?_
 refine al_nil ?_
 refine awp_seq (awp_seq (aR (by simp [go_sem] <;> rfl) ?_))
 refine awp_block ?_
 refine awp_loop_headK σ.objs.length σ.toks.length 3 [2, 3, 4, 5, 6] (fun k : Nat => [(7, .pv (.int .i64 ↑k))]) (fun k => σ) (fun k => k ≤ m ∧ NotYet (fun i : Nat => memB F (namedB (i : Nat))) (List.range m) k) (fun k => m - k) 0 (⟨Nat.zero_le _, .zero⟩) ⟨by simp [go_sem], rfl, by simp, by simp, by simp [go_sem], fun ob h => .inl (by simpa [go_sem] using h), by simp [go_sem]⟩ ?_
 rintro k ⟨hk, hn⟩
 refine awp_seq (awp_seq (aR (by simp [go_sem] <;> rfl) ?_))
 refine awp_cond (by first | rfl | (simp [go_sem] <;> rfl)) (fun h0 => ?_) (fun h0 => ?_)
 ·have hlt : k < m := by simp at h0; omega
  have hw : IntKind.i64.wrap ((k : Int) + 1) = (k : Int) + 1 := wrap_succ (by omega)
  have hx : (List.range m)[k]? = some k := by simp [hlt]
  refine awp_skip ?_
  refine awp_seq (awp_block ?_)
  refine awp_seq (awp_reg ?_)
  refine aL 2 (by simp [go_sem] <;> rfl) ?_
  refine aF call87 ((c_rNamed (k : Nat) (by omega) (by omega)) _ (by exact hgl)) (by simp [go_sem] <;> rfl) (by simp [go_sem]) ?_
  refine aF call86 ((c_among F (by omega) (namedB (k : Nat))) _ (by exact hgl)) (by simp [go_sem] <;> rfl) (by simp [go_sem]) ?_
  refine al_nil ?_
  refine awp_cond (by first | rfl | (simp [go_sem] <;> rfl)) (fun h1 => ?_) (fun h1 => ?_)
  ·refine awp_seq ?_
   refine aR (by simp [go_sem] <;> rfl) ?_
   refine awp_ret ?_
   refine inBlock_ret ?_
   refine then_ret ?_
   refine then_ret ?_
   refine inBlock_ret ?_
   refine then_ret ?_
   have hcl : rclash d = true := by unfold rclash; rw [← hm, ← hF]; exact List.any_eq_true.2 ⟨k, List.mem_range.2 hlt, by simpa using h1⟩
   have hM : rplain d = (dnone, 6) := by unfold rplain; rw [if_pos hcl]
   refine ends_ret (by simp [go_sem] <;> rfl) (by simp [go_sem]) ?_
   exact ⟨by simp [go_sem, hM, enc_none], by simp [go_sem]⟩
  ·refine awp_skip ?_
   refine aR (by simp [go_sem] <;> rfl) ?_
   exact next_intro (k + 1) σ.objs.length σ.toks.length 3 (⟨hlt, hn.succ hx h1⟩) (by omega) ⟨by simp [go_sem, hw], rfl, by simp, by simp, by simp [go_sem, hw], fun ob h => .inl (by simpa [go_sem, hw] using h), by simp [go_sem]⟩
 ·have hke : k = m := by simp at h0; omega
  subst hke
  have hcl : rclash d = false := by unfold rclash; rw [← hm, ← hF]; exact NotYet.any (by simpa using hn)
  refine awp_exit ?_
  refine then_exit ?_
  refine then_exit ?_
  refine inBlock_hit ?_
  refine awp_seq (awp_seq (awp_reg ?_))
  refine aL 1 (by simp [go_sem] <;> rfl) ?_
  refine aF call47 ((c_Check01 (mren d []) (by have := mren_size hg []; omega)) _ (by exact hgl)) (by simp [go_sem] <;> rfl) (by simp [go_sem]) ?_
  refine aL 1 (by simp [go_sem] <;> rfl) ?_
  refine al_nil ?_
  refine awp_cond (by first | rfl | (simp [go_sem] <;> rfl)) (fun h2 => ?_) (fun h2 => ?_)
  ·refine awp_seq ?_
   refine aR (by simp [go_sem] <;> rfl) ?_
   refine awp_ret ?_
   refine then_ret ?_
   have hM : rplain d = (dnone, 3) := by unfold rplain; rw [hcl, if_neg (by decide), if_pos h2]
   refine ends_ret (by simp [go_sem] <;> rfl) (by simp [go_sem]) ?_
   exact ⟨by simp [go_sem, hM, enc_none], by simp [go_sem]⟩
  ·refine awp_skip ?_
   refine awp_seq (aR (by simp [go_sem] <;> rfl) ?_)
   refine awp_ret ?_
   have hM : rplain d = (mren d [], 0) := by unfold rplain; rw [hcl, if_neg (by decide), if_neg (by rw [h2]; decide)]
   refine ends_ret (by simp [go_sem] <;> rfl) (by simp [go_sem]) ?_
   exact ⟨by simp [go_sem, hM, enc_none], by simp [go_sem]⟩

end Go.Proofs.YtmpofjiokpeegaaGreatDoor

/- MultiPlains. -/
namespace Go.Proofs.YtmpofjiokpeegaaGreatDoor
open Go Go.Aw
variable {kr : KR}
theorem plain_bad {x : D} (h : (mcheck x != 0) = true) : (mplain x).1 = dnone ∧ (mplain x).2 = mcheck x := by
  unfold mplain; rw [if_pos h]; exact ⟨rfl, rfl⟩
theorem same_bad {x y : D} (h : (mcheck x != 0) = true) : (msame x y).1 = false ∧ (msame x y).2 = mcheck x := by
  unfold msame; rw [if_pos h]; exact ⟨rfl, rfl⟩
theorem same_bad2 {x y : D} (h0 : mcheck x = 0) (h : (mcheck y != 0) = true) : (msame x y).1 = false ∧ (msame x y).2 = mcheck y := by
  unfold msame; rw [h0, if_neg (by decide), if_pos h]; exact ⟨rfl, rfl⟩
theorem same_bad3 {x y : D} (h0 : mcheck x = 0) (h1 : mcheck y = 0) (h : ((mplain x).2 != 0) = true) : (msame x y).1 = false ∧ (msame x y).2 = (mplain x).2 := by
  unfold msame; rw [h0, if_neg (by decide), h1, if_neg (by decide), if_pos h]; exact ⟨rfl, rfl⟩
theorem same_fine {x y : D} (h0 : mcheck x = 0) (h1 : mcheck y = 0) (h : (mplain x).2 = 0) : (msame x y).1 = ((mplain y).2 == 0 && deq (mplain x).1 (mplain y).1) ∧ (msame x y).2 = (mplain y).2 := by
  unfold msame; rw [h0, if_neg (by decide), h1, if_neg (by decide), h, if_neg (by decide)]; exact ⟨rfl, rfl⟩

set_option maxHeartbeats 1000000 in
theorem c_MultiPlains (s t : D) (σ : Store) (hσ : σ = ⟨(GL kr), [], []⟩) : PurAt Tryz.prog σ 7 [.pv (enc s), .pv (enc t)] (.pv (.bool true)) := by
 have hgl : σ.gl = (GL kr) := by rw [hσ]
 refine purAt_of ?_
 refine acalls_of tyOk Tryz.func7 rfl (by simp [Tryz.f7]) ?_
 refine awp_seq (aR (by simp [go_sem, enc_none] <;> rfl) ?_)
 refine awp_seq (awp_regDA (os := []) tyOk tySz 4 (by kernel_rfl) (by decide) rfl rfl ?_)
 refine ul_run 1 (by simp [go_sem, enc_none] <;> rfl) ?_
 refine ul_callW (by simp [go_sem]) rfl rfl rfl rfl (by simp [go_sem, enc_none] <;> rfl) call17 (c_Cut25 s σ hgl) (by simp [go_sem, enc_none] <;> rfl) (by simp [go_sem, enc_none]) rfl rfl ⟨_, _, dnone, rfl, rfl, by simp [dnone, D.size, D.sizes]⟩ ?_
 rintro r σ1 ⟨x, rfl, hs1, hx⟩
 rw [hs1]
 clear hs1 σ1
 refine ul_run 1 (by simp [go_sem, enc_none] <;> rfl) ?_
 refine ul_callW (by simp [go_sem]) rfl rfl rfl rfl (by simp [go_sem, enc_none] <;> rfl) call17 (c_Cut25 t σ hgl) (by simp [go_sem, enc_none] <;> rfl) (by simp [go_sem, enc_none]) rfl rfl ⟨_, _, dnone, rfl, rfl, by simp [dnone, D.size, D.sizes]⟩ ?_
 rintro r σ1 ⟨y, rfl, hs1, hy⟩
 rw [hs1]
 clear hs1 σ1
 obtain ⟨e, he⟩ : ∃ z, z = mcheck x := ⟨_, rfl⟩
 obtain ⟨f, hf⟩ : ∃ z, z = mcheck y := ⟨_, rfl⟩
 obtain ⟨p, hp⟩ : ∃ z, z = (mplain x).1 := ⟨_, rfl⟩
 obtain ⟨g, hg⟩ : ∃ z, z = (mplain x).2 := ⟨_, rfl⟩
 obtain ⟨i, hi⟩ : ∃ z, z = (msame x y).1 := ⟨_, rfl⟩
 obtain ⟨h, hh⟩ : ∃ z, z = (msame x y).2 := ⟨_, rfl⟩
 have hRx : Pur Tryz.prog (GL kr) 11 [.pv (enc x)] (.pv (.int .i64 e)) := by rw [he]; exact c_rCheck x (by omega)
 have hRy : Pur Tryz.prog (GL kr) 11 [.pv (enc y)] (.pv (.int .i64 f)) := by rw [hf]; exact c_rCheck y (by omega)
 have hPx : Pur Tryz.prog (GL kr) 36 [.pv (enc x)] (.tuple [.pv (enc p), .pv (.int .i64 g)]) := by rw [hp, hg]; exact c_mPlain x (by omega)
 have hSx : Pur Tryz.prog (GL kr) 37 [.pv (enc x), .pv (enc y)] (.tuple [.pv (.bool i), .pv (.int .i64 h)]) := by rw [hi, hh]; exact c_mSame x y (by omega) (by omega)
 have hps : p.size ≤ 1000000000 := by rw [hp]; exact mplain_size (by omega)
 have hdp := deq_refl p
 refine ul_nil ?_
 refine ⟨?_, ?_⟩
 ·refine ul_run 2 (by simp [go_sem, enc_none] <;> rfl) ?_
  refine ul_nil ?_
  refine aL 2 (by simp [go_sem, enc_none] <;> rfl) ?_
  refine al_nil ?_
  refine awp_seq (awp_regDC tyOk tySz 3 (by kernel_rfl) (by decide) ?_)
  refine ul_run 1 (by simp [go_sem, enc_none] <;> rfl) ?_
  refine ul_fn (by first | (intro _ _ hh; exact hh) | simp [go_sem]) rfl rfl rfl rfl (by simp [go_sem, enc_none] <;> rfl) call11 ((hRx) _ (by exact hgl)) (by simp [go_sem, enc_none] <;> rfl) (by simp [go_sem, enc_none]) rfl rfl ?_
  refine ul_run 1 (by simp [go_sem, enc_none] <;> rfl) ?_
  refine ul_nil ?_
  refine aF call11 ((hRy) _ (by exact hgl)) (by simp [go_sem, enc_none] <;> rfl) (by simp [go_sem, enc_none]) ?_
  refine aL 2 (by simp [go_sem, enc_none] <;> rfl) ?_
  refine al_nil ?_
  refine awp_seq (awp_reg ?_)
  refine aL 1 (by simp [go_sem, enc_none] <;> rfl) ?_
  refine aF call36 ((hPx) _ (by exact hgl)) (by simp [go_sem, enc_none] <;> rfl) (by simp [go_sem, enc_none]) ?_
  refine aL 6 (by simp [go_sem, enc_none] <;> rfl) ?_
  refine al_nil ?_
  refine awp_seq (awp_reg ?_)
  refine aL 2 (by simp [go_sem, enc_none] <;> rfl) ?_
  refine aF call37 ((hSx) _ (by exact hgl)) (by simp [go_sem, enc_none] <;> rfl) (by simp [go_sem, enc_none]) ?_
  refine aL 5 (by simp [go_sem, enc_none] <;> rfl) ?_
  refine al_nil ?_
  refine awp_seq (awp_seq (aR (by simp [go_sem, enc_none] <;> rfl) ?_))
  refine awp_cond (by first | rfl | (simp [go_sem, enc_none] <;> rfl)) (fun h20 => ?_) (fun h20 => ?_)
  ·have hne : (mcheck x != 0) = true := by rw [← he]; exact h20
   obtain ⟨b1, b2⟩ := plain_bad hne
   obtain ⟨b3, b4⟩ := same_bad (y := y) hne
   have hge : g = e := by rw [hg, b2, he]
   have hhe : h = e := by rw [hh, b4, he]
   have hie : i = false := by rw [hi, b3]
   have hpd : deq p dnone = true := by rw [hp, b1]; exact deq_refl _
   refine awp_seq (awp_reg ?_)
   refine aL 4 (by simp [go_sem, enc_none, hge, hhe, hie, hpd] <;> rfl) ?_
   refine al_splitT 40 (by first | rfl | (simp [go_sem, enc_none, hge, hhe, hie, hpd] <;> rfl)) (fun h21 => ?_) (fun h21 => ?_)
   ·refine aLG 3 40 true (by simp [go_sem, enc_none, hge, hhe, hie, hpd] <;> rfl) ?_
    refine aL 2 (by simp [go_sem, enc_none, hge, hhe, hie, hpd] <;> rfl) ?_
    refine al_splitT 45 (by first | rfl | (simp [go_sem, enc_none, hge, hhe, hie, hpd] <;> rfl)) (fun h22 => ?_) (fun h22 => ?_)
    ·refine aLG 2 45 true (by simp [go_sem, enc_none, hge, hhe, hie, hpd] <;> rfl) ?_
     refine al_fnG 45 true true (by simp [go_sem]) rfl (by simp [go_sem]) rfl rfl (by simp [go_sem, enc_none, hge, hhe, hie, hpd] <;> rfl) call35 ((c_Same p hps dnone) _ (by exact hgl)) (by simp [go_sem, enc_none, hge, hhe, hie, hpd] <;> rfl) (by simp [go_sem, enc_none, hge, hhe, hie, hpd]) rfl rfl ?_
     refine aL 2 (by simp [go_sem, enc_none, hge, hhe, hie, hpd] <;> rfl) ?_
     refine al_splitT 50 (by first | rfl | (simp [go_sem, enc_none, hge, hhe, hie, hpd] <;> rfl)) (fun h23 => ?_) (fun h23 => ?_)
     ·refine aLG 2 50 true (by simp [go_sem, enc_none, hge, hhe, hie, hpd] <;> rfl) ?_
      refine aL 2 (by simp [go_sem, enc_none, hge, hhe, hie, hpd] <;> rfl) ?_
      refine al_splitT 54 (by first | rfl | (simp [go_sem, enc_none, hge, hhe, hie, hpd] <;> rfl)) (fun h24 => ?_) (fun h24 => ?_)
      ·refine al_fnG 54 true true (by simp [go_sem]) rfl (by simp [go_sem]) rfl rfl (by simp [go_sem, enc_none, hge, hhe, hie, hpd] <;> rfl) call22 (c_alive σ hσ) (by simp [go_sem, enc_none, hge, hhe, hie, hpd] <;> rfl) (by simp [go_sem, enc_none, hge, hhe, hie, hpd]) rfl rfl ?_
       refine aL 2 (by simp [go_sem, enc_none, hge, hhe, hie, hpd] <;> rfl) ?_
       refine al_nil ?_
       refine awp_ret ?_
       refine then_ret ?_
       refine ends_ret (by simp [go_sem, enc_none, hge, hhe, hie, hpd] <;> rfl) (by simp [go_sem]) ?_
       exact ⟨by simp [go_sem], by simp [go_sem]⟩
      ·first | (cases h24; done) | (simp at h24; done)
     ·first | (cases h23; done) | (simp at h23; done)
    ·first | (cases h22; done) | (simp at h22; done)
   ·first | (cases h21; done) | (simp at h21; done)
  ·have hz : mcheck x = 0 := by rw [← he]; simpa using h20
   have hgd := mcheck_good hz
   have hQx : Pur Tryz.prog (GL kr) 38 [.pv (enc x)] (.tuple [.pv (enc p), .pv (.int .i64 g)]) := by have k := c_rPlain (kr := kr) x hgd (by omega); rw [rplain_eq hz (by omega), ← hp, ← hg] at k; exact k
   refine awp_skip ?_
   refine awp_seq (awp_reg ?_)
   refine aL 1 (by simp [go_sem, enc_none, hdp] <;> rfl) ?_
   refine aF call38 ((hQx) _ (by exact hgl)) (by simp [go_sem, enc_none, hdp] <;> rfl) (by simp [go_sem, enc_none, hdp]) ?_
   refine aL 6 (by simp [go_sem, enc_none, hdp] <;> rfl) ?_
   refine al_nil ?_
   refine awp_seq (awp_seq (awp_reg ?_))
   refine aL 4 (by simp [go_sem, enc_none, hdp] <;> rfl) ?_
   refine al_splitT 65 (by first | rfl | (simp [go_sem, enc_none, hdp] <;> rfl)) (fun h25 => ?_) (fun h25 => ?_)
   ·first | (cases h25; done) | (simp at h25; done)
   ·refine aLG 2 65 false (by simp [go_sem, enc_none, hdp] <;> rfl) ?_
    refine al_fnG 65 false false (by simp [go_sem]) rfl (by simp [go_sem]) rfl rfl (by simp [go_sem, enc_none, hdp] <;> rfl) call35 ((c_Same p hps p) _ (by exact hgl)) (by simp [go_sem, enc_none, hdp] <;> rfl) (by simp [go_sem, enc_none, hdp]) rfl rfl ?_
    refine aLG 1 65 false (by simp [go_sem, enc_none, hdp] <;> rfl) ?_
    refine aL 1 (by simp [go_sem, enc_none, hdp] <;> rfl) ?_
    refine al_nil ?_
    refine awp_cond (by first | rfl | (simp [go_sem, enc_none, hdp] <;> rfl)) (fun h26 => ?_) (fun h26 => ?_)
    ·first | (cases h26; done) | (simp at h26; done)
    ·refine awp_skip ?_
     refine awp_seq (awp_seq (aR (by simp [go_sem, enc_none, hdp] <;> rfl) ?_))
     refine awp_cond (by first | rfl | (simp [go_sem, enc_none, hdp] <;> rfl)) (fun h27 => ?_) (fun h27 => ?_)
     ·have hz2 : mcheck y = 0 := by rw [← hf]; simpa using h27
      have hgd2 := mcheck_good hz2
      obtain ⟨p2, hp2⟩ : ∃ z, z = (mplain y).1 := ⟨_, rfl⟩
      obtain ⟨g2, hg2⟩ : ∃ z, z = (mplain y).2 := ⟨_, rfl⟩
      have hQy : Pur Tryz.prog (GL kr) 38 [.pv (enc y)] (.tuple [.pv (enc p2), .pv (.int .i64 g2)]) := by have k := c_rPlain (kr := kr) y hgd2 (by omega); rw [rplain_eq hz2 (by omega), ← hp2, ← hg2] at k; exact k
      obtain ⟨q, hq⟩ : ∃ z, z = deq p p2 := ⟨_, rfl⟩
      have hSd : Pur Tryz.prog (GL kr) 35 [.pv (enc p), .pv (enc p2)] (.pv (.bool q)) := by rw [hq]; exact c_Same p hps p2
      refine aR (by simp [go_sem, enc_none, hdp] <;> rfl) ?_
      refine awp_seq (aR (by simp [go_sem, enc_none, hdp] <;> rfl) ?_)
      refine awp_seq (awp_seq (aR (by simp [go_sem, enc_none, hdp] <;> rfl) ?_))
      refine awp_cond (by first | rfl | (simp [go_sem, enc_none, hdp] <;> rfl)) (fun h28 => ?_) (fun h28 => ?_)
      ·have hg0 : g = 0 := by simpa using h28
       obtain ⟨b3, b4⟩ := same_fine hz hz2 (by rw [← hg]; exact hg0)
       have hhe : h = g2 := by rw [hh, b4, hg2]
       have hie : i = (g2 == 0 && q) := by rw [hi, b3, hq, hp, hp2, hg2]
       refine awp_reg ?_
       refine aL 1 (by simp [go_sem, enc_none, hdp, hhe] <;> rfl) ?_
       refine aF call38 ((hQy) _ (by exact hgl)) (by simp [go_sem, enc_none, hdp, hhe] <;> rfl) (by simp [go_sem, enc_none, hdp, hhe]) ?_
       refine aL 5 (by simp [go_sem, enc_none, hdp, hhe] <;> rfl) ?_
       refine al_nil ?_
       refine awp_seq (awp_reg ?_)
       refine aL 4 (by simp [go_sem, enc_none, hdp, hhe] <;> rfl) ?_
       refine al_splitT 85 (by first | rfl | (simp [go_sem, enc_none, hdp, hhe] <;> rfl)) (fun h29 => ?_) (fun h29 => ?_)
       ·refine aLG 4 85 true (by simp [go_sem, enc_none, hdp, hhe] <;> rfl) ?_
        refine al_splitT 89 (by first | rfl | (simp [go_sem, enc_none, hdp, hhe] <;> rfl)) (fun h30 => ?_) (fun h30 => ?_)
        ·have hg20 : g2 = 0 := by simpa using h30
         have hie2 : i = q := by rw [hie, hg20]; simp
         refine aLG 2 89 true (by simp [go_sem, enc_none, hdp, hhe, hie2] <;> rfl) ?_
         refine al_fnG 89 true true (by simp [go_sem]) rfl (by simp [go_sem]) rfl rfl (by simp [go_sem, enc_none, hdp, hhe, hie2] <;> rfl) call35 ((hSd) _ (by exact hgl)) (by simp [go_sem, enc_none, hdp, hhe, hie2] <;> rfl) (by simp [go_sem, enc_none, hdp, hhe, hie2]) rfl rfl ?_
         refine aLG 2 85 true (by simp [go_sem, enc_none, hdp, hhe, hie2] <;> rfl) ?_
         refine aL 2 (by simp [go_sem, enc_none, hdp, hhe, hie2] <;> rfl) ?_
         refine al_splitT 96 (by first | rfl | (simp [go_sem, enc_none, hdp, hhe, hie2] <;> rfl)) (fun h31 => ?_) (fun h31 => ?_)
         ·refine al_fnG 96 true true (by simp [go_sem]) rfl (by simp [go_sem]) rfl rfl (by simp [go_sem, enc_none, hdp, hhe, hie2] <;> rfl) call22 (c_alive σ hσ) (by simp [go_sem, enc_none, hdp, hhe, hie2] <;> rfl) (by simp [go_sem, enc_none, hdp, hhe, hie2]) rfl rfl ?_
          refine aL 2 (by simp [go_sem, enc_none, hdp, hhe, hie2] <;> rfl) ?_
          refine al_nil ?_
          refine awp_ret ?_
          refine ends_ret (by simp [go_sem, enc_none, hdp, hhe, hie2] <;> rfl) (by simp [go_sem]) ?_
          exact ⟨by simp [go_sem], by simp [go_sem]⟩
         ·first | (cases h31; done) | (simp at h31; done)
        ·have hie2 : i = false := by rw [hie, h30]; rfl
         refine aK 3 89 true ?_
         refine aLG 2 85 true (by simp [go_sem, enc_none, hdp, hhe, hie2] <;> rfl) ?_
         refine aL 2 (by simp [go_sem, enc_none, hdp, hhe, hie2] <;> rfl) ?_
         refine al_splitT 96 (by first | rfl | (simp [go_sem, enc_none, hdp, hhe, hie2] <;> rfl)) (fun h32 => ?_) (fun h32 => ?_)
         ·refine al_fnG 96 true true (by simp [go_sem]) rfl (by simp [go_sem]) rfl rfl (by simp [go_sem, enc_none, hdp, hhe, hie2] <;> rfl) call22 (c_alive σ hσ) (by simp [go_sem, enc_none, hdp, hhe, hie2] <;> rfl) (by simp [go_sem, enc_none, hdp, hhe, hie2]) rfl rfl ?_
          refine aL 2 (by simp [go_sem, enc_none, hdp, hhe, hie2] <;> rfl) ?_
          refine al_nil ?_
          refine awp_ret ?_
          refine ends_ret (by simp [go_sem, enc_none, hdp, hhe, hie2] <;> rfl) (by simp [go_sem]) ?_
          exact ⟨by simp [go_sem], by simp [go_sem]⟩
         ·first | (cases h32; done) | (simp at h32; done)
       ·first | (cases h29; done) | (simp at h29; done)
      ·have hgz : ¬ g = 0 := by simpa using h28
       obtain ⟨b3, b4⟩ := same_bad3 hz hz2 (by rw [← hg]; simpa using h28)
       have hhe : h = g := by rw [hh, b4, hg]
       have hie : i = false := by rw [hi, b3]
       refine awp_skip ?_
       refine awp_seq (awp_reg ?_)
       refine aL 4 (by simp [go_sem, enc_none, hdp, hhe, hie, hgz] <;> rfl) ?_
       refine al_splitT 85 (by first | rfl | (simp [go_sem, enc_none, hdp, hhe, hie, hgz] <;> rfl)) (fun h33 => ?_) (fun h33 => ?_)
       ·refine aLG 4 85 true (by simp [go_sem, enc_none, hdp, hhe, hie, hgz] <;> rfl) ?_
        refine al_splitT 89 (by first | rfl | (simp [go_sem, enc_none, hdp, hhe, hie, hgz] <;> rfl)) (fun h34 => ?_) (fun h34 => ?_)
        ·first | (cases h34; done) | (simp at h34; done) | (simp_all; done)
        ·refine aK 3 89 true ?_
         refine aLG 2 85 true (by simp [go_sem, enc_none, hdp, hhe, hie, hgz] <;> rfl) ?_
         refine aL 2 (by simp [go_sem, enc_none, hdp, hhe, hie, hgz] <;> rfl) ?_
         refine al_splitT 96 (by first | rfl | (simp [go_sem, enc_none, hdp, hhe, hie, hgz] <;> rfl)) (fun h35 => ?_) (fun h35 => ?_)
         ·refine al_fnG 96 true true (by simp [go_sem]) rfl (by simp [go_sem]) rfl rfl (by simp [go_sem, enc_none, hdp, hhe, hie, hgz] <;> rfl) call22 (c_alive σ hσ) (by simp [go_sem, enc_none, hdp, hhe, hie, hgz] <;> rfl) (by simp [go_sem, enc_none, hdp, hhe, hie, hgz]) rfl rfl ?_
          refine aL 2 (by simp [go_sem, enc_none, hdp, hhe, hie, hgz] <;> rfl) ?_
          refine al_nil ?_
          refine awp_ret ?_
          refine ends_ret (by simp [go_sem, enc_none, hdp, hhe, hie, hgz] <;> rfl) (by simp [go_sem]) ?_
          exact ⟨by simp [go_sem], by simp [go_sem]⟩
         ·first | (cases h35; done) | (simp at h35; done)
       ·first | (cases h33; done) | (simp at h33; done)
     ·have hne2 : (mcheck y != 0) = true := by rw [← hf]; simpa using h27
      obtain ⟨b3, b4⟩ := same_bad2 hz hne2
      have hhe : h = f := by rw [hh, b4, hf]
      have hie : i = false := by rw [hi, b3]
      have hfz : ¬ f = 0 := by simpa using h27
      refine awp_skip ?_
      refine awp_seq (aR (by simp [go_sem, enc_none, hdp, hhe, hie, hfz] <;> rfl) ?_)
      refine awp_seq (awp_seq (aR (by simp [go_sem, enc_none, hdp, hhe, hie, hfz] <;> rfl) ?_))
      refine awp_cond (by first | rfl | (simp [go_sem, enc_none, hdp, hhe, hie, hfz] <;> rfl)) (fun h36 => ?_) (fun h36 => ?_)
      ·first | (cases h36; done) | (simp at h36; done) | (simp_all; done)
      ·refine awp_skip ?_
       refine awp_seq (awp_reg ?_)
       refine aL 4 (by simp [go_sem, enc_none, hdp, hhe, hie, hfz] <;> rfl) ?_
       refine al_splitT 85 (by first | rfl | (simp [go_sem, enc_none, hdp, hhe, hie, hfz] <;> rfl)) (fun h37 => ?_) (fun h37 => ?_)
       ·refine aLG 4 85 true (by simp [go_sem, enc_none, hdp, hhe, hie, hfz] <;> rfl) ?_
        refine al_splitT 89 (by first | rfl | (simp [go_sem, enc_none, hdp, hhe, hie, hfz] <;> rfl)) (fun h38 => ?_) (fun h38 => ?_)
        ·first | (cases h38; done) | (simp at h38; done) | (simp_all; done)
        ·refine aK 3 89 true ?_
         refine aLG 2 85 true (by simp [go_sem, enc_none, hdp, hhe, hie, hfz] <;> rfl) ?_
         refine aL 2 (by simp [go_sem, enc_none, hdp, hhe, hie, hfz] <;> rfl) ?_
         refine al_splitT 96 (by first | rfl | (simp [go_sem, enc_none, hdp, hhe, hie, hfz] <;> rfl)) (fun h39 => ?_) (fun h39 => ?_)
         ·refine al_fnG 96 true true (by simp [go_sem]) rfl (by simp [go_sem]) rfl rfl (by simp [go_sem, enc_none, hdp, hhe, hie, hfz] <;> rfl) call22 (c_alive σ hσ) (by simp [go_sem, enc_none, hdp, hhe, hie, hfz] <;> rfl) (by simp [go_sem, enc_none, hdp, hhe, hie, hfz]) rfl rfl ?_
          refine aL 2 (by simp [go_sem, enc_none, hdp, hhe, hie, hfz] <;> rfl) ?_
          refine al_nil ?_
          refine awp_ret ?_
          refine ends_ret (by simp [go_sem, enc_none, hdp, hhe, hie, hfz] <;> rfl) (by simp [go_sem]) ?_
          exact ⟨by simp [go_sem], by simp [go_sem]⟩
         ·first | (cases h39; done) | (simp at h39; done)
       ·first | (cases h37; done) | (simp at h37; done)
 ·refine ul_run 2 (by simp [go_sem, enc_none] <;> rfl) ?_
  refine ul_nil ?_
  refine aL 2 (by simp [go_sem, enc_none] <;> rfl) ?_
  refine al_nil ?_
  refine awp_seq (awp_regDC tyOk tySz 3 (by kernel_rfl) (by decide) ?_)
  refine ul_run 1 (by simp [go_sem, enc_none] <;> rfl) ?_
  refine ul_fn (by first | (intro _ _ hh; exact hh) | simp [go_sem]) rfl rfl rfl rfl (by simp [go_sem, enc_none] <;> rfl) call11 ((hRx) _ (by exact hgl)) (by simp [go_sem, enc_none] <;> rfl) (by simp [go_sem, enc_none]) rfl rfl ?_
  refine ul_run 1 (by simp [go_sem, enc_none] <;> rfl) ?_
  refine ul_nil ?_
  refine aF call11 ((hRy) _ (by exact hgl)) (by simp [go_sem, enc_none] <;> rfl) (by simp [go_sem, enc_none]) ?_
  refine aL 2 (by simp [go_sem, enc_none] <;> rfl) ?_
  refine al_nil ?_
  refine awp_seq (awp_reg ?_)
  refine aL 1 (by simp [go_sem, enc_none] <;> rfl) ?_
  refine aF call36 ((hPx) _ (by exact hgl)) (by simp [go_sem, enc_none] <;> rfl) (by simp [go_sem, enc_none]) ?_
  refine aL 6 (by simp [go_sem, enc_none] <;> rfl) ?_
  refine al_nil ?_
  refine awp_seq (awp_reg ?_)
  refine aL 2 (by simp [go_sem, enc_none] <;> rfl) ?_
  refine aF call37 ((hSx) _ (by exact hgl)) (by simp [go_sem, enc_none] <;> rfl) (by simp [go_sem, enc_none]) ?_
  refine aL 5 (by simp [go_sem, enc_none] <;> rfl) ?_
  refine al_nil ?_
  refine awp_seq (awp_seq (aR (by simp [go_sem, enc_none] <;> rfl) ?_))
  refine awp_cond (by first | rfl | (simp [go_sem, enc_none] <;> rfl)) (fun h40 => ?_) (fun h40 => ?_)
  ·have hne : (mcheck x != 0) = true := by rw [← he]; exact h40
   obtain ⟨b1, b2⟩ := plain_bad hne
   obtain ⟨b3, b4⟩ := same_bad (y := y) hne
   have hge : g = e := by rw [hg, b2, he]
   have hhe : h = e := by rw [hh, b4, he]
   have hie : i = false := by rw [hi, b3]
   have hpd : deq p dnone = true := by rw [hp, b1]; exact deq_refl _
   refine awp_seq (awp_reg ?_)
   refine aL 4 (by simp [go_sem, enc_none, hge, hhe, hie, hpd] <;> rfl) ?_
   refine al_splitT 40 (by first | rfl | (simp [go_sem, enc_none, hge, hhe, hie, hpd] <;> rfl)) (fun h41 => ?_) (fun h41 => ?_)
   ·refine aLG 3 40 true (by simp [go_sem, enc_none, hge, hhe, hie, hpd] <;> rfl) ?_
    refine aL 2 (by simp [go_sem, enc_none, hge, hhe, hie, hpd] <;> rfl) ?_
    refine al_splitT 45 (by first | rfl | (simp [go_sem, enc_none, hge, hhe, hie, hpd] <;> rfl)) (fun h42 => ?_) (fun h42 => ?_)
    ·refine aLG 2 45 true (by simp [go_sem, enc_none, hge, hhe, hie, hpd] <;> rfl) ?_
     refine al_fnG 45 true true (by simp [go_sem]) rfl (by simp [go_sem]) rfl rfl (by simp [go_sem, enc_none, hge, hhe, hie, hpd] <;> rfl) call35 ((c_Same p hps dnone) _ (by exact hgl)) (by simp [go_sem, enc_none, hge, hhe, hie, hpd] <;> rfl) (by simp [go_sem, enc_none, hge, hhe, hie, hpd]) rfl rfl ?_
     refine aL 2 (by simp [go_sem, enc_none, hge, hhe, hie, hpd] <;> rfl) ?_
     refine al_splitT 50 (by first | rfl | (simp [go_sem, enc_none, hge, hhe, hie, hpd] <;> rfl)) (fun h43 => ?_) (fun h43 => ?_)
     ·refine aLG 2 50 true (by simp [go_sem, enc_none, hge, hhe, hie, hpd] <;> rfl) ?_
      refine aL 2 (by simp [go_sem, enc_none, hge, hhe, hie, hpd] <;> rfl) ?_
      refine al_splitT 54 (by first | rfl | (simp [go_sem, enc_none, hge, hhe, hie, hpd] <;> rfl)) (fun h44 => ?_) (fun h44 => ?_)
      ·refine al_fnG 54 true true (by simp [go_sem]) rfl (by simp [go_sem]) rfl rfl (by simp [go_sem, enc_none, hge, hhe, hie, hpd] <;> rfl) call22 (c_alive σ hσ) (by simp [go_sem, enc_none, hge, hhe, hie, hpd] <;> rfl) (by simp [go_sem, enc_none, hge, hhe, hie, hpd]) rfl rfl ?_
       refine aL 2 (by simp [go_sem, enc_none, hge, hhe, hie, hpd] <;> rfl) ?_
       refine al_nil ?_
       refine awp_ret ?_
       refine then_ret ?_
       refine ends_ret (by simp [go_sem, enc_none, hge, hhe, hie, hpd] <;> rfl) (by simp [go_sem]) ?_
       exact ⟨by simp [go_sem], by simp [go_sem]⟩
      ·first | (cases h44; done) | (simp at h44; done)
     ·first | (cases h43; done) | (simp at h43; done)
    ·first | (cases h42; done) | (simp at h42; done)
   ·first | (cases h41; done) | (simp at h41; done)
  ·have hz : mcheck x = 0 := by rw [← he]; simpa using h40
   have hgd := mcheck_good hz
   have hQx : Pur Tryz.prog (GL kr) 38 [.pv (enc x)] (.tuple [.pv (enc p), .pv (.int .i64 g)]) := by have k := c_rPlain (kr := kr) x hgd (by omega); rw [rplain_eq hz (by omega), ← hp, ← hg] at k; exact k
   refine awp_skip ?_
   refine awp_seq (awp_reg ?_)
   refine aL 1 (by simp [go_sem, enc_none, hdp] <;> rfl) ?_
   refine aF call38 ((hQx) _ (by exact hgl)) (by simp [go_sem, enc_none, hdp] <;> rfl) (by simp [go_sem, enc_none, hdp]) ?_
   refine aL 6 (by simp [go_sem, enc_none, hdp] <;> rfl) ?_
   refine al_nil ?_
   refine awp_seq (awp_seq (awp_reg ?_))
   refine aL 4 (by simp [go_sem, enc_none, hdp] <;> rfl) ?_
   refine al_splitT 65 (by first | rfl | (simp [go_sem, enc_none, hdp] <;> rfl)) (fun h45 => ?_) (fun h45 => ?_)
   ·first | (cases h45; done) | (simp at h45; done)
   ·refine aLG 2 65 false (by simp [go_sem, enc_none, hdp] <;> rfl) ?_
    refine al_fnG 65 false false (by simp [go_sem]) rfl (by simp [go_sem]) rfl rfl (by simp [go_sem, enc_none, hdp] <;> rfl) call35 ((c_Same p hps p) _ (by exact hgl)) (by simp [go_sem, enc_none, hdp] <;> rfl) (by simp [go_sem, enc_none, hdp]) rfl rfl ?_
    refine aLG 1 65 false (by simp [go_sem, enc_none, hdp] <;> rfl) ?_
    refine aL 1 (by simp [go_sem, enc_none, hdp] <;> rfl) ?_
    refine al_nil ?_
    refine awp_cond (by first | rfl | (simp [go_sem, enc_none, hdp] <;> rfl)) (fun h46 => ?_) (fun h46 => ?_)
    ·first | (cases h46; done) | (simp at h46; done)
    ·refine awp_skip ?_
     refine awp_seq (awp_seq (aR (by simp [go_sem, enc_none, hdp] <;> rfl) ?_))
     refine awp_cond (by first | rfl | (simp [go_sem, enc_none, hdp] <;> rfl)) (fun h47 => ?_) (fun h47 => ?_)
     ·have hz2 : mcheck y = 0 := by rw [← hf]; simpa using h47
      have hgd2 := mcheck_good hz2
      obtain ⟨p2, hp2⟩ : ∃ z, z = (mplain y).1 := ⟨_, rfl⟩
      obtain ⟨g2, hg2⟩ : ∃ z, z = (mplain y).2 := ⟨_, rfl⟩
      have hQy : Pur Tryz.prog (GL kr) 38 [.pv (enc y)] (.tuple [.pv (enc p2), .pv (.int .i64 g2)]) := by have k := c_rPlain (kr := kr) y hgd2 (by omega); rw [rplain_eq hz2 (by omega), ← hp2, ← hg2] at k; exact k
      obtain ⟨q, hq⟩ : ∃ z, z = deq p p2 := ⟨_, rfl⟩
      have hSd : Pur Tryz.prog (GL kr) 35 [.pv (enc p), .pv (enc p2)] (.pv (.bool q)) := by rw [hq]; exact c_Same p hps p2
      refine aR (by simp [go_sem, enc_none, hdp] <;> rfl) ?_
      refine awp_seq (aR (by simp [go_sem, enc_none, hdp] <;> rfl) ?_)
      refine awp_seq (awp_seq (aR (by simp [go_sem, enc_none, hdp] <;> rfl) ?_))
      refine awp_cond (by first | rfl | (simp [go_sem, enc_none, hdp] <;> rfl)) (fun h48 => ?_) (fun h48 => ?_)
      ·have hg0 : g = 0 := by simpa using h48
       obtain ⟨b3, b4⟩ := same_fine hz hz2 (by rw [← hg]; exact hg0)
       have hhe : h = g2 := by rw [hh, b4, hg2]
       have hie : i = (g2 == 0 && q) := by rw [hi, b3, hq, hp, hp2, hg2]
       refine awp_reg ?_
       refine aL 1 (by simp [go_sem, enc_none, hdp, hhe] <;> rfl) ?_
       refine aF call38 ((hQy) _ (by exact hgl)) (by simp [go_sem, enc_none, hdp, hhe] <;> rfl) (by simp [go_sem, enc_none, hdp, hhe]) ?_
       refine aL 5 (by simp [go_sem, enc_none, hdp, hhe] <;> rfl) ?_
       refine al_nil ?_
       refine awp_seq (awp_reg ?_)
       refine aL 4 (by simp [go_sem, enc_none, hdp, hhe] <;> rfl) ?_
       refine al_splitT 85 (by first | rfl | (simp [go_sem, enc_none, hdp, hhe] <;> rfl)) (fun h49 => ?_) (fun h49 => ?_)
       ·refine aLG 4 85 true (by simp [go_sem, enc_none, hdp, hhe] <;> rfl) ?_
        refine al_splitT 89 (by first | rfl | (simp [go_sem, enc_none, hdp, hhe] <;> rfl)) (fun h50 => ?_) (fun h50 => ?_)
        ·have hg20 : g2 = 0 := by simpa using h50
         have hie2 : i = q := by rw [hie, hg20]; simp
         refine aLG 2 89 true (by simp [go_sem, enc_none, hdp, hhe, hie2] <;> rfl) ?_
         refine al_fnG 89 true true (by simp [go_sem]) rfl (by simp [go_sem]) rfl rfl (by simp [go_sem, enc_none, hdp, hhe, hie2] <;> rfl) call35 ((hSd) _ (by exact hgl)) (by simp [go_sem, enc_none, hdp, hhe, hie2] <;> rfl) (by simp [go_sem, enc_none, hdp, hhe, hie2]) rfl rfl ?_
         refine aLG 2 85 true (by simp [go_sem, enc_none, hdp, hhe, hie2] <;> rfl) ?_
         refine aL 2 (by simp [go_sem, enc_none, hdp, hhe, hie2] <;> rfl) ?_
         refine al_splitT 96 (by first | rfl | (simp [go_sem, enc_none, hdp, hhe, hie2] <;> rfl)) (fun h51 => ?_) (fun h51 => ?_)
         ·refine al_fnG 96 true true (by simp [go_sem]) rfl (by simp [go_sem]) rfl rfl (by simp [go_sem, enc_none, hdp, hhe, hie2] <;> rfl) call22 (c_alive σ hσ) (by simp [go_sem, enc_none, hdp, hhe, hie2] <;> rfl) (by simp [go_sem, enc_none, hdp, hhe, hie2]) rfl rfl ?_
          refine aL 2 (by simp [go_sem, enc_none, hdp, hhe, hie2] <;> rfl) ?_
          refine al_nil ?_
          refine awp_ret ?_
          refine ends_ret (by simp [go_sem, enc_none, hdp, hhe, hie2] <;> rfl) (by simp [go_sem]) ?_
          exact ⟨by simp [go_sem], by simp [go_sem]⟩
         ·first | (cases h51; done) | (simp at h51; done)
        ·have hie2 : i = false := by rw [hie, h50]; rfl
         refine aK 3 89 true ?_
         refine aLG 2 85 true (by simp [go_sem, enc_none, hdp, hhe, hie2] <;> rfl) ?_
         refine aL 2 (by simp [go_sem, enc_none, hdp, hhe, hie2] <;> rfl) ?_
         refine al_splitT 96 (by first | rfl | (simp [go_sem, enc_none, hdp, hhe, hie2] <;> rfl)) (fun h52 => ?_) (fun h52 => ?_)
         ·refine al_fnG 96 true true (by simp [go_sem]) rfl (by simp [go_sem]) rfl rfl (by simp [go_sem, enc_none, hdp, hhe, hie2] <;> rfl) call22 (c_alive σ hσ) (by simp [go_sem, enc_none, hdp, hhe, hie2] <;> rfl) (by simp [go_sem, enc_none, hdp, hhe, hie2]) rfl rfl ?_
          refine aL 2 (by simp [go_sem, enc_none, hdp, hhe, hie2] <;> rfl) ?_
          refine al_nil ?_
          refine awp_ret ?_
          refine ends_ret (by simp [go_sem, enc_none, hdp, hhe, hie2] <;> rfl) (by simp [go_sem]) ?_
          exact ⟨by simp [go_sem], by simp [go_sem]⟩
         ·first | (cases h52; done) | (simp at h52; done)
       ·first | (cases h49; done) | (simp at h49; done)
      ·have hgz : ¬ g = 0 := by simpa using h48
       obtain ⟨b3, b4⟩ := same_bad3 hz hz2 (by rw [← hg]; simpa using h48)
       have hhe : h = g := by rw [hh, b4, hg]
       have hie : i = false := by rw [hi, b3]
       refine awp_skip ?_
       refine awp_seq (awp_reg ?_)
       refine aL 4 (by simp [go_sem, enc_none, hdp, hhe, hie, hgz] <;> rfl) ?_
       refine al_splitT 85 (by first | rfl | (simp [go_sem, enc_none, hdp, hhe, hie, hgz] <;> rfl)) (fun h53 => ?_) (fun h53 => ?_)
       ·refine aLG 4 85 true (by simp [go_sem, enc_none, hdp, hhe, hie, hgz] <;> rfl) ?_
        refine al_splitT 89 (by first | rfl | (simp [go_sem, enc_none, hdp, hhe, hie, hgz] <;> rfl)) (fun h54 => ?_) (fun h54 => ?_)
        ·first | (cases h54; done) | (simp at h54; done) | (simp_all; done)
        ·refine aK 3 89 true ?_
         refine aLG 2 85 true (by simp [go_sem, enc_none, hdp, hhe, hie, hgz] <;> rfl) ?_
         refine aL 2 (by simp [go_sem, enc_none, hdp, hhe, hie, hgz] <;> rfl) ?_
         refine al_splitT 96 (by first | rfl | (simp [go_sem, enc_none, hdp, hhe, hie, hgz] <;> rfl)) (fun h55 => ?_) (fun h55 => ?_)
         ·refine al_fnG 96 true true (by simp [go_sem]) rfl (by simp [go_sem]) rfl rfl (by simp [go_sem, enc_none, hdp, hhe, hie, hgz] <;> rfl) call22 (c_alive σ hσ) (by simp [go_sem, enc_none, hdp, hhe, hie, hgz] <;> rfl) (by simp [go_sem, enc_none, hdp, hhe, hie, hgz]) rfl rfl ?_
          refine aL 2 (by simp [go_sem, enc_none, hdp, hhe, hie, hgz] <;> rfl) ?_
          refine al_nil ?_
          refine awp_ret ?_
          refine ends_ret (by simp [go_sem, enc_none, hdp, hhe, hie, hgz] <;> rfl) (by simp [go_sem]) ?_
          exact ⟨by simp [go_sem], by simp [go_sem]⟩
         ·first | (cases h55; done) | (simp at h55; done)
       ·first | (cases h53; done) | (simp at h53; done)
     ·have hne2 : (mcheck y != 0) = true := by rw [← hf]; simpa using h47
      obtain ⟨b3, b4⟩ := same_bad2 hz hne2
      have hhe : h = f := by rw [hh, b4, hf]
      have hie : i = false := by rw [hi, b3]
      have hfz : ¬ f = 0 := by simpa using h47
      refine awp_skip ?_
      refine awp_seq (aR (by simp [go_sem, enc_none, hdp, hhe, hie, hfz] <;> rfl) ?_)
      refine awp_seq (awp_seq (aR (by simp [go_sem, enc_none, hdp, hhe, hie, hfz] <;> rfl) ?_))
      refine awp_cond (by first | rfl | (simp [go_sem, enc_none, hdp, hhe, hie, hfz] <;> rfl)) (fun h56 => ?_) (fun h56 => ?_)
      ·first | (cases h56; done) | (simp at h56; done) | (simp_all; done)
      ·refine awp_skip ?_
       refine awp_seq (awp_reg ?_)
       refine aL 4 (by simp [go_sem, enc_none, hdp, hhe, hie, hfz] <;> rfl) ?_
       refine al_splitT 85 (by first | rfl | (simp [go_sem, enc_none, hdp, hhe, hie, hfz] <;> rfl)) (fun h57 => ?_) (fun h57 => ?_)
       ·refine aLG 4 85 true (by simp [go_sem, enc_none, hdp, hhe, hie, hfz] <;> rfl) ?_
        refine al_splitT 89 (by first | rfl | (simp [go_sem, enc_none, hdp, hhe, hie, hfz] <;> rfl)) (fun h58 => ?_) (fun h58 => ?_)
        ·first | (cases h58; done) | (simp at h58; done) | (simp_all; done)
        ·refine aK 3 89 true ?_
         refine aLG 2 85 true (by simp [go_sem, enc_none, hdp, hhe, hie, hfz] <;> rfl) ?_
         refine aL 2 (by simp [go_sem, enc_none, hdp, hhe, hie, hfz] <;> rfl) ?_
         refine al_splitT 96 (by first | rfl | (simp [go_sem, enc_none, hdp, hhe, hie, hfz] <;> rfl)) (fun h59 => ?_) (fun h59 => ?_)
         ·refine al_fnG 96 true true (by simp [go_sem]) rfl (by simp [go_sem]) rfl rfl (by simp [go_sem, enc_none, hdp, hhe, hie, hfz] <;> rfl) call22 (c_alive σ hσ) (by simp [go_sem, enc_none, hdp, hhe, hie, hfz] <;> rfl) (by simp [go_sem, enc_none, hdp, hhe, hie, hfz]) rfl rfl ?_
          refine aL 2 (by simp [go_sem, enc_none, hdp, hhe, hie, hfz] <;> rfl) ?_
          refine al_nil ?_
          refine awp_ret ?_
          refine ends_ret (by simp [go_sem, enc_none, hdp, hhe, hie, hfz] <;> rfl) (by simp [go_sem]) ?_
          exact ⟨by simp [go_sem], by simp [go_sem]⟩
         ·first | (cases h59; done) | (simp at h59; done)
       ·first | (cases h57; done) | (simp at h57; done)

end Go.Proofs.YtmpofjiokpeegaaGreatDoor

/- The laid tables and the data of this seat, as abstract values. -/
namespace Go.Proofs.YtmpofjiokpeegaaGreatDoor
open Go Go.Aw
variable {kr : KR}
theorem dty : DatumTy Tryz.prog 24 22 3 2 9 :=
  { und := ⟨_, _, _, _, Tryz.underlying24, rfl, rfl, rfl, rfl, rfl, rfl, rfl, rfl⟩, i := Tryz.underlying3, n := Tryz.underlying2, s := Tryz.underlying9, k := Tryz.underlying22, cD := by kernel_rfl, ci := by kernel_rfl, cn := by kernel_rfl, cs := by kernel_rfl, ck := by kernel_rfl }
theorem gShapes : Tryz.prog.globalNamed "pagoda/multi.shapes" = some 0 := by kernel_rfl
theorem gPrim : Tryz.prog.globalNamed "pagoda/prim.names" = some 1 := by kernel_rfl
theorem gRange : Tryz.prog.globalNamed "strconv.ErrRange" = some 3 := by kernel_rfl
theorem gSyntax : Tryz.prog.globalNamed "strconv.ErrSyntax" = some 2 := by kernel_rfl
theorem tShapes : (Tryz.prog.globals[0]?).map (·.type) = some 131 := by kernel_rfl
theorem tPrim : (Tryz.prog.globals[1]?).map (·.type) = some 180 := by kernel_rfl
theorem tPow : (Tryz.prog.globals[4]?).map (·.type) = some 237 := by kernel_rfl
theorem tRange : (Tryz.prog.globals[3]?).map (·.type) = some 153 := by kernel_rfl
theorem tSyntax : (Tryz.prog.globals[2]?).map (·.type) = some 153 := by kernel_rfl
theorem rows_pow : (Rows.laid_internal_strconv_uint64pow10 : DataW Unit) = Lib.tabData .u64 Lib.pow10Tab := by kernel_rfl
theorem rows_range : (Rows.laid_strconv_ErrRange : DataW Unit) = .iface "*errors.errorString" (.ptr (.agg [.lit (.string [118, 97, 108, 117, 101, 32, 111, 117, 116, 32, 111, 102, 32, 114, 97, 110, 103, 101])])) := rfl
theorem rows_syntax : (Rows.laid_strconv_ErrSyntax : DataW Unit) = .iface "*errors.errorString" (.ptr (.agg [.lit (.string [105, 110, 118, 97, 108, 105, 100, 32, 115, 121, 110, 116, 97, 120])])) := rfl
def shS : List (List UInt8 × (Nat × Nat)) := [([97, 112, 112], (0, 3)), ([102, 110], (2, 4)), ([105, 102], (0, 4)), ([108, 101, 116], (1, 4)), ([108, 105, 102, 116], (0, 2)), ([113, 117, 111, 116, 101], (0, 2)), ([114, 117, 110], (0, 3)), ([115, 97, 121], (0, 2))]
theorem rows_shapes : (Rows.laid_pagoda_multi_shapes : DataW Unit) = .map (shS.map datSh) := by kernel_rfl
theorem shS_perm : shS.Perm shapesB := List.isPerm_iff.1 (by kernel_rfl)
theorem err_row (u : TypeId) (hu : Tryz.prog.typeName? 3 u = some "*errors.errorString") : u = 244 :=
  typeName_ptr_named (nm := "errors.errorString") (by kernel_rfl) (by kernel_rfl) (by decide +kernel) u hu
set_option maxRecDepth 100000 in
/-- What the row's listed variables are when the call begins. -/
theorem of_laid {W : World} (h : laidMetH Tryz.prog [("math/bits.deBruijn32tab", Rows.laid_math_bits_deBruijn32tab), ("math/bits.deBruijn64tab", Rows.laid_math_bits_deBruijn64tab), ("internal/strconv.uint64pow10", Rows.laid_internal_strconv_uint64pow10), ("strconv.ErrRange", Rows.laid_strconv_ErrRange), ("strconv.ErrSyntax", Rows.laid_strconv_ErrSyntax), ("pagoda/prim.names", Rows.laid_pagoda_prim_names), ("pagoda/multi.shapes", Rows.laid_pagoda_multi_shapes)] W) :
    ∃ kr : ShO, ∀ n p, (n, p) ∈ (GL kr) → RP W.heap.size (fun _ _ => False) W p (.pointer (some ⟨n, 0, none⟩)) := by
  rw [MakeChecks.laidMetH_plain _ _ _ (by kernel_rfl)] at h
  obtain ⟨ps, ⟨_, _, _, _, _, q6, _, _, _, _, ⟨_, _, _, _, _, q5, _, _, _, _, ⟨g2, t2, cs2, f2, p2, q2, hg2, ht2, hv2, hd2, ⟨g3, t3, cs3, f3, p3, q3, hg3, ht3, hv3, hd3, ⟨g4, t4, cs4, f4, p4, q4, hg4, ht4, hv4, hd4, ⟨g1, t1, cs1, f1, p1, q1, hg1, ht1, hv1, hd1, ⟨g0, t0, cs0, f0, p0, q0, hg0, ht0, hv0, hd0, _, _⟩, _⟩, e4⟩, e3⟩, e2⟩, e5⟩, e6⟩, _, hz⟩ := h
  obtain rfl := Option.some.inj (gShapes.symm.trans hg0)
  obtain rfl := Option.some.inj (gPrim.symm.trans hg1)
  obtain rfl := Option.some.inj (gPow.symm.trans hg2)
  obtain rfl := Option.some.inj (gRange.symm.trans hg3)
  obtain rfl := Option.some.inj (gSyntax.symm.trans hg4)
  obtain rfl := Option.some.inj (tShapes.symm.trans ht0)
  obtain rfl := Option.some.inj (tPrim.symm.trans ht1)
  obtain rfl := Option.some.inj (tPow.symm.trans ht2)
  obtain rfl := Option.some.inj (tRange.symm.trans ht3)
  obtain rfl := Option.some.inj (tSyntax.symm.trans ht4)
  rw [rows_shapes] at hd0
  obtain ⟨b, kr, hc0, hrp0⟩ := open_shapes (S := fun _ _ => False) Tryz.underlying131 Tryz.underlying9 Tryz.underlying130 Tryz.underlying3 Tryz.underlying3 rfl rfl (by kernel_rfl) (by kernel_rfl) (by kernel_rfl) hd0 shS_perm
  obtain ⟨v, hc1, hone, hrp1⟩ := open_table (S := fun _ _ => False) (L := primNames) Tryz.underlying180 Tryz.underlying181 Tryz.underlying9 Tryz.underlying3 rfl rfl (by kernel_rfl) (by kernel_rfl) (by kernel_rfl) hd1
  rw [rows_pow] at hd2
  have hc2 := Lib.cells_of_tab Tryz.underlying237 Tryz.underlying193 (by kernel_rfl) (by kernel_rfl) hd2
  have hblk : ∃ e c, W.heap[(4 : Nat)]? = some (.cells (Lib.pow10Tab.map (Value.int .u64)).toArray e c) := by
    simp only [World.var?, gPow, Option.bind_some] at hv2
    split at hv2
    · rename_i cs e c hh
      cases hv2
      refine ⟨e, c, ?_⟩
      rw [hh, ← Array.toArray_toList (xs := cs2), hc2]
    · cases hv2
  obtain ⟨e2', c2, hblk⟩ := hblk
  have hcell0 : W.cell? ⟨0, 0, none⟩ = some (.map (some b)) := by
    have := World.var?_cell hg0 hv0 0
    rw [Array.eq_one_of_toList hc0] at this
    simpa using this
  have hcell1 : W.cell? ⟨1, 0, none⟩ = some v := by
    have := World.var?_cell hg1 hv1 0
    rw [Array.eq_one_of_toList hc1] at this
    simpa using this
  have hi3 : ∀ u v, cs3.toList = [.iface u v] → W.cell? ⟨3, 0, none⟩ = some (.iface u v) := fun u v hh => by
    have := World.var?_cell hg3 hv3 0
    rw [Array.eq_one_of_toList hh] at this
    simpa using this
  have hi4 : ∀ u v, cs4.toList = [.iface u v] → W.cell? ⟨2, 0, none⟩ = some (.iface u v) := fun u v hh => by
    have := World.var?_cell hg4 hv4 0
    rw [Array.eq_one_of_toList hh] at this
    simpa using this
  have hm3 : ∀ u v, cs3.toList = [.iface u v] → MemPlace.cell 3 0 ∈ ps := fun u v hh => by
    have hs : cs3.size = 1 := by rw [Array.eq_one_of_toList hh]; rfl
    rw [e6, e5, e2, e3, hs]
    simp [MemPlace.row]
  have hm4 : ∀ u v, cs4.toList = [.iface u v] → MemPlace.cell 2 0 ∈ ps := fun u v hh => by
    have hs : cs4.size = 1 := by rw [Array.eq_one_of_toList hh]; rfl
    rw [e6, e5, e2, e3, e4, hs]
    simp [MemPlace.row]
  rw [rows_range] at hd3
  rw [rows_syntax] at hd4
  have ok3 : ∀ u v, cs3.toList = [.iface u v] → Value.okWide Tryz.prog W .any 0 u v := by
    intro u v hh
    have hzz := hz 3 0 (hm3 u v hh)
    obtain ⟨_, hzy⟩ := hzz
    exact hzy u v (hi3 u v hh)
  obtain ⟨a3, s3, hc3, ha3, _⟩ := errorString_of_trod Tryz.underlying153 err_row Tryz.underlying244 Tryz.underlying246 rfl rfl Tryz.underlying9 (by kernel_rfl) (by kernel_rfl) hd3 ok3
  have ok4 : ∀ u v, cs4.toList = [.iface u v] → Value.okWide Tryz.prog W .any 0 u v := by
    intro u v hh
    have hzz := hz 2 0 (hm4 u v hh)
    obtain ⟨_, hzy⟩ := hzz
    exact hzy u v (hi4 u v hh)
  obtain ⟨a4, s4, hc4, ha4, _⟩ := errorString_of_trod Tryz.underlying153 err_row Tryz.underlying244 Tryz.underlying246 rfl rfl Tryz.underlying9 (by kernel_rfl) (by kernel_rfl) hd4 ok4
  have hcell3 := hi3 _ _ hc3
  have hcell4 := hi4 _ _ hc4
  refine ⟨kr, fun n p hm => ?_⟩
  simp only [GL, List.cons_append, List.nil_append, List.mem_cons, Prod.mk.injEq, List.not_mem_nil, or_false] at hm
  rcases hm with ⟨rfl, rfl⟩ | ⟨rfl, rfl⟩ | ⟨rfl, rfl⟩ | ⟨rfl, rfl⟩ | ⟨rfl, rfl⟩
  · exact rp_var (cell_lt hcell0) hcell0 rfl hrp0
  · rw [primV_of] at hrp1
    exact rp_var (cell_lt hcell1) hcell1 hone hrp1
  · refine RP.tab ?_ hblk
    by_cases hlt : 4 < W.heap.size
    · exact hlt
    · rw [Array.getElem?_eq_none (by show W.heap.size ≤ _; omega)] at hblk; cases hblk
  all_goals first | exact rp_error (cell_lt hcell3) hcell3 ha3 | exact rp_error (cell_lt hcell4) hcell4 ha4

end Go.Proofs.YtmpofjiokpeegaaGreatDoor

/- MultiPlains: for every datum the law returns true, and it reads as it did. -/
namespace Go.Proofs.YtmpofjiokpeegaaGreatDoor
open Go Go.Aw
variable {kr : KR}
open Go.ChangeShapes Go.WideShapes Go.ChangeAt Go.WideMaps Go.WideElems Go.RowKit
theorem own : ownKnob Tryz.prog.godebug = none := by kernel_rfl
theorem laidOut : laidOutB Tryz.prog = true := by kernel_rfl
theorem door_met (os : Os) (args : Array Value) : laidMetH Tryz.prog Rows.multiPlainsRow.laid ((World.doorLaid Tryz.prog 136 os).forCall (fun _ _ => 0) ⟨#[], args, []⟩).memory :=
  laidMetH_of_parts3 (fuel := 8) (laidMet_of_run' 8 (by kernel_rfl) (by kernel_rfl)) (by kernel_rfl) (by kernel_rfl)
/-- The call, as the machine makes it. -/
theorem multiPlains_calls {W : World} (hL : laidMetH Tryz.prog Rows.multiPlainsRow.laid W) {v0 v1 : Value} {d0 : D} {d1 : D} (h0 : RP W.heap.size (fun _ _ => False) W (enc d0) v0) (h1 : RP W.heap.size (fun _ _ => False) W (enc d1) v1) :
    Calls Tryz.prog 7 #[v0, v1] W fun r W' => r = .returned (.bool true) ∧ Below W.heap.size W W' := by
  obtain ⟨kr, hg⟩ := of_laid hL
  refine (c_MultiPlains (kr := kr) d0 d1 ⟨(GL kr), [], []⟩ rfl (g0 W) W [v0, v1] (inv0 hg) rfl (fun i x v hx hv => ?_)).mono ?_
  · match i with
    | 0 => simp at hx hv; subst hx hv; exact .pv h0
    | 1 => simp at hx hv; subst hx hv; exact .pv h1
    | i + 2 => simp at hx
  · rintro r W' ⟨v, x, σ', g', rfl, ⟨rfl, rfl⟩, _, hext, hra⟩
    rw [hra.pv_inv.bool_inv]
    exact ⟨rfl, below_of hext⟩
abbrev zeroDatum : Value := .agg #[.int .i64 0, .int .i64 0, .string ⟨#[]⟩, .slice none 0 0]
set_option maxRecDepth 100000 in
theorem multiPlains_lifted (os : Os) (started : os.Started) (H : Type) (enc' : TypeId × Value → H) :
    ReturnsInHanded {} Tryz.checked os 7 .any (fun w args => (Rows.multiPlainsSpec.pre enc' Tryz.prog Tryz.f7 [] false w args ∧ laidMetH Tryz.prog Rows.multiPlainsRow.laid w) ∧ sizedMet enc' Tryz.prog Tryz.f7 (OpenSpec.ofChange Rows.multiPlainsSpec) false w args)
      (Rows.multiPlainsSpec.post enc' Tryz.prog Tryz.f7 false true false false) := by
  refine returnsInHanded_of_change_and (C := Tryz.checked) (X := fun w _ => laidMetH Tryz.prog Rows.multiPlainsRow.laid w) (fun _ _ _ hh h => h.of_heap hh) own started (by kernel_rfl) Tryz.func7
    (ChangeSpec.witness_shaped (enc := enc') (C := Tryz.checked) (os := os) (X := fun w _ => laidMetH Tryz.prog Rows.multiPlainsRow.laid w) false (World.doorLaid Tryz.prog 136 os) #[zeroDatum, zeroDatum] 8 rfl (World.shaped_of_RefB (by kernel_rfl) (by kernel_rfl)) (by kernel_rfl) (by kernel_rfl) (by kernel_rfl) (door_met os _)) ?_
  intro W base args ds gs before hval0 hW _ _ hL _
  have hW' := hW
  obtain ⟨p, q, hA0, hV, rfl, hfz, hnd⟩ := hW
  have hA : DataW.TrodAll enc' Tryz.prog W 0 (fun _ => true) true Tryz.f7.params.toList args.toList ds p := hA0
  rw [Tryz.params7] at hA
  obtain ⟨v0, v1, x0, x1, p0, p1, rfl, rfl, rfl, h0, h1⟩ := trodAll_two hA
  obtain ⟨rfl, rfl⟩ := trodVars_none hV
  clear hA0
  simp only [List.append_nil] at hW'
  obtain ⟨n0, t0⟩ := id h0
  obtain ⟨n1, t1⟩ := id h1
  obtain ⟨e0, u0, hc0, ho0, hr0⟩ := open_datum (S := fun _ _ => False) dty n0 _ _ t0
  have hv0 := open_agg hc0
  obtain ⟨e1, u1, hc1, ho1, hr1⟩ := open_datum (S := fun _ _ => False) dty n1 _ _ t1
  have hv1 := open_agg hc1
  clear hval0
  have hlt := hW'.lt
  refine (multiPlains_calls hL (hv0 ▸ rp_datum ho0 hr0) (hv1 ▸ rp_datum ho1 hr1)).mono fun r W' ⟨hr, hb⟩ => ?_
  subst hr
  exact ⟨_, rfl, post_of_below (pa := p0 ++ p1) (pv := []) hW' (fun _ _ _ => trodAll_mk1 (shut_bool Tryz.underlying4 true))
    (fun sp hs => trodAll_mk2 (Trod_stays laidOut (by kernel_rfl) (of_decide_eq_true (by kernel_rfl)) h0 (fun x hx => hb.same (hlt x (by simp [hx]))) (fun x hx => hs x (by simp [hx]))) (Trod_stays laidOut (by kernel_rfl) (of_decide_eq_true (by kernel_rfl)) h1 (fun x hx => hb.same (hlt x (by simp [hx]))) (fun x hx => hs x (by simp [hx]))))
    (fun _ _ => rfl) (by simp) hb (ok_one (by kernel_rfl) rfl (okWide_bool_mk Tryz.underlying4 _))⟩
theorem multiPlains_holds : Rows.MultiPlainsSaid :=
  OpenClaim.holds_of_wide 7 Tryz.f7 rfl rfl rfl rfl rfl rfl rfl ⟨rfl, rfl, rfl, rfl, rfl⟩ rfl rfl rfl rfl rfl (by kernel_rfl) Tryz.func7 (by kernel_rfl)
    (of_decide_eq_true (by kernel_rfl)) (by unfold Func.isWrapper; rw [if_neg (by decide +kernel)]; exact ⟨rfl, rfl⟩)
    (fun os started H enc _ => multiPlains_lifted os started H enc)
/-- The tied card. -/
theorem multiPlainsCard_holds : Rows.MultiPlainsCardSaid :=
  Claim7.holds_tied_plain_at .later [] [.data, .data, .data, .sentinel, .sentinel, .data, .mapped] true (true, "276281381aeeddcbf331b1d3fd2842c84a196ad6d3eeb788474b70cc62e3ca80") true
    multiPlains_holds (fun _ h => by cases h) (by kernel_rfl) (fun _ h => by cases h) multiPlains_row_tie rfl ⟨rfl, rfl⟩ (by kernel_rfl) rfl
    (fun f fn hf hfn => by
      obtain rfl : f = 7 := Option.some.inj ((show Tryz.prog.funcNamed "pagoda/pagodalaw25.MultiPlains" = some 7 by kernel_rfl).symm.trans hf) |>.symm
      obtain rfl : fn = Tryz.f7 := (Option.some.inj (Tryz.func7.symm.trans hfn)).symm
      exact ⟨by kernel_rfl, fun j t ht => by
        rw [Tryz.params7] at ht
        rcases j with _ | _ | j
        · obtain rfl : 24 = t := by simpa using ht
          exact (show Tryz.prog.wantsStandIn 24 = false by kernel_rfl)
        · obtain rfl : 24 = t := by simpa using ht
          exact (show Tryz.prog.wantsStandIn 24 = false by kernel_rfl)
        · simp at ht⟩)
    (by kernel_rfl)
end Go.Proofs.YtmpofjiokpeegaaGreatDoor
