/- Part of the proof that the statement holds for every input that its row lets in: the contracts of the program's functions, printed by a program out of annotations; the statement itself stands at the end of the last part. -/
import Derived.Test.YtmpofjiokpeegaaGreatDoorZS2
import Derived.Test.YtmpofjiokpeegaaGreatDoorZA4
import Derived.Test.YtmpofjiokpeegaaGreatDoorRows
import Derived.Test.YtmpofjiokpeegaaGreatDoorCards
import Derived.Test.YtmpofjiokpeegaaGreatDoorTie
set_option linter.unusedSimpArgs false
set_option linter.unusedVariables false
/- The specification: Erase, Lifted, Expr. -/
namespace Go.Proofs.YtmpofjiokpeegaaGreatDoor
open Go Go.Aw
variable {kr : KR}
set_option maxHeartbeats 1000000 in
theorem c_rwithT (d : D) (hd : d.size ≤ 1000000000) (l : List D) (hl : l.length ≤ d.kids.length) : Pur Tryz.prog (GL kr) 92 [.pv (enc d), .pv (.slice (l.map enc))] (.pv (enc (withD d l))) := by
 have hkl := D.kids_length_lt d
 obtain ⟨n, hn⟩ : ∃ z, z = d.kids.length - l.length := ⟨_, rfl⟩
 have hw : IntKind.i64.wrap ((d.kids.length : Int) - (l.length : Int)) = (n : Int) := by rw [wrap_id (by omega) (by omega)]; omega
 obtain ⟨hs, hhs⟩ : ∃ z, z = d.kids.take n := ⟨_, rfl⟩
 have hT : List.take n (d.kids.map enc) = hs.map enc := by rw [hhs]; exact List.map_take.symm
 have hle : n ≤ d.kids.length := by omega
 have htl : hs.length = n := by rw [hhs, List.length_take]; omega
 have hb1 : n * 56 ≤ 140737488355328 := by omega
 have hb2 : (n + l.length) * 56 ≤ 140737488355328 := by omega
 refine pur_of fun σ hgl => ?_
 refine acalls_of tyOk Tryz.func92 rfl (by simp [Tryz.f92]) ?_
 refine awp_seq (aR (by simp [go_sem, hw, hT, hle, htl, hb1, hb2] <;> rfl) ?_)
 refine awp_seq (awp_seq (aR (by simp [go_sem, hw, hT, hle, htl, hb1, hb2] <;> rfl) ?_))
 refine awp_cond (by first | rfl | (simp [go_sem, hw, hT, hle, htl, hb1, hb2] <;> rfl)) (fun h0 => ?_) (fun h0 => ?_)
 ·refine awp_seq ?_
  refine aR (by simp [go_sem, hw, hT, hle, htl, hb1, hb2] <;> rfl) ?_
  refine awp_ret ?_
  refine then_ret ?_
  have hl0 : l = [] := by simpa using h0
  have hM : withD d l = d := by rw [hl0]; exact withD_leaf
  refine ends_ret (by simp [go_sem] <;> rfl) (by simp [go_sem]) ?_
  rw [hM]
  exact ⟨by simp [go_sem], by simp [go_sem]⟩
 ·refine awp_skip ?_
  refine awp_seq (aR (by simp [go_sem, hw, hT, hle, htl, hb1, hb2] <;> rfl) ?_)
  refine awp_seq (awp_reg ?_)
  refine aL 3 (by simp [go_sem, hw, hT, hle, htl, hb1, hb2] <;> rfl) ?_
  refine aF call90 ((c_List01 (hs ++ l) (by rw [List.length_append, htl]; omega)) _ (by exact hgl)) (by simp [go_sem, hw, hT, hle, htl, hb1, hb2] <;> rfl) (by simp [go_sem, hw, hT, hle, htl, hb1, hb2]) ?_
  refine aL 1 (by simp [go_sem, hw, hT, hle, htl, hb1, hb2] <;> rfl) ?_
  refine al_nil ?_
  refine awp_ret ?_
  have hl0 : ¬ l = [] := by simpa using h0
  have hM : withD d l = dlist (hs ++ l) := by unfold withD; rw [if_neg hl0, hhs, hn]
  refine ends_ret (by simp [go_sem] <;> rfl) (by simp [go_sem]) ?_
  exact ⟨by simp [go_sem, hM], by simp [go_sem]⟩

set_option maxHeartbeats 1000000 in
theorem c_rErase (d : D) : ∀ (hg : GoodM d) (hd : d.size ≤ 100000000), Pur Tryz.prog (GL kr) 42 [.pv (enc d)] (.pv (enc (mmap eraseF d))) := by
 induction d using D.ind with
 | _ kind num text kids ih =>
 generalize hD : D.mk kind num text kids = d at *
 have hk : d.kids = kids := by rw [← hD]; rfl
 clear hD
 subst hk
 have hkl := D.kids_length_lt d
 intro hg hd
 have hki := hg.kids_inner
 have hil := inner_len d
 have hwl := hg.word_is (w := sLift) (by decide)
 have hwr := hg.word_is (w := sRun) (by decide)
 refine pur_of fun σ hgl => ?_
 refine acalls_of tyOk Tryz.func42 rfl (by simp [Tryz.f42]) ?_
 refine awp_seq (aR (by simp [go_sem] <;> rfl) ?_)
 refine awp_seq (awp_seq (awp_reg ?_))
 refine aL 1 (by simp [go_sem] <;> rfl) ?_
 refine aF call70 ((c_Word d) _ (by exact hgl)) (by simp [go_sem] <;> rfl) (by simp [go_sem]) ?_
 refine al_nil ?_
 refine awp_block ?_
 refine awp_seq (aR (by simp [go_sem] <;> rfl) ?_)
 refine awp_cond (by first | rfl | (simp [go_sem] <;> rfl)) (fun h0 => ?_) (fun h0 => ?_)
 ·have hw : isW d sLift = true := hwl.symm.trans h0
  obtain ⟨y, hy, hyi⟩ := hg.lift1 hw
  have hym : y ∈ inner d := by rw [hyi]; simp
  have hM := erase_at_lift hg hw hyi
  have hys := D.size_kid_lt (inner_mem hym)
  refine awp_seq (awp_reg ?_)
  refine aL 4 (by simp [go_sem, hy] <;> rfl) ?_
  refine aF call42 ((ih y (inner_mem hym) (hg.part hym) (by omega)) _ (by exact hgl)) (by simp [go_sem, hy] <;> rfl) (by simp [go_sem, hy]) ?_
  refine aL 1 (by simp [go_sem, hy] <;> rfl) ?_
  refine al_nil ?_
  refine awp_ret ?_
  refine inBlock_ret ?_
  refine then_ret ?_
  refine ends_ret (by simp [go_sem] <;> rfl) (by simp [go_sem]) ?_
  exact ⟨by simp [go_sem, hM], by simp [go_sem]⟩
 ·have hl : isW d sLift = false := hwl.symm.trans h0
  refine awp_seq (aR (by simp [go_sem] <;> rfl) ?_)
  refine awp_cond (by first | rfl | (simp [go_sem] <;> rfl)) (fun h1 => ?_) (fun h1 => ?_)
  ·have hw : isW d sRun = true := hwr.symm.trans h1
   obtain ⟨z, y, hy, hyi⟩ := hg.run2 hw
   have hym : y ∈ inner d := by rw [hyi]; simp
   have hM := erase_at_run hg hw hyi
   have hys := D.size_kid_lt (inner_mem hym)
   refine awp_seq (awp_reg ?_)
   refine aL 4 (by simp [go_sem, hy] <;> rfl) ?_
   refine aF call42 ((ih y (inner_mem hym) (hg.part hym) (by omega)) _ (by exact hgl)) (by simp [go_sem, hy] <;> rfl) (by simp [go_sem, hy]) ?_
   refine aL 1 (by simp [go_sem, hy] <;> rfl) ?_
   refine al_nil ?_
   refine awp_ret ?_
   refine inBlock_ret ?_
   refine then_ret ?_
   refine ends_ret (by simp [go_sem] <;> rfl) (by simp [go_sem]) ?_
   exact ⟨by simp [go_sem, hM], by simp [go_sem]⟩
  ·have hr : isW d sRun = false := hwr.symm.trans h1
   have hM := erase_else hg hl hr
   refine awp_skip ?_
   refine awp_seq (aR (by simp [go_sem] <;> rfl) ?_)
   refine awp_seq (awp_reg ?_)
   refine aL 1 (by simp [go_sem] <;> rfl) ?_
   refine aF call69 ((c_Kids d hg.form_ok) _ (by exact hgl)) (by simp [go_sem] <;> rfl) (by simp [go_sem]) ?_
   refine aL 1 (by simp [go_sem, hki] <;> rfl) ?_
   refine al_nil ?_
   refine awp_seq (awp_seq (aR (by simp [go_sem, hki] <;> rfl) ?_))
   refine awp_adopt' 3 24 4 (by simp [go_sem] <;> rfl) ?_
   refine awp_block ?_
   refine awp_loop_headK σ.objs.length (σ.toks.length + 1) 2 [1, 2, 4] (fun k : Nat => [(3, .acc (((inner d).map (enc ∘ (mmap eraseF))).take k) σ.toks.length), (5, .pv (.int .i64 ↑k))]) (fun k => { σ with toks := σ.toks ++ [⟨k, 24, 4⟩] }) (fun k => k ≤ (inner d).length) (fun k => (inner d).length - k) 0 (Nat.zero_le _) ⟨by simp [go_sem, hki], rfl, by simp, by simp, by simp [go_sem, hki], fun ob h => .inl (by simpa [go_sem, hki] using h), by simp [go_sem]⟩ ?_
   intro k hk
   refine awp_seq (awp_seq (aR (by simp [go_sem, hki] <;> rfl) ?_))
   refine awp_cond (by first | rfl | (simp [go_sem, hki] <;> rfl)) (fun h2 => ?_) (fun h2 => ?_)
   ·have hlt : k < (inner d).length := by simp at h2; omega
    have hw : IntKind.i64.wrap (↑k + 1) = (k : Int) + 1 := wrap_succ (by omega)
    obtain ⟨x, hx, hxm⟩ := get_lt hlt
    have ht : ((inner d).map (enc ∘ (mmap eraseF))).take (k + 1) = ((inner d).map (enc ∘ (mmap eraseF))).take k ++ [enc ((mmap eraseF) x)] := take_next (by simp [hx])
    have hm : min k (inner d).length = k := by omega
    have hb2 : (k + 1) * 56 ≤ 140737488355328 := by omega
    refine awp_skip ?_
    refine awp_seq (awp_block ?_)
    refine awp_reg ?_
    refine aL 5 (by simp [go_sem, hki, hx, hm, hb2] <;> rfl) ?_
    refine aF call42 ((ih x (inner_mem hxm) (hg.part hxm) (by have := D.size_kid_lt (inner_mem hxm); omega)) _ (by exact hgl)) (by simp [go_sem, hki, hx, hm, hb2] <;> rfl) (by simp [go_sem, hki, hx, hm, hb2]) ?_
    refine aL 3 (by simp [go_sem, hki, hx, hm, hb2] <;> rfl) ?_
    refine al_nil ?_
    refine aR (by simp [go_sem, hki, hx, hm, hb2] <;> rfl) ?_
    exact next_intro (k + 1) σ.objs.length (σ.toks.length + 1) 2 (hlt) (by omega) ⟨by simp [go_sem, hki, hx, hm, hb2, hw, ht], rfl, by simp, by simp, by simp [go_sem, hki, hx, hm, hb2, hw, ht], fun ob h => .inl (by simpa [go_sem, hki, hx, hm, hb2, hw, ht] using h), by simp [go_sem]⟩
   ·have hke : k = (inner d).length := by simp at h2; omega
    subst hke
    refine awp_exit ?_
    refine then_exit ?_
    refine then_exit ?_
    refine inBlock_hit ?_
    refine awp_seq (awp_reg ?_)
    refine aL 2 (by simp [go_sem, hki] <;> rfl) ?_
    refine aF call92 ((c_rwithT d (by omega) ((inner d).map (mmap eraseF)) (by simp; omega)) _ (by exact hgl)) (by simp [go_sem, hki] <;> rfl) (by simp [go_sem, hki]) ?_
    refine aL 1 (by simp [go_sem, hki] <;> rfl) ?_
    refine al_nil ?_
    refine awp_ret ?_
    refine ends_ret (by simp [go_sem] <;> rfl) (by simp [go_sem]) ?_
    exact ⟨by simp [go_sem, hM], by simp [go_sem]⟩

set_option maxHeartbeats 1000000 in
theorem c_rlifted (a : D) : Pur Tryz.prog (GL kr) 93 [.pv (enc a)] (.pv (enc (dlist [dsym sLift, a]))) := by
 refine pur_of fun σ hgl => ?_
 refine acalls_of tyOk Tryz.func93 rfl (by simp [Tryz.f93]) ?_
 refine awp_seq (aR (by simp [go_sem] <;> rfl) ?_)
 refine awp_seq (awp_regDC tyOk tySz 2 (by kernel_rfl) (by decide) ?_)
 refine ul_fn (by first | (intro _ _ hh; exact hh) | simp [go_sem]) rfl rfl rfl rfl (by simp [go_sem] <;> rfl) call88 ((c_Sym01 sLift) _ (by exact hgl)) (by simp [go_sem] <;> rfl) (by simp [go_sem, eLift]) rfl rfl ?_
 refine ul_run 1 (by simp [go_sem] <;> rfl) ?_
 refine ul_nil ?_
 refine aL 1 (by simp [go_sem] <;> rfl) ?_
 refine aF call90 ((c_List01 [dsym sLift, a] (by simp)) _ (by exact hgl)) (by simp [go_sem] <;> rfl) (by simp [go_sem]) ?_
 refine aL 1 (by simp [go_sem] <;> rfl) ?_
 refine al_nil ?_
 refine awp_ret ?_
 refine ends_ret (by simp [go_sem] <;> rfl) (by simp [go_sem]) ?_
 exact ⟨by simp [go_sem], by simp [go_sem]⟩

set_option maxHeartbeats 1000000 in
theorem c_rLifted (d : D) : ∀ (hg : GoodM d) (hd : d.size ≤ 100000000), Pur Tryz.prog (GL kr) 44 [.pv (enc d)] (.pv (enc (mmap liftF d))) := by
 induction d using D.ind with
 | _ kind num text kids ih =>
 generalize hD : D.mk kind num text kids = d at *
 have hk : d.kids = kids := by rw [← hD]; rfl
 clear hD
 subst hk
 have hkl := D.kids_length_lt d
 intro hg hd
 have hki := hg.kids_inner
 have hil := inner_len d
 have hwq := hg.word_is (w := sQuote) (by decide)
 have hwf := hg.word_is (w := sFn) (by decide)
 obtain ⟨W, hW⟩ : ∃ z, z = withD d ((inner d).map (mmap liftF)) := ⟨_, rfl⟩
 have hMl := lift_all hg
 rw [← hW] at hMl
 have hWc : Pur Tryz.prog (GL kr) 92 [.pv (enc d), .pv (.slice (((inner d).map (mmap liftF)).map enc))] (.pv (enc W)) := by rw [hW]; exact c_rwithT d (by omega) ((inner d).map (mmap liftF)) (by simp; omega)
 refine pur_of fun σ hgl => ?_
 refine acalls_of tyOk Tryz.func44 rfl (by simp [Tryz.f44]) ?_
 refine awp_seq (aR (by simp [go_sem] <;> rfl) ?_)
 refine awp_seq (aR (by simp [go_sem] <;> rfl) ?_)
 refine awp_seq (awp_reg ?_)
 refine aL 1 (by simp [go_sem] <;> rfl) ?_
 refine aF call69 ((c_Kids d hg.form_ok) _ (by exact hgl)) (by simp [go_sem] <;> rfl) (by simp [go_sem]) ?_
 refine aL 1 (by simp [go_sem, hki] <;> rfl) ?_
 refine al_nil ?_
 refine awp_seq (awp_seq (aR (by simp [go_sem, hki] <;> rfl) ?_))
 refine awp_adopt' 3 24 4 (by simp [go_sem] <;> rfl) ?_
 refine awp_block ?_
 refine awp_loop_headK σ.objs.length (σ.toks.length + 1) 2 [1, 2, 4] (fun k : Nat => [(3, .acc (((inner d).map (enc ∘ (mmap liftF))).take k) σ.toks.length), (5, .pv (.int .i64 ↑k))]) (fun k => { σ with toks := σ.toks ++ [⟨k, 24, 4⟩] }) (fun k => k ≤ (inner d).length) (fun k => (inner d).length - k) 0 (Nat.zero_le _) ⟨by simp [go_sem, hki], rfl, by simp, by simp, by simp [go_sem, hki], fun ob h => .inl (by simpa [go_sem, hki] using h), by simp [go_sem]⟩ ?_
 intro k hk
 refine awp_seq (awp_seq (aR (by simp [go_sem, hki] <;> rfl) ?_))
 refine awp_cond (by first | rfl | (simp [go_sem, hki] <;> rfl)) (fun h0 => ?_) (fun h0 => ?_)
 ·have hlt : k < (inner d).length := by simp at h0; omega
  have hw : IntKind.i64.wrap (↑k + 1) = (k : Int) + 1 := wrap_succ (by omega)
  obtain ⟨x, hx, hxm⟩ := get_lt hlt
  have ht : ((inner d).map (enc ∘ (mmap liftF))).take (k + 1) = ((inner d).map (enc ∘ (mmap liftF))).take k ++ [enc ((mmap liftF) x)] := take_next (by simp [hx])
  have hm : min k (inner d).length = k := by omega
  have hb2 : (k + 1) * 56 ≤ 140737488355328 := by omega
  refine awp_skip ?_
  refine awp_seq (awp_block ?_)
  refine awp_reg ?_
  refine aL 5 (by simp [go_sem, hki, hx, hm, hb2] <;> rfl) ?_
  refine aF call44 ((ih x (inner_mem hxm) (hg.part hxm) (by have := D.size_kid_lt (inner_mem hxm); omega)) _ (by exact hgl)) (by simp [go_sem, hki, hx, hm, hb2] <;> rfl) (by simp [go_sem, hki, hx, hm, hb2]) ?_
  refine aL 3 (by simp [go_sem, hki, hx, hm, hb2] <;> rfl) ?_
  refine al_nil ?_
  refine aR (by simp [go_sem, hki, hx, hm, hb2] <;> rfl) ?_
  exact next_intro (k + 1) σ.objs.length (σ.toks.length + 1) 2 (hlt) (by omega) ⟨by simp [go_sem, hki, hx, hm, hb2, hw, ht], rfl, by simp, by simp, by simp [go_sem, hki, hx, hm, hb2, hw, ht], fun ob h => .inl (by simpa [go_sem, hki, hx, hm, hb2, hw, ht] using h), by simp [go_sem]⟩
 ·have hke : k = (inner d).length := by simp at h0; omega
  subst hke
  refine awp_exit ?_
  refine then_exit ?_
  refine then_exit ?_
  refine inBlock_hit ?_
  refine awp_seq (awp_reg ?_)
  refine aL 2 (by simp [go_sem, hki] <;> rfl) ?_
  refine aF call92 ((hWc) _ (by exact hgl)) (by simp [go_sem, hki] <;> rfl) (by simp [go_sem, hki]) ?_
  refine aL 2 (by simp [go_sem, hki] <;> rfl) ?_
  refine al_nil ?_
  refine awp_seq (awp_seq (awp_reg ?_))
  refine aL 4 (by simp [go_sem, hki] <;> rfl) ?_
  refine al_splitT 29 (by first | rfl | (simp [go_sem, hki] <;> rfl)) (fun h1 => ?_) (fun h1 => ?_)
  ·have k1 : (d.kind == 1) = true := h1
   refine aK 3 29 false ?_
   refine aL 2 (by simp [go_sem, hki] <;> rfl) ?_
   refine aK 3 34 false ?_
   refine aL 1 (by simp [go_sem, hki] <;> rfl) ?_
   refine al_nil ?_
   refine awp_cond (b := true) (by simp [go_sem, hki, h1]) (fun h => ?_) (fun h => ?_)
   rotate_left
   ·cases h
   refine awp_seq (awp_reg ?_)
   refine aL 1 (by simp [go_sem, hki] <;> rfl) ?_
   refine aF call93 ((c_rlifted W) _ (by exact hgl)) (by simp [go_sem, hki] <;> rfl) (by simp [go_sem, hki]) ?_
   refine aL 1 (by simp [go_sem, hki] <;> rfl) ?_
   refine al_nil ?_
   refine awp_ret ?_
   refine then_ret ?_
   refine ends_ret (by simp [go_sem] <;> rfl) (by simp [go_sem]) ?_
   have hq : ((d.kind == 1 || isW d sQuote) || isW d sFn) = true := by rw [← hwq, ← hwf]; first | (rw [k1]; rfl) | (rw [k1, show decide (word d = sQuote) = true from by assumption]; rfl) | (rw [k1, show decide (word d = sQuote) = false from by assumption, show decide (word d = sFn) = true from by assumption]; rfl)
   rw [if_pos hq] at hMl
   exact ⟨by simp [go_sem, hMl], by simp [go_sem]⟩
  ·have k1 : (d.kind == 1) = false := h1
   refine aLG 1 29 false (by simp [go_sem, hki] <;> rfl) ?_
   refine al_fnG 29 false false (by simp [go_sem]) rfl (by simp [go_sem]) rfl rfl (by simp [go_sem, hki] <;> rfl) call70 ((c_Word d) _ (by exact hgl)) (by simp [go_sem, hki] <;> rfl) (by simp [go_sem, hki]) rfl rfl ?_
   refine aLG 1 29 false (by simp [go_sem, hki] <;> rfl) ?_
   refine aL 2 (by simp [go_sem, hki] <;> rfl) ?_
   refine al_splitT 34 (by first | rfl | (simp [go_sem, hki] <;> rfl)) (fun h2 => ?_) (fun h2 => ?_)
   ·refine aK 3 34 false ?_
    refine aL 1 (by simp [go_sem, hki] <;> rfl) ?_
    refine al_nil ?_
    refine awp_cond (b := true) (by simp [go_sem, hki, h1, h2]) (fun h => ?_) (fun h => ?_)
    rotate_left
    ·cases h
    refine awp_seq (awp_reg ?_)
    refine aL 1 (by simp [go_sem, hki] <;> rfl) ?_
    refine aF call93 ((c_rlifted W) _ (by exact hgl)) (by simp [go_sem, hki] <;> rfl) (by simp [go_sem, hki]) ?_
    refine aL 1 (by simp [go_sem, hki] <;> rfl) ?_
    refine al_nil ?_
    refine awp_ret ?_
    refine then_ret ?_
    refine ends_ret (by simp [go_sem] <;> rfl) (by simp [go_sem]) ?_
    have hq : ((d.kind == 1 || isW d sQuote) || isW d sFn) = true := by rw [← hwq, ← hwf]; first | (rw [k1]; rfl) | (rw [k1, show decide (word d = sQuote) = true from by assumption]; rfl) | (rw [k1, show decide (word d = sQuote) = false from by assumption, show decide (word d = sFn) = true from by assumption]; rfl)
    rw [if_pos hq] at hMl
    exact ⟨by simp [go_sem, hMl], by simp [go_sem]⟩
   ·refine aLG 1 34 false (by simp [go_sem, hki] <;> rfl) ?_
    refine al_fnG 34 false false (by simp [go_sem]) rfl (by simp [go_sem]) rfl rfl (by simp [go_sem, hki] <;> rfl) call70 ((c_Word d) _ (by exact hgl)) (by simp [go_sem, hki] <;> rfl) (by simp [go_sem, hki]) rfl rfl ?_
    refine aLG 1 34 false (by simp [go_sem, hki] <;> rfl) ?_
    refine aL 1 (by simp [go_sem, hki] <;> rfl) ?_
    refine al_nil ?_
    refine awp_cond (by first | rfl | (simp [go_sem, hki] <;> rfl)) (fun h3 => ?_) (fun h3 => ?_)
    ·refine awp_seq ?_
     refine awp_reg ?_
     refine aL 1 (by simp [go_sem, hki] <;> rfl) ?_
     refine aF call93 ((c_rlifted W) _ (by exact hgl)) (by simp [go_sem, hki] <;> rfl) (by simp [go_sem, hki]) ?_
     refine aL 1 (by simp [go_sem, hki] <;> rfl) ?_
     refine al_nil ?_
     refine awp_ret ?_
     refine then_ret ?_
     refine ends_ret (by simp [go_sem] <;> rfl) (by simp [go_sem]) ?_
     have hq : ((d.kind == 1 || isW d sQuote) || isW d sFn) = true := by rw [← hwq, ← hwf]; first | (rw [k1]; rfl) | (rw [k1, show decide (word d = sQuote) = true from by assumption]; rfl) | (rw [k1, show decide (word d = sQuote) = false from by assumption, show decide (word d = sFn) = true from by assumption]; rfl)
     rw [if_pos hq] at hMl
     exact ⟨by simp [go_sem, hMl], by simp [go_sem]⟩
    ·refine awp_skip ?_
     refine awp_seq (aR (by simp [go_sem, hki] <;> rfl) ?_)
     refine awp_ret ?_
     refine ends_ret (by simp [go_sem] <;> rfl) (by simp [go_sem]) ?_
     have hq : ((d.kind == 1 || isW d sQuote) || isW d sFn) = false := by rw [← hwq, ← hwf, k1, show decide (word d = sQuote) = false from by assumption, show decide (word d = sFn) = false from by assumption]; rfl
     rw [hq, if_neg (by decide)] at hMl
     exact ⟨by simp [go_sem, hMl], by simp [go_sem]⟩

set_option maxHeartbeats 1000000 in
theorem c_expression (d : D) (hd : d.text.size ≤ 40) : Pur Tryz.prog (GL kr) 94 [.pv (enc d)] (.pv (enc (xD d))) := by
 have hcat : 2 + (d.text).size ≤ 9223372036854775807 := by have := hd; omega
 have hxb : (⟨#[120, 46]⟩ : ByteArray) ++ d.text = xB d.text := rfl
 refine pur_of fun σ hgl => ?_
 refine acalls_of tyOk Tryz.func94 rfl (by simp [Tryz.f94]) ?_
 refine awp_seq (aR (by simp [go_sem, hcat, hxb] <;> rfl) ?_)
 refine awp_seq (awp_reg ?_)
 refine aL 3 (by simp [go_sem, hcat, hxb] <;> rfl) ?_
 refine aF call88 ((c_Sym01 (xB d.text)) _ (by exact hgl)) (by simp [go_sem, hcat, hxb] <;> rfl) (by simp [go_sem, hcat, hxb]) ?_
 refine aL 1 (by simp [go_sem, hcat, hxb] <;> rfl) ?_
 refine al_nil ?_
 refine awp_ret ?_
 refine ends_ret (by simp [go_sem, hcat, hxb] <;> rfl) (by simp [go_sem]) ?_
 exact ⟨by simp [go_sem, hcat, hxb, xD], by simp [go_sem]⟩

set_option maxHeartbeats 1000000 in
theorem c_function (f x a : D) : Pur Tryz.prog (GL kr) 95 [.pv (enc f), .pv (enc x), .pv (enc a)] (.pv (enc (sfun f x a))) := by
 refine pur_of fun σ hgl => ?_
 refine acalls_of tyOk Tryz.func95 rfl (by simp [Tryz.f95]) ?_
 refine awp_seq (aR (by simp [go_sem] <;> rfl) ?_)
 refine awp_seq (awp_reg ?_)
 refine aL 2 (by simp [go_sem] <;> rfl) ?_
 refine aF call90 ((c_List01 [x] (by simp)) _ (by exact hgl)) (by simp [go_sem] <;> rfl) (by simp [go_sem]) ?_
 refine aL 2 (by simp [go_sem] <;> rfl) ?_
 refine al_nil ?_
 refine awp_seq (awp_seq (aR (by simp [go_sem] <;> rfl) ?_))
 refine awp_cond (by first | rfl | (simp [go_sem] <;> rfl)) (fun h0 => ?_) (fun h0 => ?_)
 ·refine awp_seq ?_
  refine awp_regDC tyOk tySz 3 (by kernel_rfl) (by decide) ?_
  refine ul_fn (by first | (intro _ _ hh; exact hh) | simp [go_sem]) rfl rfl rfl rfl (by simp [go_sem] <;> rfl) call88 ((c_Sym01 sFn) _ (by exact hgl)) (by simp [go_sem] <;> rfl) (by simp [go_sem, eFn]) rfl rfl ?_
  refine ul_run 2 (by simp [go_sem] <;> rfl) ?_
  refine ul_nil ?_
  refine aL 1 (by simp [go_sem] <;> rfl) ?_
  refine aF call90 ((c_List01 [dsym sFn, dlist [x], a] (by simp)) _ (by exact hgl)) (by simp [go_sem] <;> rfl) (by simp [go_sem]) ?_
  refine aL 1 (by simp [go_sem] <;> rfl) ?_
  refine al_nil ?_
  refine awp_ret ?_
  refine then_ret ?_
  refine ends_ret (by simp [go_sem] <;> rfl) (by simp [go_sem]) ?_
  exact ⟨by simp only [sfun, h0, bA, bB, bC, bD, bE, bF, bG, bH, bI, bJ, Bool.false_eq_true, if_true, if_false]; simp [go_sem], by simp [go_sem]⟩
 ·refine awp_skip ?_
  refine awp_seq (awp_regDC tyOk tySz 9 (by kernel_rfl) (by decide) ?_)
  refine ul_fn (by first | (intro _ _ hh; exact hh) | simp [go_sem]) rfl rfl rfl rfl (by simp [go_sem] <;> rfl) call88 ((c_Sym01 sRec) _ (by exact hgl)) (by simp [go_sem] <;> rfl) (by simp [go_sem, eRec']) rfl rfl ?_
  refine ul_run 4 (by simp [go_sem] <;> rfl) ?_
  refine ul_fn (by first | (intro _ _ hh; exact hh) | simp [go_sem]) rfl rfl rfl rfl (by simp [go_sem] <;> rfl) call90 ((c_List01 [f, dlist [x], a] (by simp)) _ (by exact hgl)) (by simp [go_sem] <;> rfl) (by simp [go_sem]) rfl rfl ?_
  refine ul_run 1 (by simp [go_sem] <;> rfl) ?_
  refine ul_fn (by first | (intro _ _ hh; exact hh) | simp [go_sem]) rfl rfl rfl rfl (by simp [go_sem] <;> rfl) call90 ((c_List01 [dlist [f, dlist [x], a]] (by simp)) _ (by exact hgl)) (by simp [go_sem] <;> rfl) (by simp [go_sem]) rfl rfl ?_
  refine ul_run 1 (by simp [go_sem] <;> rfl) ?_
  refine ul_nil ?_
  refine aL 1 (by simp [go_sem] <;> rfl) ?_
  refine aF call90 ((c_List01 [dsym sRec, dlist [dlist [f, dlist [x], a]], f] (by simp)) _ (by exact hgl)) (by simp [go_sem] <;> rfl) (by simp [go_sem]) ?_
  refine aL 1 (by simp [go_sem] <;> rfl) ?_
  refine al_nil ?_
  refine awp_ret ?_
  refine ends_ret (by simp [go_sem] <;> rfl) (by simp [go_sem]) ?_
  exact ⟨by simp only [sfun, h0, bA, bB, bC, bD, bE, bF, bG, bH, bI, bJ, Bool.false_eq_true, if_true, if_false]; simp [go_sem], by simp [go_sem]⟩

set_option maxHeartbeats 4000000 in
theorem c_rExpr (d : D) : ∀ (hg : GoodM d) (hd : d.size ≤ 100000000), Pur Tryz.prog (GL kr) 45 [.pv (enc d)] (.pv (enc (mexpr d))) := by
 induction d using D.ind with
 | _ kind num text kids ih =>
 generalize hD : D.mk kind num text kids = d at *
 have hk : d.kids = kids := by rw [← hD]; rfl
 clear hD
 subst hk
 have hkl := D.kids_length_lt d
 intro hg hd
 have hki := hg.kids_inner
 have hil := inner_len d
 have hwf := hg.word_is (w := sFn) (by decide)
 have hwl := hg.word_is (w := sLet) (by decide)
 have hwa := hg.word_is (w := sApp) (by decide)
 have hws := hg.word_is (w := sSay) (by decide)
 have hft : ∀ x, x ∈ d.kids → x.text.size ≤ 40 := fun x hx => formed_text (formed_kids hg.formed hx)
 refine pur_of fun σ hgl => ?_
 refine acalls_of tyOk Tryz.func45 rfl (by simp [Tryz.f45]) ?_
 refine awp_seq (aR (by simp [go_sem] <;> rfl) ?_)
 refine awp_seq (awp_seq (aR (by simp [go_sem] <;> rfl) ?_))
 refine awp_cond (by first | rfl | (simp [go_sem] <;> rfl)) (fun h0 => ?_) (fun h0 => ?_)
 ·have hM := mexpr_sym (d := d) (by simpa using h0)
  refine awp_seq (awp_reg ?_)
  refine aL 1 (by simp [go_sem] <;> rfl) ?_
  refine aF call94 ((c_expression d (formed_text hg.formed)) _ (by exact hgl)) (by simp [go_sem] <;> rfl) (by simp [go_sem]) ?_
  refine aL 1 (by simp [go_sem] <;> rfl) ?_
  refine al_nil ?_
  refine awp_ret ?_
  refine then_ret ?_
  refine ends_ret (by simp [go_sem] <;> rfl) (by simp [go_sem]) ?_
  exact ⟨by simp [go_sem, hM], by simp [go_sem]⟩
 ·have hk2f : (d.kind == 2) = false := h0
  refine awp_skip ?_
  refine awp_seq (aR (by simp [go_sem] <;> rfl) ?_)
  refine awp_seq (awp_reg ?_)
  refine aL 1 (by simp [go_sem] <;> rfl) ?_
  refine aF call69 ((c_Kids d hg.form_ok) _ (by exact hgl)) (by simp [go_sem] <;> rfl) (by simp [go_sem]) ?_
  refine aL 1 (by simp [go_sem, hki] <;> rfl) ?_
  refine al_nil ?_
  refine awp_seq (awp_seq (aR (by simp [go_sem, hki] <;> rfl) ?_))
  refine awp_adopt' 3 24 4 (by simp [go_sem] <;> rfl) ?_
  refine awp_block ?_
  refine awp_loop_headK σ.objs.length (σ.toks.length + 1) 2 [1, 2, 4] (fun k : Nat => [(3, .acc (((inner d).map (enc ∘ mexpr)).take k) σ.toks.length), (5, .pv (.int .i64 ↑k))]) (fun k => { σ with toks := σ.toks ++ [⟨k, 24, 4⟩] }) (fun k => k ≤ (inner d).length) (fun k => (inner d).length - k) 0 (Nat.zero_le _) ⟨by simp [go_sem, hki], rfl, by simp, by simp, by simp [go_sem, hki], fun ob h => .inl (by simpa [go_sem, hki] using h), by simp [go_sem]⟩ ?_
  intro k hk
  refine awp_seq (awp_seq (aR (by simp [go_sem, hki] <;> rfl) ?_))
  refine awp_cond (by first | rfl | (simp [go_sem, hki] <;> rfl)) (fun h1 => ?_) (fun h1 => ?_)
  ·have hlt : k < (inner d).length := by simp at h1; omega
   have hw : IntKind.i64.wrap (↑k + 1) = (k : Int) + 1 := wrap_succ (by omega)
   obtain ⟨x, hx, hxm⟩ := get_lt hlt
   have ht : ((inner d).map (enc ∘ mexpr)).take (k + 1) = ((inner d).map (enc ∘ mexpr)).take k ++ [enc (mexpr x)] := take_next (by simp [hx])
   have hm : min k (inner d).length = k := by omega
   have hb2 : (k + 1) * 56 ≤ 140737488355328 := by omega
   refine awp_skip ?_
   refine awp_seq (awp_block ?_)
   refine awp_reg ?_
   refine aL 5 (by simp [go_sem, hki, hx, hm, hb2] <;> rfl) ?_
   refine aF call45 ((ih x (inner_mem hxm) (hg.part hxm) (by have := D.size_kid_lt (inner_mem hxm); omega)) _ (by exact hgl)) (by simp [go_sem, hki, hx, hm, hb2] <;> rfl) (by simp [go_sem, hki, hx, hm, hb2]) ?_
   refine aL 3 (by simp [go_sem, hki, hx, hm, hb2] <;> rfl) ?_
   refine al_nil ?_
   refine aR (by simp [go_sem, hki, hx, hm, hb2] <;> rfl) ?_
   exact next_intro (k + 1) σ.objs.length (σ.toks.length + 1) 2 (hlt) (by omega) ⟨by simp [go_sem, hki, hx, hm, hb2, hw, ht], rfl, by simp, by simp, by simp [go_sem, hki, hx, hm, hb2, hw, ht], fun ob h => .inl (by simpa [go_sem, hki, hx, hm, hb2, hw, ht] using h), by simp [go_sem]⟩
  ·have hke : k = (inner d).length := by simp at h1; omega
   subst hke
   refine awp_exit ?_
   refine then_exit ?_
   refine then_exit ?_
   refine inBlock_hit ?_
   refine awp_seq (awp_seq (awp_reg ?_))
   refine aL 1 (by simp [go_sem, hki] <;> rfl) ?_
   refine aF call70 ((c_Word d) _ (by exact hgl)) (by simp [go_sem, hki] <;> rfl) (by simp [go_sem, hki]) ?_
   refine al_nil ?_
   refine awp_block ?_
   refine awp_seq (aR (by simp [go_sem, hki] <;> rfl) ?_)
   refine awp_cond (by first | rfl | (simp [go_sem, hki] <;> rfl)) (fun h2 => ?_) (fun h2 => ?_)
   ·have hw : isW d sFn = true := hwf.symm.trans h2
    obtain ⟨f, y, b, hk1, hk2, hks, hd1, hd2, hin, _⟩ := hg.fn hw
    have hM := mexpr_fn hg hw hd1 hd2 hin
    have hsf := sfun_ex f y (mexpr b)
    refine awp_seq (awp_regDC tyOk tySz 13 (by kernel_rfl) (by decide) ?_)
    refine ul_run 4 (by simp [go_sem, hki, hk1, hk2, hin] <;> rfl) ?_
    refine ul_fn (by first | (intro _ _ hh; exact hh) | simp [go_sem]) rfl rfl rfl rfl (by simp [go_sem, hki, hk1, hk2, hin] <;> rfl) call94 ((c_expression f (hft f (List.mem_of_getElem? hk1))) _ (by exact hgl)) (by simp [go_sem, hki, hk1, hk2, hin] <;> rfl) (by simp [go_sem, hki, hk1, hk2, hin]) rfl rfl ?_
    refine ul_run 4 (by simp [go_sem, hki, hk1, hk2, hin] <;> rfl) ?_
    refine ul_fn (by first | (intro _ _ hh; exact hh) | simp [go_sem]) rfl rfl rfl rfl (by simp [go_sem, hki, hk1, hk2, hin] <;> rfl) call94 ((c_expression y (hft y (List.mem_of_getElem? hk2))) _ (by exact hgl)) (by simp [go_sem, hki, hk1, hk2, hin] <;> rfl) (by simp [go_sem, hki, hk1, hk2, hin]) rfl rfl ?_
    refine ul_run 3 (by simp [go_sem, hki, hk1, hk2, hin] <;> rfl) ?_
    refine ul_nil ?_
    refine aF call95 ((c_function (xD f) (xD y) (mexpr b)) _ (by exact hgl)) (by simp [go_sem, hki, hk1, hk2, hin] <;> rfl) (by simp [go_sem, hki, hk1, hk2, hin]) ?_
    refine aL 1 (by simp [go_sem, hki, hk1, hk2, hin, hsf] <;> rfl) ?_
    refine al_nil ?_
    refine awp_ret ?_
    refine inBlock_ret ?_
    refine then_ret ?_
    refine ends_ret (by simp [go_sem] <;> rfl) (by simp [go_sem]) ?_
    exact ⟨by simp [go_sem, hM], by simp [go_sem]⟩
   ·have hnf : isW d sFn = false := hwf.symm.trans h2
    refine awp_seq (aR (by simp [go_sem, hki] <;> rfl) ?_)
    refine awp_cond (by first | rfl | (simp [go_sem, hki] <;> rfl)) (fun h3 => ?_) (fun h3 => ?_)
    ·have hw : isW d sLet = true := hwl.symm.trans h3
     obtain ⟨y, a, b, hk1, hks, hd1, hin, _⟩ := hg.lett hw
     have hk0 : d.kids[0]? = some d.head := by rw [hks]; rfl
     have hM := mexpr_let hg hw hd1 hin
     refine awp_seq (awp_regDC tyOk tySz 15 (by kernel_rfl) (by decide) ?_)
     refine ul_run 8 (by simp [go_sem, hki, hk0, hk1, hin] <;> rfl) ?_
     refine ul_fn (by first | (intro _ _ hh; exact hh) | simp [go_sem]) rfl rfl rfl rfl (by simp [go_sem, hki, hk0, hk1, hin] <;> rfl) call94 ((c_expression y (hft y (List.mem_of_getElem? hk1))) _ (by exact hgl)) (by simp [go_sem, hki, hk0, hk1, hin] <;> rfl) (by simp [go_sem, hki, hk0, hk1, hin]) rfl rfl ?_
     refine ul_run 6 (by simp [go_sem, hki, hk0, hk1, hin] <;> rfl) ?_
     refine ul_nil ?_
     refine aL 1 (by simp [go_sem, hki, hk0, hk1, hin] <;> rfl) ?_
     refine aF call90 ((c_List01 [d.head, xD y, mexpr a, mexpr b] (by simp)) _ (by exact hgl)) (by simp [go_sem, hki, hk0, hk1, hin] <;> rfl) (by simp [go_sem, hki, hk0, hk1, hin]) ?_
     refine aL 1 (by simp [go_sem, hki, hk0, hk1, hin] <;> rfl) ?_
     refine al_nil ?_
     refine awp_ret ?_
     refine inBlock_ret ?_
     refine then_ret ?_
     refine ends_ret (by simp [go_sem] <;> rfl) (by simp [go_sem]) ?_
     exact ⟨by simp [go_sem, hM], by simp [go_sem]⟩
    ·have hnl : isW d sLet = false := hwl.symm.trans h3
     refine awp_seq (aR (by simp [go_sem, hki] <;> rfl) ?_)
     refine awp_cond (by first | rfl | (simp [go_sem, hki] <;> rfl)) (fun h4 => ?_) (fun h4 => ?_)
     ·have hw : isW d sApp = true := hwa.symm.trans h4
      obtain ⟨a, b, hin, hks, _⟩ := hg.app hw
      have hk1 : d.kids[1]? = some a := by rw [hks]; rfl
      have hM := mexpr_app hw hin
      have hak := mexpr_kind (hg.part (x := a) (by rw [hin]; simp))
      have hgx : gX = dsym ⟨#[120, 46]⟩ := rfl
      refine awp_seq (awp_seq (aR (by simp [go_sem, hki, hk1, hin] <;> rfl) ?_))
      refine awp_cond (by first | rfl | (simp [go_sem, hki, hk1, hin] <;> rfl)) (fun h5 => ?_) (fun h5 => ?_)
      ·have hb : ((mexpr a).kind != 2) = false := by have h := hak.trans h5; simp only [bne, h]; rfl
       rw [hb, if_neg (by decide)] at hM
       refine awp_seq (awp_reg ?_)
       refine aL 1 (by simp [go_sem, hki, hk1, hin] <;> rfl) ?_
       refine aF call90 ((c_List01 [mexpr a, mexpr b] (by simp)) _ (by exact hgl)) (by simp [go_sem, hki, hk1, hin] <;> rfl) (by simp [go_sem, hki, hk1, hin]) ?_
       refine aL 1 (by simp [go_sem, hki, hk1, hin] <;> rfl) ?_
       refine al_nil ?_
       refine awp_ret ?_
       refine then_ret ?_
       refine inBlock_ret ?_
       refine then_ret ?_
       refine ends_ret (by simp [go_sem] <;> rfl) (by simp [go_sem]) ?_
       exact ⟨by simp [go_sem, hM], by simp [go_sem]⟩
      ·have hb : ((mexpr a).kind != 2) = true := by have h := hak.trans h5; simp only [bne, h]; rfl
       rw [if_pos hb] at hM
       refine awp_skip ?_
       refine awp_seq (awp_reg ?_)
       refine aF call88 ((c_Sym01 ⟨#[120, 46]⟩) _ (by exact hgl)) (by simp [go_sem, hki, hk1, hin] <;> rfl) (by simp [go_sem, hki, hk1, hin]) ?_
       refine aL 2 (by simp [go_sem, hki, hk1, hin] <;> rfl) ?_
       refine al_nil ?_
       refine awp_seq (awp_regDC tyOk tySz 11 (by kernel_rfl) (by decide) ?_)
       refine ul_fn (by first | (intro _ _ hh; exact hh) | simp [go_sem]) rfl rfl rfl rfl (by simp [go_sem, hki, hk1, hin] <;> rfl) call88 ((c_Sym01 sLet) _ (by exact hgl)) (by simp [go_sem, hki, hk1, hin] <;> rfl) (by simp [go_sem, hki, hk1, hin, eLet]) rfl rfl ?_
       refine ul_run 6 (by simp [go_sem, hki, hk1, hin] <;> rfl) ?_
       refine ul_fn (by first | (intro _ _ hh; exact hh) | simp [go_sem]) rfl rfl rfl rfl (by simp [go_sem, hki, hk1, hin] <;> rfl) call90 ((c_List01 [dsym sLet, gX, mexpr a, gX] (by simp)) _ (by exact hgl)) (by simp [go_sem, hki, hk1, hin] <;> rfl) (by simp [go_sem, hki, hk1, hin, hgx]) rfl rfl ?_
       refine ul_run 3 (by simp [go_sem, hki, hk1, hin] <;> rfl) ?_
       refine ul_nil ?_
       refine aL 1 (by simp [go_sem, hki, hk1, hin] <;> rfl) ?_
       refine aF call90 ((c_List01 [dlist [dsym sLet, gX, mexpr a, gX], mexpr b] (by simp)) _ (by exact hgl)) (by simp [go_sem, hki, hk1, hin] <;> rfl) (by simp [go_sem, hki, hk1, hin]) ?_
       refine aL 1 (by simp [go_sem, hki, hk1, hin] <;> rfl) ?_
       refine al_nil ?_
       refine awp_ret ?_
       refine inBlock_ret ?_
       refine then_ret ?_
       refine ends_ret (by simp [go_sem] <;> rfl) (by simp [go_sem]) ?_
       exact ⟨by simp [go_sem, hM], by simp [go_sem]⟩
     ·have hna : isW d sApp = false := hwa.symm.trans h4
      refine awp_seq (aR (by simp [go_sem, hki] <;> rfl) ?_)
      refine awp_cond (by first | rfl | (simp [go_sem, hki] <;> rfl)) (fun h6 => ?_) (fun h6 => ?_)
      ·have hw : isW d sSay = true := hws.symm.trans h6
       obtain ⟨a, hin, _⟩ := hg.say hw
       have hM := mexpr_say hw hin
       refine awp_seq (awp_regDC tyOk tySz 4 (by kernel_rfl) (by decide) ?_)
       refine ul_fn (by first | (intro _ _ hh; exact hh) | simp [go_sem]) rfl rfl rfl rfl (by simp [go_sem, hki, hin] <;> rfl) call88 ((c_Sym01 sPrn) _ (by exact hgl)) (by simp [go_sem, hki, hin] <;> rfl) (by simp [go_sem, hki, hin, ePrn]) rfl rfl ?_
       refine ul_run 3 (by simp [go_sem, hki, hin] <;> rfl) ?_
       refine ul_nil ?_
       refine aL 1 (by simp [go_sem, hki, hin] <;> rfl) ?_
       refine aF call90 ((c_List01 [dsym sPrn, mexpr a] (by simp)) _ (by exact hgl)) (by simp [go_sem, hki, hin] <;> rfl) (by simp [go_sem, hki, hin]) ?_
       refine aL 1 (by simp [go_sem, hki, hin] <;> rfl) ?_
       refine al_nil ?_
       refine awp_ret ?_
       refine inBlock_ret ?_
       refine then_ret ?_
       refine ends_ret (by simp [go_sem] <;> rfl) (by simp [go_sem]) ?_
       exact ⟨by simp [go_sem, hM], by simp [go_sem]⟩
      ·have hns : isW d sSay = false := hws.symm.trans h6
       have hM := mexpr_else hg hk2f hnf hnl hna hns
       refine awp_skip ?_
       refine awp_seq (awp_reg ?_)
       refine aL 2 (by simp [go_sem, hki] <;> rfl) ?_
       refine aF call92 ((c_rwithT d (by omega) ((inner d).map mexpr) (by simp; omega)) _ (by exact hgl)) (by simp [go_sem, hki] <;> rfl) (by simp [go_sem, hki]) ?_
       refine aL 1 (by simp [go_sem, hki] <;> rfl) ?_
       refine al_nil ?_
       refine awp_ret ?_
       refine ends_ret (by simp [go_sem] <;> rfl) (by simp [go_sem]) ?_
       exact ⟨by simp [go_sem, hM], by simp [go_sem]⟩

end Go.Proofs.YtmpofjiokpeegaaGreatDoor

/- Expr. -/
namespace Go.Proofs.YtmpofjiokpeegaaGreatDoor
open Go Go.Aw
variable {kr : KR}
set_option maxHeartbeats 1000000 in
theorem c_expr_1 (d : D) (hd : d.text.size ≤ 40) : Pur Tryz.prog (GL kr) 138 [.pv (enc d)] (.pv (enc (xD d))) := by
 have hcat : 2 + (d.text).size ≤ 9223372036854775807 := by have := hd; omega
 have hxb : (⟨#[120, 46]⟩ : ByteArray) ++ d.text = xB d.text := rfl
 refine pur_of fun σ hgl => ?_
 refine acalls_of tyOk Tryz.func138 rfl (by simp [Tryz.f138]) ?_
 refine awp_seq (aR (by simp [go_sem, hcat, hxb] <;> rfl) ?_)
 refine awp_seq (awp_reg ?_)
 refine aL 3 (by simp [go_sem, hcat, hxb] <;> rfl) ?_
 refine aF call60 ((c_flat_Sym (xB d.text)) _ (by exact hgl)) (by simp [go_sem, hcat, hxb] <;> rfl) (by simp [go_sem, hcat, hxb]) ?_
 refine aL 1 (by simp [go_sem, hcat, hxb] <;> rfl) ?_
 refine al_nil ?_
 refine awp_ret ?_
 refine ends_ret (by simp [go_sem, hcat, hxb] <;> rfl) (by simp [go_sem]) ?_
 exact ⟨by simp [go_sem, hcat, hxb, xD], by simp [go_sem]⟩

set_option maxHeartbeats 4000000 in
theorem c_expr_other (d : D) (hg : GoodM d) (hd : d.size ≤ 100000000) (ih : ∀ x, x ∈ inner d → Pur Tryz.prog (GL kr) 91 [.pv (enc x)] (.pv (enc (mexpr x)))) (hna : isW d sApp = false) : Pur Tryz.prog (GL kr) 91 [.pv (enc d)] (.pv (enc (mexpr d))) := by
 have hkl := D.kids_length_lt d
 have hil := inner_len d
 have hft : ∀ x, x ∈ d.kids → x.text.size ≤ 40 := fun x hx => formed_text (formed_kids hg.formed hx)
 refine pur_of fun σ hgl => ?_
 refine acalls_of tyOk Tryz.func91 rfl (by simp [Tryz.f91]) ?_
 refine awp_seq (aR (by simp [go_sem] <;> rfl) ?_)
 refine awp_seq (aR (by simp [go_sem] <;> rfl) ?_)
 refine awp_seq (awp_block ?_)
 refine awp_seq (aR (by simp [go_sem] <;> rfl) ?_)
 refine awp_cond (by first | rfl | (simp [go_sem] <;> rfl)) (fun h0 => ?_) (fun h0 => ?_)
 ·have hM := mexpr_sym (d := d) (by simpa using h0)
  refine awp_seq (awp_reg ?_)
  refine aL 2 (by simp [go_sem] <;> rfl) ?_
  refine al_fn rfl rfl rfl (by simp [go_sem] <;> rfl) call138 ((c_expr_1 d (formed_text hg.formed)) _ (by exact hgl)) (by simp [go_sem] <;> rfl) (by simp [go_sem]) rfl rfl ?_
  refine aL 1 (by simp [go_sem] <;> rfl) ?_
  refine al_nil ?_
  refine awp_ret ?_
  refine inBlock_ret ?_
  refine then_ret ?_
  refine ends_ret (by simp [go_sem] <;> rfl) (by simp [go_sem]) ?_
  exact ⟨by simp [go_sem, hM], by simp [go_sem]⟩
 ·have hk2f : (d.kind == 2) = false := h0
  refine awp_seq (awp_reg ?_)
  refine aL 4 (by simp [go_sem] <;> rfl) ?_
  refine al_splitT 20 (by first | rfl | (simp [go_sem] <;> rfl)) (fun h1 => ?_) (fun h1 => ?_)
  ·have hM := mexpr_num (d := d) (by simpa using h1)
   refine aK 2 20 false ?_
   refine aL 2 (by simp [go_sem] <;> rfl) ?_
   refine al_nil ?_
   refine awp_cond (b := true) (by simp [go_sem, h0, h1]) (fun h => ?_) (fun h => ?_)
   rotate_left
   ·cases h
   refine awp_seq (aR (by simp [go_sem] <;> rfl) ?_)
   refine awp_ret ?_
   refine inBlock_ret ?_
   refine then_ret ?_
   refine ends_ret (by simp [go_sem] <;> rfl) (by simp [go_sem]) ?_
   exact ⟨by simp [go_sem, hM], by simp [go_sem]⟩
  ·have k1 : (d.kind == 1) = false := h1
   refine aLG 1 20 false (by simp [go_sem] <;> rfl) ?_
   refine al_fnG 20 false false (by simp [go_sem]) rfl (by simp [go_sem]) rfl rfl (by simp [go_sem] <;> rfl) call58 ((c_Is d sQuote hg.ne) _ (by exact hgl)) (by simp [go_sem] <;> rfl) (by simp [go_sem, eQuote]) rfl rfl ?_
   refine aL 2 (by simp [go_sem] <;> rfl) ?_
   refine al_nil ?_
   refine awp_cond (by first | rfl | (simp [go_sem] <;> rfl)) (fun h2 => ?_) (fun h2 => ?_)
   ·have hM := mexpr_quote (d := d) h2
    refine awp_seq (aR (by simp [go_sem] <;> rfl) ?_)
    refine awp_ret ?_
    refine inBlock_ret ?_
    refine then_ret ?_
    refine ends_ret (by simp [go_sem] <;> rfl) (by simp [go_sem]) ?_
    exact ⟨by simp [go_sem, hM], by simp [go_sem]⟩
   ·have hnq : isW d sQuote = false := h2
    have hk3 : d.kind = 3 := by rcases hg.kind with h | ⟨h, _⟩ | h; (have k := k1; rw [h] at k; cases k); (have k := hk2f; rw [h] at k; cases k); exact h
    obtain ⟨x0, r0, hks⟩ := kids_cons (hg.ne hk3)
    have hx0 : d.kids[0]? = some x0 := by rw [hks]; rfl
    have hh := head_cons hks
    refine awp_skip ?_
    refine awp_seq (aR (by simp [go_sem, hx0] <;> rfl) ?_)
    refine awp_seq (awp_seq (awp_reg ?_))
    refine aL 1 (by simp [go_sem, hx0] <;> rfl) ?_
    refine aF call113 ((c_Inner d hg.ne hg.n) _ (by exact hgl)) (by simp [go_sem, hx0] <;> rfl) (by simp [go_sem, hx0]) ?_
    refine aL 2 (by simp [go_sem, hx0] <;> rfl) ?_
    refine al_nil ?_
    refine awp_adopt' 4 24 4 (by simp [go_sem] <;> rfl) ?_
    refine awp_block ?_
    refine awp_loop_headK σ.objs.length (σ.toks.length + 1) 2 [1, 2, 3, 26, 27] (fun k : Nat => [(4, .acc (((inner d).map (enc ∘ mexpr)).take k) σ.toks.length), (28, .pv (.int .i64 ↑k))]) (fun k => { σ with toks := σ.toks ++ [⟨k, 24, 4⟩] }) (fun k => k ≤ (inner d).length) (fun k => (inner d).length - k) 0 (Nat.zero_le _) ⟨by simp [go_sem, hx0], rfl, by simp, by simp, by simp [go_sem, hx0], fun ob h => .inl (by simpa [go_sem, hx0] using h), by simp [go_sem]⟩ ?_
    intro k hk
    refine awp_seq (aR (by simp [go_sem, hx0] <;> rfl) ?_)
    refine awp_seq (awp_cond (by first | rfl | (simp [go_sem, hx0] <;> rfl)) (fun h3 => ?_) (fun h3 => ?_))
    ·have hlt : k < (inner d).length := by simp at h3; omega
     have hw : IntKind.i64.wrap (↑k + 1) = (k : Int) + 1 := wrap_succ (by omega)
     obtain ⟨x, hx, hxm⟩ := get_lt hlt
     have ht : ((inner d).map (enc ∘ mexpr)).take (k + 1) = ((inner d).map (enc ∘ mexpr)).take k ++ [enc (mexpr x)] := take_next (by simp [hx])
     have hm : min k (inner d).length = k := by omega
     have hb2 : (k + 1) * 56 ≤ 140737488355328 := by omega
     refine awp_skip ?_
     refine awp_seq (awp_block ?_)
     refine awp_seq (aR (by simp [go_sem, hx0, hx, hm, hb2] <;> rfl) ?_)
     refine awp_reg ?_
     refine aL 2 (by simp [go_sem, hx0, hx, hm, hb2] <;> rfl) ?_
     refine aF call91 ((ih x hxm) _ (by exact hgl)) (by simp [go_sem, hx0, hx, hm, hb2] <;> rfl) (by simp [go_sem, hx0, hx, hm, hb2]) ?_
     refine aL 3 (by simp [go_sem, hx0, hx, hm, hb2] <;> rfl) ?_
     refine al_nil ?_
     refine aR (by simp [go_sem, hx0, hx, hm, hb2] <;> rfl) ?_
     exact next_intro (k + 1) σ.objs.length (σ.toks.length + 1) 2 (hlt) (by omega) ⟨by simp [go_sem, hx0, hx, hm, hb2, hw, ht], rfl, by simp, by simp, by simp [go_sem, hx0, hx, hm, hb2, hw, ht], fun ob h => .inl (by simpa [go_sem, hx0, hx, hm, hb2, hw, ht] using h), by simp [go_sem]⟩
    ·have hke : k = (inner d).length := by simp at h3; omega
     subst hke
     refine awp_exit ?_
     refine then_exit ?_
     refine then_exit ?_
     refine inBlock_hit ?_
     refine awp_seq (aR (by simp [go_sem, hx0] <;> rfl) ?_)
     refine awp_seq (awp_seq (aR (by simp [go_sem, hx0] <;> rfl) ?_))
     refine awp_block ?_
     refine awp_seq (aR (by simp [go_sem, hx0] <;> rfl) ?_)
     refine awp_cond (by first | rfl | (simp [go_sem, hx0] <;> rfl)) (fun h4 => ?_) (fun h4 => ?_)
     ·have hw : isW d sFn = true := isW_iff.2 ⟨hk3, (congrArg D.text hh).trans (of_decide_eq_true h4)⟩
      obtain ⟨f, y, b, hk1, hk2, hkk, hd1, hd2, hin, _⟩ := hg.fn hw
      have hM := mexpr_fn hg hw hd1 hd2 hin
      have hx0f : x0 = dsym sFn := by rw [← hh]; exact head_sym hg hk3 (isW_iff.1 hw).2
      refine awp_seq (awp_seq (awp_regDP tyOk tySz 8 (by kernel_rfl) (by decide) ?_))
      refine ul_run 8 (by simp [go_sem, hx0, hk1, hk2, hin] <;> rfl) ?_
      refine ul_nil ?_
      refine aL 1 (by simp [go_sem, hx0, hk1, hk2, hin] <;> rfl) ?_
      refine al_nil ?_
      refine awp_cond (by first | rfl | (simp [go_sem, hx0, hk1, hk2, hin] <;> rfl)) (fun h5 => ?_) (fun h5 => ?_)
      ·have hM2 : mexpr d = dlist [x0, dlist [xD y], mexpr b] := by rw [hM, hx0f]; unfold exFn; rw [if_pos h5]
       refine awp_seq (awp_regDC tyOk tySz 13 (by kernel_rfl) (by decide) ?_)
       refine ul_run 7 (by simp [go_sem, hx0, hk1, hk2, hin] <;> rfl) ?_
       refine ul_fn (by first | (intro _ _ hh; exact hh) | simp [go_sem]) rfl rfl rfl rfl (by simp [go_sem, hx0, hk1, hk2, hin] <;> rfl) call138 ((c_expr_1 y (hft y (List.mem_of_getElem? hk2))) _ (by exact hgl)) (by simp [go_sem, hx0, hk1, hk2, hin] <;> rfl) (by simp [go_sem, hx0, hk1, hk2, hin]) rfl rfl ?_
       refine ul_run 1 (by simp [go_sem, hx0, hk1, hk2, hin] <;> rfl) ?_
       refine ul_fn (by first | (intro _ _ hh; exact hh) | simp [go_sem]) rfl rfl rfl rfl (by simp [go_sem, hx0, hk1, hk2, hin] <;> rfl) call59 ((c_flat_List [xD y]) _ (by exact hgl)) (by simp [go_sem, hx0, hk1, hk2, hin] <;> rfl) (by simp [go_sem, hx0, hk1, hk2, hin]) rfl rfl ?_
       refine ul_run 3 (by simp [go_sem, hx0, hk1, hk2, hin] <;> rfl) ?_
       refine ul_nil ?_
       refine aL 1 (by simp [go_sem, hx0, hk1, hk2, hin] <;> rfl) ?_
       refine aF call59 ((c_flat_List [x0, dlist [xD y], mexpr b]) _ (by exact hgl)) (by simp [go_sem, hx0, hk1, hk2, hin] <;> rfl) (by simp [go_sem, hx0, hk1, hk2, hin]) ?_
       refine aL 1 (by simp [go_sem, hx0, hk1, hk2, hin] <;> rfl) ?_
       refine al_nil ?_
       refine awp_ret ?_
       refine then_ret ?_
       refine inBlock_ret ?_
       refine then_ret ?_
       refine ends_ret (by simp [go_sem] <;> rfl) (by simp [go_sem]) ?_
       exact ⟨by simp [go_sem, hM2], by simp [go_sem]⟩
      ·have hM2 : mexpr d = dlist [dsym sRec, dlist [dlist [xD f, dlist [xD y], mexpr b]], xD f] := by rw [hM]; unfold exFn; rw [if_neg (by rw [h5]; decide)]
       refine awp_skip ?_
       refine awp_seq (awp_regDC tyOk tySz 24 (drawOk_of (by kernel_rfl)) (by decide) ?_)
       refine ul_fn (by first | (intro _ _ hh; exact hh) | simp [go_sem]) rfl rfl rfl rfl (by simp [go_sem, hx0, hk1, hk2, hin] <;> rfl) call60 ((c_flat_Sym sRec) _ (by exact hgl)) (by simp [go_sem, hx0, hk1, hk2, hin] <;> rfl) (by simp [go_sem, hx0, hk1, hk2, hin, eRec']) rfl rfl ?_
       refine ul_run 4 (by simp [go_sem, hx0, hk1, hk2, hin] <;> rfl) ?_
       refine ul_fn (by first | (intro _ _ hh; exact hh) | simp [go_sem]) rfl rfl rfl rfl (by simp [go_sem, hx0, hk1, hk2, hin] <;> rfl) call138 ((c_expr_1 f (hft f (List.mem_of_getElem? hk1))) _ (by exact hgl)) (by simp [go_sem, hx0, hk1, hk2, hin] <;> rfl) (by simp [go_sem, hx0, hk1, hk2, hin]) rfl rfl ?_
       refine ul_run 4 (by simp [go_sem, hx0, hk1, hk2, hin] <;> rfl) ?_
       refine ul_fn (by first | (intro _ _ hh; exact hh) | simp [go_sem]) rfl rfl rfl rfl (by simp [go_sem, hx0, hk1, hk2, hin] <;> rfl) call138 ((c_expr_1 y (hft y (List.mem_of_getElem? hk2))) _ (by exact hgl)) (by simp [go_sem, hx0, hk1, hk2, hin] <;> rfl) (by simp [go_sem, hx0, hk1, hk2, hin]) rfl rfl ?_
       refine ul_run 1 (by simp [go_sem, hx0, hk1, hk2, hin] <;> rfl) ?_
       refine ul_fn (by first | (intro _ _ hh; exact hh) | simp [go_sem]) rfl rfl rfl rfl (by simp [go_sem, hx0, hk1, hk2, hin] <;> rfl) call59 ((c_flat_List [xD y]) _ (by exact hgl)) (by simp [go_sem, hx0, hk1, hk2, hin] <;> rfl) (by simp [go_sem, hx0, hk1, hk2, hin]) rfl rfl ?_
       refine ul_run 4 (by simp [go_sem, hx0, hk1, hk2, hin] <;> rfl) ?_
       refine ul_fn (by first | (intro _ _ hh; exact hh) | simp [go_sem]) rfl rfl rfl rfl (by simp [go_sem, hx0, hk1, hk2, hin] <;> rfl) call59 ((c_flat_List [xD f, dlist [xD y], mexpr b]) _ (by exact hgl)) (by simp [go_sem, hx0, hk1, hk2, hin] <;> rfl) (by simp [go_sem, hx0, hk1, hk2, hin]) rfl rfl ?_
       refine ul_run 1 (by simp [go_sem, hx0, hk1, hk2, hin] <;> rfl) ?_
       refine ul_fn (by first | (intro _ _ hh; exact hh) | simp [go_sem]) rfl rfl rfl rfl (by simp [go_sem, hx0, hk1, hk2, hin] <;> rfl) call59 ((c_flat_List [dlist [xD f, dlist [xD y], mexpr b]]) _ (by exact hgl)) (by simp [go_sem, hx0, hk1, hk2, hin] <;> rfl) (by simp [go_sem, hx0, hk1, hk2, hin]) rfl rfl ?_
       refine ul_run 4 (by simp [go_sem, hx0, hk1, hk2, hin] <;> rfl) ?_
       refine ul_nil ?_
       refine al_fn rfl rfl rfl (by simp [go_sem, hx0, hk1, hk2, hin] <;> rfl) call138 ((c_expr_1 f (hft f (List.mem_of_getElem? hk1))) _ (by exact hgl)) (by simp [go_sem, hx0, hk1, hk2, hin] <;> rfl) (by simp [go_sem, hx0, hk1, hk2, hin]) rfl rfl ?_
       refine aL 1 (by simp [go_sem, hx0, hk1, hk2, hin] <;> rfl) ?_
       refine aF call59 ((c_flat_List [dsym sRec, dlist [dlist [xD f, dlist [xD y], mexpr b]], xD f]) _ (by exact hgl)) (by simp [go_sem, hx0, hk1, hk2, hin] <;> rfl) (by simp [go_sem, hx0, hk1, hk2, hin]) ?_
       refine aL 1 (by simp [go_sem, hx0, hk1, hk2, hin] <;> rfl) ?_
       refine al_nil ?_
       refine awp_ret ?_
       refine inBlock_ret ?_
       refine then_ret ?_
       refine ends_ret (by simp [go_sem] <;> rfl) (by simp [go_sem]) ?_
       exact ⟨by simp [go_sem, hM2], by simp [go_sem]⟩
     ·have hnf : isW d sFn = false := (Bool.not_eq_true _).mp fun e => absurd ((congrArg D.text hh).symm.trans (isW_iff.1 e).2) (of_decide_eq_false h4)
      refine awp_seq (aR (by simp [go_sem, hx0] <;> rfl) ?_)
      refine awp_cond (by first | rfl | (simp [go_sem, hx0] <;> rfl)) (fun h6 => ?_) (fun h6 => ?_)
      ·have hw : isW d sLet = true := isW_iff.2 ⟨hk3, (congrArg D.text hh).trans (of_decide_eq_true h6)⟩
       obtain ⟨y, a, b, hk1, hkk, hd1, hin, _⟩ := hg.lett hw
       have hM := mexpr_let hg hw hd1 hin
       rw [hh] at hM
       refine awp_seq (awp_regDC tyOk tySz 14 (by kernel_rfl) (by decide) ?_)
       refine ul_run 7 (by simp [go_sem, hx0, hk1, hin] <;> rfl) ?_
       refine ul_fn (by first | (intro _ _ hh; exact hh) | simp [go_sem]) rfl rfl rfl rfl (by simp [go_sem, hx0, hk1, hin] <;> rfl) call138 ((c_expr_1 y (hft y (List.mem_of_getElem? hk1))) _ (by exact hgl)) (by simp [go_sem, hx0, hk1, hin] <;> rfl) (by simp [go_sem, hx0, hk1, hin]) rfl rfl ?_
       refine ul_run 6 (by simp [go_sem, hx0, hk1, hin] <;> rfl) ?_
       refine ul_nil ?_
       refine aL 1 (by simp [go_sem, hx0, hk1, hin] <;> rfl) ?_
       refine aF call59 ((c_flat_List [x0, xD y, mexpr a, mexpr b]) _ (by exact hgl)) (by simp [go_sem, hx0, hk1, hin] <;> rfl) (by simp [go_sem, hx0, hk1, hin]) ?_
       refine aL 1 (by simp [go_sem, hx0, hk1, hin] <;> rfl) ?_
       refine al_nil ?_
       refine awp_ret ?_
       refine inBlock_ret ?_
       refine then_ret ?_
       refine ends_ret (by simp [go_sem, hx0, hk1, hin] <;> rfl) (by simp [go_sem]) ?_
       exact ⟨by simp [go_sem, hM], by simp [go_sem]⟩
      ·have hnl : isW d sLet = false := (Bool.not_eq_true _).mp fun e => absurd ((congrArg D.text hh).symm.trans (isW_iff.1 e).2) (of_decide_eq_false h6)
       refine awp_seq (aR (by simp [go_sem, hx0] <;> rfl) ?_)
       refine awp_cond (by first | rfl | (simp [go_sem, hx0] <;> rfl)) (fun h7 => ?_) (fun h7 => ?_)
       ·exact absurd (show isW d sApp = true from isW_iff.2 ⟨hk3, (congrArg D.text hh).trans (of_decide_eq_true h7)⟩) (by rw [hna]; decide)
       ·refine awp_seq ?_
        refine aR (by simp [go_sem, hx0] <;> rfl) ?_
        refine awp_cond (by first | rfl | (simp [go_sem, hx0] <;> rfl)) (fun h8 => ?_) (fun h8 => ?_)
        ·have hw : isW d sSay = true := isW_iff.2 ⟨hk3, (congrArg D.text hh).trans (of_decide_eq_true h8)⟩
         obtain ⟨a, hin, _⟩ := hg.say hw
         have hM := mexpr_say hw hin
         refine awp_seq (awp_regDC tyOk tySz 4 (by kernel_rfl) (by decide) ?_)
         refine ul_fn (by first | (intro _ _ hh; exact hh) | simp [go_sem]) rfl rfl rfl rfl (by simp [go_sem, hx0, hin] <;> rfl) call60 ((c_flat_Sym sPrn) _ (by exact hgl)) (by simp [go_sem, hx0, hin] <;> rfl) (by simp [go_sem, hx0, hin, ePrn]) rfl rfl ?_
         refine ul_run 3 (by simp [go_sem, hx0, hin] <;> rfl) ?_
         refine ul_nil ?_
         refine aL 1 (by simp [go_sem, hx0, hin] <;> rfl) ?_
         refine aF call59 ((c_flat_List [dsym sPrn, mexpr a]) _ (by exact hgl)) (by simp [go_sem, hx0, hin] <;> rfl) (by simp [go_sem, hx0, hin]) ?_
         refine aL 1 (by simp [go_sem, hx0, hin] <;> rfl) ?_
         refine al_nil ?_
         refine awp_ret ?_
         refine inBlock_ret ?_
         refine then_ret ?_
         refine ends_ret (by simp [go_sem, hx0, hin] <;> rfl) (by simp [go_sem]) ?_
         exact ⟨by simp [go_sem, hM], by simp [go_sem]⟩
        ·have hns : isW d sSay = false := (Bool.not_eq_true _).mp fun e => absurd ((congrArg D.text hh).symm.trans (isW_iff.1 e).2) (of_decide_eq_false h8)
         have hM := mexpr_op hk3 hnq hnf hnl hna hns
         rw [hh] at hM
         have hb3 : (1 + (inner d).length) * 56 ≤ 140737488355328 := by omega
         have hall : allSz 4 ((inner d).map (enc ∘ mexpr)) = true := by rw [← List.map_map]; exact allSz_enc _
         refine awp_skip ?_
         refine awp_seq (awp_reg ?_)
         refine aL 6 (by simp [go_sem, hx0, hb3, hall] <;> rfl) ?_
         refine aF call59 ((c_flat_List (x0 :: (inner d).map mexpr)) _ (by exact hgl)) (by simp [go_sem, hx0, hb3, hall] <;> rfl) (by simp [go_sem, hx0, hb3, hall]) ?_
         refine aL 1 (by simp [go_sem, hx0, hb3, hall] <;> rfl) ?_
         refine al_nil ?_
         refine awp_ret ?_
         refine ends_ret (by simp [go_sem, hx0, hb3, hall] <;> rfl) (by simp [go_sem]) ?_
         exact ⟨by simp [go_sem, hM], by simp [go_sem]⟩

set_option maxHeartbeats 4000000 in
theorem c_expr_app (d : D) (hg : GoodM d) (hd : d.size ≤ 100000000) (ih : ∀ x, x ∈ inner d → Pur Tryz.prog (GL kr) 91 [.pv (enc x)] (.pv (enc (mexpr x)))) (hw : isW d sApp = true) : Pur Tryz.prog (GL kr) 91 [.pv (enc d)] (.pv (enc (mexpr d))) := by
 have hkl := D.kids_length_lt d
 obtain ⟨a, b, hin, hkk, hk3, hht⟩ := hg.app hw
 have hM := mexpr_app hw hin
 have hx0 : d.kids[0]? = some d.head := by rw [hkk]; rfl
 have hkA : (d.kind == 2) = false := by rw [hk3]; rfl
 have hkB : (d.kind == 1) = false := by rw [hk3]; rfl
 have hgx : gX = dsym ⟨#[120, 46]⟩ := rfl
 have hn1 : decide (d.head.text = ⟨#[102, 110]⟩) = false := by rw [hht]; decide
 have hn2 : decide (d.head.text = ⟨#[108, 101, 116]⟩) = false := by rw [hht]; decide
 have hn3 : decide (d.head.text = ⟨#[97, 112, 112]⟩) = true := by rw [hht]; decide
 have hnq : isW d sQuote = false := by unfold isW; rw [hht, hk3]; decide
 have hw1 : IntKind.i64.wrap 1 = 1 := by decide
 have hw2 : IntKind.i64.wrap 2 = 2 := by decide
 obtain ⟨NEWA, hNA⟩ : ∃ z, z = dlist [dsym sLet, gX, mexpr a, gX] := ⟨_, rfl⟩
 rw [← hNA] at hM
 refine pur_of fun σ hgl => ?_
 refine acalls_of tyOk Tryz.func91 rfl (by simp [Tryz.f91]) ?_
 refine awp_seq (aR (by simp [go_sem, flat2_enc, hkA, hkB, hin, hx0, hn1, hn2, hn3, hw1, hw2] <;> rfl) ?_)
 refine awp_seq (aR (by simp [go_sem, flat2_enc, hkA, hkB, hin, hx0, hn1, hn2, hn3, hw1, hw2] <;> rfl) ?_)
 refine awp_seq (awp_block ?_)
 refine awp_seq (aR (by simp [go_sem, flat2_enc, hkA, hkB, hin, hx0, hn1, hn2, hn3, hw1, hw2] <;> rfl) ?_)
 refine awp_cond (by first | rfl | (simp [go_sem, flat2_enc, hkA, hkB, hin, hx0, hn1, hn2, hn3, hw1, hw2] <;> rfl)) (fun h0 => ?_) (fun h0 => ?_)
 ·first | (cases h0; done) | (simp at h0; done)
 ·refine awp_seq ?_
  refine awp_reg ?_
  refine aL 4 (by simp [go_sem, flat2_enc, hkA, hkB, hin, hx0, hn1, hn2, hn3, hw1, hw2] <;> rfl) ?_
  refine al_splitT 20 (by first | rfl | (simp [go_sem, flat2_enc, hkA, hkB, hin, hx0, hn1, hn2, hn3, hw1, hw2] <;> rfl)) (fun h1 => ?_) (fun h1 => ?_)
  ·first | (cases h1; done) | (simp at h1; done)
  ·refine aLG 1 20 false (by simp [go_sem, flat2_enc, hkA, hkB, hin, hx0, hn1, hn2, hn3, hw1, hw2] <;> rfl) ?_
   refine al_fnG 20 false false (by simp [go_sem]) rfl (by simp [go_sem]) rfl rfl (by simp [go_sem, flat2_enc, hkA, hkB, hin, hx0, hn1, hn2, hn3, hw1, hw2] <;> rfl) call58 ((c_Is d sQuote hg.ne) _ (by exact hgl)) (by simp [go_sem, flat2_enc, hkA, hkB, hin, hx0, hn1, hn2, hn3, hw1, hw2] <;> rfl) (by simp [go_sem, flat2_enc, hkA, hkB, hin, hx0, hn1, hn2, hn3, hw1, hw2, eQuote]) rfl rfl ?_
   refine aL 2 (by simp [go_sem, flat2_enc, hkA, hkB, hin, hx0, hn1, hn2, hn3, hw1, hw2, hnq] <;> rfl) ?_
   refine al_nil ?_
   refine awp_cond (by first | rfl | (simp [go_sem, flat2_enc, hkA, hkB, hin, hx0, hn1, hn2, hn3, hw1, hw2, hnq] <;> rfl)) (fun h2 => ?_) (fun h2 => ?_)
   ·first | (cases h2; done) | (simp at h2; done)
   ·refine awp_skip ?_
    refine awp_seq (aR (by simp [go_sem, flat2_enc, hkA, hkB, hin, hx0, hn1, hn2, hn3, hw1, hw2, hnq] <;> rfl) ?_)
    refine awp_seq (awp_seq (awp_reg ?_))
    refine aL 1 (by simp [go_sem, flat2_enc, hkA, hkB, hin, hx0, hn1, hn2, hn3, hw1, hw2, hnq] <;> rfl) ?_
    refine aF call113 ((c_Inner d hg.ne hg.n) _ (by exact hgl)) (by simp [go_sem, flat2_enc, hkA, hkB, hin, hx0, hn1, hn2, hn3, hw1, hw2, hnq] <;> rfl) (by simp [go_sem, flat2_enc, hkA, hkB, hin, hx0, hn1, hn2, hn3, hw1, hw2, hnq]) ?_
    refine aL 2 (by simp [go_sem, flat2_enc, hkA, hkB, hin, hx0, hn1, hn2, hn3, hw1, hw2, hnq] <;> rfl) ?_
    refine al_nil ?_
    refine awp_block ?_
    refine awp_loopL (awpL_round ?_)
    refine awp_seq (aR (by simp [go_sem, flat2_enc, hkA, hkB, hin, hx0, hn1, hn2, hn3, hw1, hw2, hnq] <;> rfl) ?_)
    refine awp_seq (awp_cond (b := true) (by simp [go_sem, flat2_enc, hkA, hkB, hin, hx0, hn1, hn2, hn3, hw1, hw2, hnq, h0, h1, h2]) (fun h => ?_) (fun h => ?_))
    rotate_left
    ·cases h
    refine awp_skip ?_
    refine awp_seq (awp_block ?_)
    refine awp_seq (aR (by simp [go_sem, flat2_enc, hkA, hkB, hin, hx0, hn1, hn2, hn3, hw1, hw2, hnq] <;> rfl) ?_)
    refine awp_reg ?_
    refine aL 2 (by simp [go_sem, flat2_enc, hkA, hkB, hin, hx0, hn1, hn2, hn3, hw1, hw2, hnq] <;> rfl) ?_
    refine aF call91 ((ih a (by rw [hin]; simp)) _ (by exact hgl)) (by simp [go_sem, flat2_enc, hkA, hkB, hin, hx0, hn1, hn2, hn3, hw1, hw2, hnq] <;> rfl) (by simp [go_sem, flat2_enc, hkA, hkB, hin, hx0, hn1, hn2, hn3, hw1, hw2, hnq]) ?_
    refine aL 1 (by simp [go_sem, flat2_enc, hkA, hkB, hin, hx0, hn1, hn2, hn3, hw1, hw2, hnq] <;> rfl) ?_
    refine al_appendNil tyOk 4 (ys := [enc (mexpr a)]) rfl rfl rfl rfl rfl rfl (by simp [go_sem , flat2_enc, hkA, hkB, hin, hx0, hn1, hn2, hn3, hw1, hw2, hnq] <;> rfl) (by simp [go_sem , flat2_enc, hkA, hkB, hin, hx0, hn1, hn2, hn3, hw1, hw2, hnq] <;> rfl) (by simp) (by simp [go_sem]) (by decide) (show 1 * 56 ≤ 140737488355328 by decide) rfl fun cap hcap => ?_
    refine aL 1 (by simp [go_sem, flat2_enc, hkA, hkB, hin, hx0, hn1, hn2, hn3, hw1, hw2, hnq] <;> rfl) ?_
    refine al_nil ?_
    refine aR (by simp [go_sem, flat2_enc, hkA, hkB, hin, hx0, hn1, hn2, hn3, hw1, hw2, hnq] <;> rfl) ?_
    refine awpL_round ?_
    refine awp_seq (aR (by simp [go_sem, flat2_enc, hkA, hkB, hin, hx0, hn1, hn2, hn3, hw1, hw2, hnq] <;> rfl) ?_)
    refine awp_seq (awp_cond (b := true) (by simp [go_sem, flat2_enc, hkA, hkB, hin, hx0, hn1, hn2, hn3, hw1, hw2, hnq, h0, h1, h2]) (fun h => ?_) (fun h => ?_))
    rotate_left
    ·cases h
    refine awp_skip ?_
    refine awp_seq (awp_block ?_)
    refine awp_seq (aR (by simp [go_sem, flat2_enc, hkA, hkB, hin, hx0, hn1, hn2, hn3, hw1, hw2, hnq] <;> rfl) ?_)
    refine awp_reg ?_
    refine aL 2 (by simp [go_sem, flat2_enc, hkA, hkB, hin, hx0, hn1, hn2, hn3, hw1, hw2, hnq] <;> rfl) ?_
    refine aF call91 ((ih b (by rw [hin]; simp)) _ (by exact hgl)) (by simp [go_sem, flat2_enc, hkA, hkB, hin, hx0, hn1, hn2, hn3, hw1, hw2, hnq] <;> rfl) (by simp [go_sem, flat2_enc, hkA, hkB, hin, hx0, hn1, hn2, hn3, hw1, hw2, hnq]) ?_
    refine aL 1 (by simp [go_sem, flat2_enc, hkA, hkB, hin, hx0, hn1, hn2, hn3, hw1, hw2, hnq] <;> rfl) ?_
    refine al_growRow tyOk 4 (ob := σ.objs.length) (cap := cap) (n := 1) (xs := [enc (mexpr a)]) (y := enc (mexpr b)) rfl rfl rfl rfl rfl rfl rfl (by simp [go_sem , flat2_enc, hkA, hkB, hin, hx0, hn1, hn2, hn3, hw1, hw2, hnq] <;> rfl) (by simp [go_sem , flat2_enc, hkA, hkB, hin, hx0, hn1, hn2, hn3, hw1, hw2, hnq] <;> rfl) (by simp) (by simp [go_sem , flat2_enc, hkA, hkB, hin, hx0, hn1, hn2, hn3, hw1, hw2, hnq] <;> rfl) (by rw [enc_cells]; rfl) (by decide) (by decide) rfl (fun hroom => ?_) (fun cap' hgrow => ?_)
    ·refine aL 1 (by simp [go_sem, flat2_enc, hkA, hkB, hin, hx0, hn1, hn2, hn3, hw1, hw2, hnq] <;> rfl) ?_
     refine al_nil ?_
     refine aR (by simp [go_sem, flat2_enc, hkA, hkB, hin, hx0, hn1, hn2, hn3, hw1, hw2, hnq] <;> rfl) ?_
     refine awpL_round ?_
     refine awp_seq (aR (by simp [go_sem, flat2_enc, hkA, hkB, hin, hx0, hn1, hn2, hn3, hw1, hw2, hnq] <;> rfl) ?_)
     refine awp_seq (awp_cond (b := false) (by simp [go_sem, flat2_enc, hkA, hkB, hin, hx0, hn1, hn2, hn3, hw1, hw2, hnq, h0, h1, h2]) (fun h => ?_) (fun h => ?_))
     ·cases h
     refine awp_exit ?_
     refine then_exit ?_
     refine then_exit ?_
     refine inBlock_hit ?_
     refine awp_seq (aR (by simp [go_sem, flat2_enc, hkA, hkB, hin, hx0, hn1, hn2, hn3, hw1, hw2, hnq] <;> rfl) ?_)
     refine awp_seq (awp_seq (aR (by simp [go_sem, flat2_enc, hkA, hkB, hin, hx0, hn1, hn2, hn3, hw1, hw2, hnq] <;> rfl) ?_))
     refine awp_block ?_
     refine awp_seq (aR (by simp [go_sem, flat2_enc, hkA, hkB, hin, hx0, hn1, hn2, hn3, hw1, hw2, hnq] <;> rfl) ?_)
     refine awp_cond (by first | rfl | (simp [go_sem, flat2_enc, hkA, hkB, hin, hx0, hn1, hn2, hn3, hw1, hw2, hnq] <;> rfl)) (fun h3 => ?_) (fun h3 => ?_)
     ·first | (cases h3; done) | (simp at h3; done)
     ·refine awp_seq ?_
      refine aR (by simp [go_sem, flat2_enc, hkA, hkB, hin, hx0, hn1, hn2, hn3, hw1, hw2, hnq] <;> rfl) ?_
      refine awp_cond (by first | rfl | (simp [go_sem, flat2_enc, hkA, hkB, hin, hx0, hn1, hn2, hn3, hw1, hw2, hnq] <;> rfl)) (fun h4 => ?_) (fun h4 => ?_)
      ·first | (cases h4; done) | (simp at h4; done)
      ·refine awp_seq ?_
       refine aR (by simp [go_sem, flat2_enc, hkA, hkB, hin, hx0, hn1, hn2, hn3, hw1, hw2, hnq] <;> rfl) ?_
       refine awp_cond (by first | rfl | (simp [go_sem, flat2_enc, hkA, hkB, hin, hx0, hn1, hn2, hn3, hw1, hw2, hnq] <;> rfl)) (fun h5 => ?_) (fun h5 => ?_)
       ·refine awp_seq ?_
        refine awp_seq (aR (by simp [go_sem, flat2_enc, hkA, hkB, hin, hx0, hn1, hn2, hn3, hw1, hw2, hnq] <;> rfl) ?_)
        refine awp_cond (by first | rfl | (simp [go_sem, flat2_enc, hkA, hkB, hin, hx0, hn1, hn2, hn3, hw1, hw2, hnq] <;> rfl)) (fun h6 => ?_) (fun h6 => ?_)
        ·rw [if_pos h6] at hM
         refine awp_seq (awp_reg ?_)
         refine aF call60 ((c_flat_Sym ⟨#[120, 46]⟩) _ (by exact hgl)) (by simp [go_sem, flat2_enc, hkA, hkB, hin, hx0, hn1, hn2, hn3, hw1, hw2, hnq] <;> rfl) (by simp [go_sem, flat2_enc, hkA, hkB, hin, hx0, hn1, hn2, hn3, hw1, hw2, hnq]) ?_
         refine aL 2 (by simp [go_sem, flat2_enc, hkA, hkB, hin, hx0, hn1, hn2, hn3, hw1, hw2, hnq] <;> rfl) ?_
         refine al_nil ?_
         refine awp_regDP tyOk tySz 9 (by kernel_rfl) (by decide) ?_
         refine ul_run 1 (by simp [go_sem, flat2_enc, hkA, hkB, hin, hx0, hn1, hn2, hn3, hw1, hw2, hnq] <;> rfl) ?_
         refine ul_fn (by first | (intro _ _ hh; exact hh) | simp [go_sem]) rfl rfl rfl rfl (by simp [go_sem, flat2_enc, hkA, hkB, hin, hx0, hn1, hn2, hn3, hw1, hw2, hnq] <;> rfl) call60 ((c_flat_Sym sLet) _ (by exact hgl)) (by simp [go_sem, flat2_enc, hkA, hkB, hin, hx0, hn1, hn2, hn3, hw1, hw2, hnq] <;> rfl) (by simp [go_sem, flat2_enc, hkA, hkB, hin, hx0, hn1, hn2, hn3, hw1, hw2, hnq, eLet]) rfl rfl ?_
         refine ul_run 6 (by simp [go_sem, flat2_enc, hkA, hkB, hin, hx0, hn1, hn2, hn3, hw1, hw2, hnq] <;> rfl) ?_
         refine ul_fn (by first | (intro _ _ hh; exact hh) | simp [go_sem]) rfl rfl rfl rfl (by simp [go_sem, flat2_enc, hkA, hkB, hin, hx0, hn1, hn2, hn3, hw1, hw2, hnq] <;> rfl) call59 ((c_flat_List [dsym sLet, gX, mexpr a, gX]) _ (by exact hgl)) (by simp [go_sem, flat2_enc, hkA, hkB, hin, hx0, hn1, hn2, hn3, hw1, hw2, hnq] <;> rfl) (by simp [go_sem, flat2_enc, hkA, hkB, hin, hx0, hn1, hn2, hn3, hw1, hw2, hnq, hgx]) rfl rfl ?_
         refine ul_nil ?_
         refine aL 1 (by simp [go_sem, flat2_enc, hkA, hkB, hin, hx0, hn1, hn2, hn3, hw1, hw2, hnq, ← hNA] <;> rfl) ?_
         refine al_storeRow tyOk (e := 24) (i := σ.objs.length) (cap := cap) (xs := [enc (mexpr a), enc (mexpr b)]) 0 4 (enc NEWA) rfl rfl (by simp [go_sem , flat2_enc, hkA, hkB, hin, hx0, hn1, hn2, hn3, hw1, hw2, hnq, ← hNA] <;> rfl) rfl rfl (by simp [go_sem , flat2_enc, hkA, hkB, hin, hx0, hn1, hn2, hn3, hw1, hw2, hnq, ← hNA] <;> rfl) (by simp) (Eq.trans (congrArg toPV (show _ = AV.pv (enc NEWA) from by simp [go_sem , flat2_enc, hkA, hkB, hin, hx0, hn1, hn2, hn3, hw1, hw2, hnq, ← hNA])) (toPV_enc _)) (by rw [enc_cells]; rfl) rfl ?_
         ·refine al_nil ?_
          refine awp_seq (awp_freezeK (ob := σ.objs.length) (cap := cap) (sz := 4) (e := 24) 4 [1, 2, 3] σ (xs := [NEWA, mexpr b].map enc) (by simp [go_sem] <;> rfl) (by simp [go_sem] <;> rfl) (by intro h; have := congrArg List.length h; simp at this) (by simp [go_sem]) (by simp [go_sem]) (by simp [go_sem]) (by simp [go_sem]) (fun ob h => by first | exact .inl (by simpa [go_sem] using h) | (simp [go_sem] at h; rcases h with h | h; exact .inl h; subst h; exact .inr rfl)) (by simp [go_sem]) ?_)
          refine awp_reg ?_
          refine aL 1 (by simp [go_sem, flat2_enc, hkA, hkB, hin, hx0, hn1, hn2, hn3, hw1, hw2, hnq, ← hNA] <;> rfl) ?_
          refine aF call59 ((c_flat_List [NEWA, mexpr b]) _ (by exact hgl)) (by simp [go_sem, flat2_enc, hkA, hkB, hin, hx0, hn1, hn2, hn3, hw1, hw2, hnq, ← hNA] <;> rfl) (by simp [go_sem, flat2_enc, hkA, hkB, hin, hx0, hn1, hn2, hn3, hw1, hw2, hnq, ← hNA]) ?_
          refine aL 1 (by simp [go_sem, flat2_enc, hkA, hkB, hin, hx0, hn1, hn2, hn3, hw1, hw2, hnq, ← hNA] <;> rfl) ?_
          refine al_nil ?_
          refine awp_ret ?_
          refine inBlock_ret ?_
          refine then_ret ?_
          refine ends_ret (by simp [go_sem, flat2_enc, hkA, hkB, hin, hx0, hn1, hn2, hn3, hw1, hw2, hnq, ← hNA] <;> rfl) (by simp [go_sem]) ?_
          exact ⟨by simp [go_sem, hM], by simp [go_sem]⟩
        ·rw [h6, if_neg (by decide)] at hM
         refine awp_skip ?_
         refine awp_seq (awp_freezeK (ob := σ.objs.length) (cap := cap) (sz := 4) (e := 24) 4 [1, 2, 3] σ (xs := [mexpr a, mexpr b].map enc) (by simp [go_sem] <;> rfl) (by simp [go_sem] <;> rfl) (by intro h; have := congrArg List.length h; simp at this) (by simp [go_sem]) (by simp [go_sem]) (by simp [go_sem]) (by simp [go_sem]) (fun ob h => by first | exact .inl (by simpa [go_sem] using h) | (simp [go_sem] at h; rcases h with h | h; exact .inl h; subst h; exact .inr rfl)) (by simp [go_sem]) ?_)
         refine awp_reg ?_
         refine aL 1 (by simp [go_sem, flat2_enc, hkA, hkB, hin, hx0, hn1, hn2, hn3, hw1, hw2, hnq] <;> rfl) ?_
         refine aF call59 ((c_flat_List [mexpr a, mexpr b]) _ (by exact hgl)) (by simp [go_sem, flat2_enc, hkA, hkB, hin, hx0, hn1, hn2, hn3, hw1, hw2, hnq] <;> rfl) (by simp [go_sem, flat2_enc, hkA, hkB, hin, hx0, hn1, hn2, hn3, hw1, hw2, hnq]) ?_
         refine aL 1 (by simp [go_sem, flat2_enc, hkA, hkB, hin, hx0, hn1, hn2, hn3, hw1, hw2, hnq] <;> rfl) ?_
         refine al_nil ?_
         refine awp_ret ?_
         refine inBlock_ret ?_
         refine then_ret ?_
         refine ends_ret (by simp [go_sem, flat2_enc, hkA, hkB, hin, hx0, hn1, hn2, hn3, hw1, hw2, hnq] <;> rfl) (by simp [go_sem]) ?_
         exact ⟨by simp [go_sem, hM], by simp [go_sem]⟩
       ·first | (cases h5; done) | (simp at h5; done)
    ·refine aL 1 (by simp [go_sem, flat2_enc, hkA, hkB, hin, hx0, hn1, hn2, hn3, hw1, hw2, hnq] <;> rfl) ?_
     refine al_nil ?_
     refine aR (by simp [go_sem, flat2_enc, hkA, hkB, hin, hx0, hn1, hn2, hn3, hw1, hw2, hnq] <;> rfl) ?_
     refine awpL_round ?_
     refine awp_seq (aR (by simp [go_sem, flat2_enc, hkA, hkB, hin, hx0, hn1, hn2, hn3, hw1, hw2, hnq] <;> rfl) ?_)
     refine awp_seq (awp_cond (b := false) (by simp [go_sem, flat2_enc, hkA, hkB, hin, hx0, hn1, hn2, hn3, hw1, hw2, hnq, h0, h1, h2]) (fun h => ?_) (fun h => ?_))
     ·cases h
     refine awp_exit ?_
     refine then_exit ?_
     refine then_exit ?_
     refine inBlock_hit ?_
     refine awp_seq (aR (by simp [go_sem, flat2_enc, hkA, hkB, hin, hx0, hn1, hn2, hn3, hw1, hw2, hnq] <;> rfl) ?_)
     refine awp_seq (awp_seq (aR (by simp [go_sem, flat2_enc, hkA, hkB, hin, hx0, hn1, hn2, hn3, hw1, hw2, hnq] <;> rfl) ?_))
     refine awp_block ?_
     refine awp_seq (aR (by simp [go_sem, flat2_enc, hkA, hkB, hin, hx0, hn1, hn2, hn3, hw1, hw2, hnq] <;> rfl) ?_)
     refine awp_cond (by first | rfl | (simp [go_sem, flat2_enc, hkA, hkB, hin, hx0, hn1, hn2, hn3, hw1, hw2, hnq] <;> rfl)) (fun h7 => ?_) (fun h7 => ?_)
     ·first | (cases h7; done) | (simp at h7; done)
     ·refine awp_seq ?_
      refine aR (by simp [go_sem, flat2_enc, hkA, hkB, hin, hx0, hn1, hn2, hn3, hw1, hw2, hnq] <;> rfl) ?_
      refine awp_cond (by first | rfl | (simp [go_sem, flat2_enc, hkA, hkB, hin, hx0, hn1, hn2, hn3, hw1, hw2, hnq] <;> rfl)) (fun h8 => ?_) (fun h8 => ?_)
      ·first | (cases h8; done) | (simp at h8; done)
      ·refine awp_seq ?_
       refine aR (by simp [go_sem, flat2_enc, hkA, hkB, hin, hx0, hn1, hn2, hn3, hw1, hw2, hnq] <;> rfl) ?_
       refine awp_cond (by first | rfl | (simp [go_sem, flat2_enc, hkA, hkB, hin, hx0, hn1, hn2, hn3, hw1, hw2, hnq] <;> rfl)) (fun h9 => ?_) (fun h9 => ?_)
       ·refine awp_seq ?_
        refine awp_seq (aR (by simp [go_sem, flat2_enc, hkA, hkB, hin, hx0, hn1, hn2, hn3, hw1, hw2, hnq] <;> rfl) ?_)
        refine awp_cond (by first | rfl | (simp [go_sem, flat2_enc, hkA, hkB, hin, hx0, hn1, hn2, hn3, hw1, hw2, hnq] <;> rfl)) (fun h10 => ?_) (fun h10 => ?_)
        ·rw [if_pos h10] at hM
         refine awp_seq (awp_reg ?_)
         refine aF call60 ((c_flat_Sym ⟨#[120, 46]⟩) _ (by exact hgl)) (by simp [go_sem, flat2_enc, hkA, hkB, hin, hx0, hn1, hn2, hn3, hw1, hw2, hnq] <;> rfl) (by simp [go_sem, flat2_enc, hkA, hkB, hin, hx0, hn1, hn2, hn3, hw1, hw2, hnq]) ?_
         refine aL 2 (by simp [go_sem, flat2_enc, hkA, hkB, hin, hx0, hn1, hn2, hn3, hw1, hw2, hnq] <;> rfl) ?_
         refine al_nil ?_
         refine awp_regDP tyOk tySz 9 (by kernel_rfl) (by decide) ?_
         refine ul_run 1 (by simp [go_sem, flat2_enc, hkA, hkB, hin, hx0, hn1, hn2, hn3, hw1, hw2, hnq] <;> rfl) ?_
         refine ul_fn (by first | (intro _ _ hh; exact hh) | simp [go_sem]) rfl rfl rfl rfl (by simp [go_sem, flat2_enc, hkA, hkB, hin, hx0, hn1, hn2, hn3, hw1, hw2, hnq] <;> rfl) call60 ((c_flat_Sym sLet) _ (by exact hgl)) (by simp [go_sem, flat2_enc, hkA, hkB, hin, hx0, hn1, hn2, hn3, hw1, hw2, hnq] <;> rfl) (by simp [go_sem, flat2_enc, hkA, hkB, hin, hx0, hn1, hn2, hn3, hw1, hw2, hnq, eLet]) rfl rfl ?_
         refine ul_run 6 (by simp [go_sem, flat2_enc, hkA, hkB, hin, hx0, hn1, hn2, hn3, hw1, hw2, hnq] <;> rfl) ?_
         refine ul_fn (by first | (intro _ _ hh; exact hh) | simp [go_sem]) rfl rfl rfl rfl (by simp [go_sem, flat2_enc, hkA, hkB, hin, hx0, hn1, hn2, hn3, hw1, hw2, hnq] <;> rfl) call59 ((c_flat_List [dsym sLet, gX, mexpr a, gX]) _ (by exact hgl)) (by simp [go_sem, flat2_enc, hkA, hkB, hin, hx0, hn1, hn2, hn3, hw1, hw2, hnq] <;> rfl) (by simp [go_sem, flat2_enc, hkA, hkB, hin, hx0, hn1, hn2, hn3, hw1, hw2, hnq, hgx]) rfl rfl ?_
         refine ul_nil ?_
         refine aL 1 (by simp [go_sem, flat2_enc, hkA, hkB, hin, hx0, hn1, hn2, hn3, hw1, hw2, hnq, ← hNA] <;> rfl) ?_
         refine al_storeRow tyOk (e := 24) (i := (σ.objs.length + 1)) (cap := cap') (xs := [enc (mexpr a), enc (mexpr b)]) 0 4 (enc NEWA) rfl rfl (by simp [go_sem , flat2_enc, hkA, hkB, hin, hx0, hn1, hn2, hn3, hw1, hw2, hnq, ← hNA] <;> rfl) rfl rfl (by simp [go_sem , flat2_enc, hkA, hkB, hin, hx0, hn1, hn2, hn3, hw1, hw2, hnq, ← hNA] <;> rfl) (by simp) (Eq.trans (congrArg toPV (show _ = AV.pv (enc NEWA) from by simp [go_sem , flat2_enc, hkA, hkB, hin, hx0, hn1, hn2, hn3, hw1, hw2, hnq, ← hNA])) (toPV_enc _)) (by rw [enc_cells]; rfl) rfl ?_
         ·refine al_nil ?_
          refine awp_seq (awp_freezeK (ob := (σ.objs.length + 1)) (cap := cap') (sz := 4) (e := 24) 4 [1, 2, 3] { σ with objs := σ.objs ++ [.row 24 4 cap [enc (mexpr a)]] } (xs := [NEWA, mexpr b].map enc) (by simp [go_sem] <;> rfl) (by simp [go_sem] <;> rfl) (by intro h; have := congrArg List.length h; simp at this) (by simp [go_sem]) (by simp [go_sem]) (by simp [go_sem]) (by simp [go_sem]) (fun ob h => by first | exact .inl (by simpa [go_sem] using h) | (simp [go_sem] at h; rcases h with h | h; exact .inl h; subst h; exact .inr rfl)) (by simp [go_sem]) ?_)
          refine awp_reg ?_
          refine aL 1 (by simp [go_sem, flat2_enc, hkA, hkB, hin, hx0, hn1, hn2, hn3, hw1, hw2, hnq, ← hNA] <;> rfl) ?_
          refine aF call59 ((c_flat_List [NEWA, mexpr b]) _ (by exact hgl)) (by simp [go_sem, flat2_enc, hkA, hkB, hin, hx0, hn1, hn2, hn3, hw1, hw2, hnq, ← hNA] <;> rfl) (by simp [go_sem, flat2_enc, hkA, hkB, hin, hx0, hn1, hn2, hn3, hw1, hw2, hnq, ← hNA]) ?_
          refine aL 1 (by simp [go_sem, flat2_enc, hkA, hkB, hin, hx0, hn1, hn2, hn3, hw1, hw2, hnq, ← hNA] <;> rfl) ?_
          refine al_nil ?_
          refine awp_ret ?_
          refine inBlock_ret ?_
          refine then_ret ?_
          refine ends_ret (by simp [go_sem, flat2_enc, hkA, hkB, hin, hx0, hn1, hn2, hn3, hw1, hw2, hnq, ← hNA] <;> rfl) (by simp [go_sem]) ?_
          exact ⟨by simp [go_sem, hM], by simp [go_sem]⟩
        ·rw [h10, if_neg (by decide)] at hM
         refine awp_skip ?_
         refine awp_seq (awp_freezeK (ob := (σ.objs.length + 1)) (cap := cap') (sz := 4) (e := 24) 4 [1, 2, 3] { σ with objs := σ.objs ++ [.row 24 4 cap [enc (mexpr a)]] } (xs := [mexpr a, mexpr b].map enc) (by simp [go_sem] <;> rfl) (by simp [go_sem] <;> rfl) (by intro h; have := congrArg List.length h; simp at this) (by simp [go_sem]) (by simp [go_sem]) (by simp [go_sem]) (by simp [go_sem]) (fun ob h => by first | exact .inl (by simpa [go_sem] using h) | (simp [go_sem] at h; rcases h with h | h; exact .inl h; subst h; exact .inr rfl)) (by simp [go_sem]) ?_)
         refine awp_reg ?_
         refine aL 1 (by simp [go_sem, flat2_enc, hkA, hkB, hin, hx0, hn1, hn2, hn3, hw1, hw2, hnq] <;> rfl) ?_
         refine aF call59 ((c_flat_List [mexpr a, mexpr b]) _ (by exact hgl)) (by simp [go_sem, flat2_enc, hkA, hkB, hin, hx0, hn1, hn2, hn3, hw1, hw2, hnq] <;> rfl) (by simp [go_sem, flat2_enc, hkA, hkB, hin, hx0, hn1, hn2, hn3, hw1, hw2, hnq]) ?_
         refine aL 1 (by simp [go_sem, flat2_enc, hkA, hkB, hin, hx0, hn1, hn2, hn3, hw1, hw2, hnq] <;> rfl) ?_
         refine al_nil ?_
         refine awp_ret ?_
         refine inBlock_ret ?_
         refine then_ret ?_
         refine ends_ret (by simp [go_sem, flat2_enc, hkA, hkB, hin, hx0, hn1, hn2, hn3, hw1, hw2, hnq] <;> rfl) (by simp [go_sem]) ?_
         exact ⟨by simp [go_sem, hM], by simp [go_sem]⟩
       ·first | (cases h9; done) | (simp at h9; done)

theorem c_expr (d : D) : ∀ (hg : GoodM d) (hd : d.size ≤ 100000000), Pur Tryz.prog (GL kr) 91 [.pv (enc d)] (.pv (enc (mexpr d))) := by
  induction d using D.ind with
  | _ kind num text kids ih =>
    generalize hD : D.mk kind num text kids = d at *
    have hk : d.kids = kids := by rw [← hD]; rfl
    clear hD
    subst hk
    intro hg hd
    have ih2 : ∀ x, x ∈ inner d → Pur Tryz.prog (GL kr) 91 [.pv (enc x)] (.pv (enc (mexpr x))) := fun x hx => ih x (inner_mem hx) (hg.part hx) (by have := D.size_kid_lt (inner_mem hx); omega)
    cases hw : isW d sApp with
    | true => exact c_expr_app d hg hd ih2 hw
    | false => exact c_expr_other d hg hd ih2 hw

set_option maxHeartbeats 1000000 in
theorem c_mExpr (d : D) (hd : d.size ≤ 100000000) : Pur Tryz.prog (GL kr) 41 [.pv (enc d)] (.tuple [.pv (enc (mexprR d).1), .pv (.int .i64 (mexprR d).2)]) := by
 refine pur_of fun σ hgl => ?_
 refine acalls_of tyOk Tryz.func41 rfl (by simp [Tryz.f41]) ?_
 refine awp_seq (aR (by simp [go_sem] <;> rfl) ?_)
 refine awp_seq (awp_seq (awp_reg ?_))
 refine aL 1 (by simp [go_sem] <;> rfl) ?_
 refine aF call21 ((c_mCheck d (by omega)) _ (by exact hgl)) (by simp [go_sem] <;> rfl) (by simp [go_sem]) ?_
 refine aL 1 (by simp [go_sem] <;> rfl) ?_
 refine al_nil ?_
 refine awp_seq (aR (by simp [go_sem] <;> rfl) ?_)
 refine awp_cond (by first | rfl | (simp [go_sem] <;> rfl)) (fun h0 => ?_) (fun h0 => ?_)
 ·refine awp_seq ?_
  refine aR (by simp [go_sem] <;> rfl) ?_
  refine awp_ret ?_
  refine then_ret ?_
  have hM : mexprR d = (dnone, mcheck d) := by unfold mexprR; rw [if_pos h0]
  refine ends_ret (by simp [go_sem] <;> rfl) (by simp [go_sem]) ?_
  exact ⟨by simp [go_sem, hM, enc_none], by simp [go_sem]⟩
 ·have hz : mcheck d = 0 := by simpa using h0
  have hg := mcheck_good hz
  refine awp_skip ?_
  refine awp_seq (awp_block ?_)
  refine awp_seq (awp_reg ?_)
  refine aL 1 (by simp [go_sem] <;> rfl) ?_
  refine aF call62 ((c_FreeNames d hg hd) _ (by exact hgl)) (by simp [go_sem] <;> rfl) (by simp [go_sem]) ?_
  refine aL 3 (by simp [go_sem] <;> rfl) ?_
  refine al_nil ?_
  refine awp_cond (by first | rfl | (simp [go_sem] <;> rfl)) (fun h1 => ?_) (fun h1 => ?_)
  ·refine awp_seq ?_
   refine aR (by simp [go_sem] <;> rfl) ?_
   refine awp_ret ?_
   refine inBlock_ret ?_
   refine then_ret ?_
   have hM : mexprR d = (dnone, 12) := by unfold mexprR; rw [if_neg (by rw [h0]; decide)]; rw [if_pos h1]
   refine ends_ret (by simp [go_sem] <;> rfl) (by simp [go_sem]) ?_
   exact ⟨by simp [go_sem, hM, enc_none], by simp [go_sem]⟩
  ·refine awp_seq ?_
   refine awp_reg ?_
   refine aL 1 (by simp [go_sem] <;> rfl) ?_
   refine aF call54 ((c_one d hg (by omega)) _ (by exact hgl)) (by simp [go_sem] <;> rfl) (by simp [go_sem]) ?_
   refine aL 2 (by simp [go_sem] <;> rfl) ?_
   refine al_nil ?_
   refine awp_cond (by first | rfl | (simp [go_sem] <;> rfl)) (fun h2 => ?_) (fun h2 => ?_)
   ·refine awp_seq ?_
    refine aR (by simp [go_sem] <;> rfl) ?_
    refine awp_ret ?_
    refine inBlock_ret ?_
    refine then_ret ?_
    have hM : mexprR d = (dnone, 13) := by unfold mexprR; rw [if_neg (by rw [h0]; decide)]; rw [if_neg (by rw [h1]; decide), if_pos h2]
    refine ends_ret (by simp [go_sem] <;> rfl) (by simp [go_sem]) ?_
    exact ⟨by simp [go_sem, hM, enc_none], by simp [go_sem]⟩
   ·refine awp_skip ?_
    refine awp_seq (awp_reg ?_)
    refine aL 1 (by simp [go_sem] <;> rfl) ?_
    refine aF call91 ((c_expr d hg hd) _ (by exact hgl)) (by simp [go_sem] <;> rfl) (by simp [go_sem]) ?_
    refine aF call55 ((c_flat_Own (mexpr d) (by have := mexpr_size hg; omega)) _ (by exact hgl)) (by simp [go_sem] <;> rfl) (by simp [go_sem]) ?_
    refine aL 2 (by simp [go_sem] <;> rfl) ?_
    refine al_nil ?_
    refine awp_seq (awp_seq (awp_reg ?_))
    refine aL 1 (by simp [go_sem] <;> rfl) ?_
    refine aF call61 ((c_datum_Check (mexpr d) (by have := mexpr_size hg; omega)) _ (by exact hgl)) (by simp [go_sem] <;> rfl) (by simp [go_sem]) ?_
    refine aL 1 (by simp [go_sem] <;> rfl) ?_
    refine al_nil ?_
    refine awp_cond (by first | rfl | (simp [go_sem] <;> rfl)) (fun h3 => ?_) (fun h3 => ?_)
    ·refine awp_seq ?_
     refine aR (by simp [go_sem] <;> rfl) ?_
     refine awp_ret ?_
     refine then_ret ?_
     have hM : mexprR d = (dnone, 3) := by unfold mexprR; rw [if_neg (by rw [h0]; decide)]; rw [if_neg (by rw [h1]; decide), if_neg (by rw [h2]; decide), if_pos h3]
     refine ends_ret (by simp [go_sem] <;> rfl) (by simp [go_sem]) ?_
     exact ⟨by simp [go_sem, hM, enc_none], by simp [go_sem]⟩
    ·refine awp_skip ?_
     refine awp_seq (aR (by simp [go_sem] <;> rfl) ?_)
     refine awp_ret ?_
     have hM : mexprR d = (mexpr d, 0) := by unfold mexprR; rw [if_neg (by rw [h0]; decide)]; rw [if_neg (by rw [h1]; decide), if_neg (by rw [h2]; decide), if_neg (by rw [h3]; decide)]
     refine ends_ret (by simp [go_sem] <;> rfl) (by simp [go_sem]) ?_
     exact ⟨by simp [go_sem, hM, enc_none], by simp [go_sem]⟩

end Go.Proofs.YtmpofjiokpeegaaGreatDoor

/- MultiMakes. -/
namespace Go.Proofs.YtmpofjiokpeegaaGreatDoor
open Go Go.Aw
variable {kr : KR}
def madeB (d : D) (e : Int) (w : D) (is : Bool) (bad : Int) : Bool := cond (is && dcheck w == 0) (e == 0 && deq d w) (cond is (e == 3) (e == bad) && deq d dnone)
theorem made_lift {x : D} (h : mcheck x = 0) : madeB (mlifted x).1 (mlifted x).2 (mmap liftF x) (mone x) 13 = true := by
  have e1 : mlifted x = if (!mone x) = true then (dnone, 13) else if (dcheck (mmap liftF x) != 0) = true then (dnone, 3) else (mmap liftF x, 0) := by unfold mlifted; rw [h, if_neg (by decide)]
  rw [e1]
  unfold madeB
  generalize mmap liftF x = w
  have hd := deq_refl dnone
  have hw := deq_refl w
  cases mone x with
  | false => simp [hd]
  | true =>
    by_cases hc : dcheck w = 0
    · simp [hc, hw]
    · have h2 : (dcheck w == 0) = false := by simpa using hc
      simp [hc, h2, hd]
theorem made_expr {x : D} (h : mcheck x = 0) (hf : mfree x [] [] = []) : madeB (mexprR x).1 (mexprR x).2 (mexpr x) (mone x) 13 = true := by
  have e1 : mexprR x = if (!mone x) = true then (dnone, 13) else if (dcheck (mexpr x) != 0) = true then (dnone, 3) else (mexpr x, 0) := by unfold mexprR; rw [h, if_neg (by decide), hf, if_neg (by decide)]
  rw [e1]
  unfold madeB
  generalize mexpr x = w
  have hd := deq_refl dnone
  have hw := deq_refl w
  cases mone x with
  | false => simp [hd]
  | true =>
    by_cases hc : dcheck w = 0
    · simp [hc, hw]
    · have h2 : (dcheck w == 0) = false := by simpa using hc
      simp [hc, h2, hd]
theorem makes_bad {x : D} (h : (mcheck x != 0) = true) : merase x = (dnone, mcheck x) ∧ mlifted x = (dnone, mcheck x) ∧ mexprR x = (dnone, mcheck x) := by
  unfold merase mlifted mexprR
  rw [if_pos h, if_pos h, if_pos h]; exact ⟨rfl, rfl, rfl⟩
theorem merase_fine {x : D} (h : mcheck x = 0) : merase x = (mmap eraseF x, 0) := by unfold merase; rw [h, if_neg (by decide)]
theorem mexprR_free {x : D} (h : mcheck x = 0) (hf : 0 < (mfree x [] []).length) : mexprR x = (dnone, 12) := by unfold mexprR; rw [h, if_neg (by decide), if_pos (by simpa using hf)]
theorem dnone_size : dnone.size = 1 := by simp [dnone, D.size, D.sizes]
theorem mlifted_sz {x : D} (h : x.size ≤ 2000) : (mlifted x).1.size ≤ 1000000 := by
  unfold mlifted
  split
  · rw [dnone_size]; omega
  · rename_i h0
    split
    · rw [dnone_size]; omega
    · split
      · rw [dnone_size]; omega
      · have := mlifted_size (mcheck_good (by simpa using h0)); simp only; omega
theorem merase_sz {x : D} (h : x.size ≤ 2000) : (merase x).1.size ≤ 1000000 := by
  unfold merase
  split
  · rw [dnone_size]; omega
  · rename_i h0
    have := merase_size (mcheck_good (by simpa using h0)); simp only; omega
theorem mexprR_sz {x : D} (h : x.size ≤ 2000) : (mexprR x).1.size ≤ 1000000 := by
  unfold mexprR
  split
  · rw [dnone_size]; omega
  · rename_i h0
    split
    · rw [dnone_size]; omega
    · split
      · rw [dnone_size]; omega
      · split
        · rw [dnone_size]; omega
        · have := mexpr_size (mcheck_good (by simpa using h0)); simp only; omega

set_option maxHeartbeats 1000000 in
theorem c_made (d : D) (hd : d.size ≤ 1000000000) (e : Int) (w : D) (hw : w.size ≤ 1000000000) (is : Bool) (bad : Int) : Pur Tryz.prog (GL kr) 43 [.pv (enc d), .pv (.int .i64 e), .pv (enc w), .pv (.bool is), .pv (.int .i64 bad)] (.pv (.bool (madeB d e w is bad))) := by
 refine pur_of fun σ hgl => ?_
 refine acalls_of tyOk Tryz.func43 rfl (by simp [Tryz.f43]) ?_
 refine awp_seq (aR (by simp [go_sem, enc_none] <;> rfl) ?_)
 refine awp_seq (awp_seq (awp_reg ?_))
 refine aL 2 (by simp [go_sem, enc_none] <;> rfl) ?_
 refine al_splitT 12 (by first | rfl | (simp [go_sem, enc_none] <;> rfl)) (fun h0 => ?_) (fun h0 => ?_)
 ·refine aLG 1 12 true (by simp [go_sem, enc_none] <;> rfl) ?_
  refine al_fnG 12 true true (by simp [go_sem]) rfl (by simp [go_sem]) rfl rfl (by simp [go_sem, enc_none] <;> rfl) call47 ((c_Check01 w hw) _ (by exact hgl)) (by simp [go_sem, enc_none] <;> rfl) (by simp [go_sem, enc_none]) rfl rfl ?_
  refine aLG 1 12 true (by simp [go_sem, enc_none] <;> rfl) ?_
  refine aL 1 (by simp [go_sem, enc_none] <;> rfl) ?_
  refine al_nil ?_
  refine awp_cond (by first | rfl | (simp [go_sem, enc_none] <;> rfl)) (fun h1 => ?_) (fun h1 => ?_)
  ·refine awp_seq ?_
   refine awp_reg ?_
   refine aL 3 (by simp [go_sem, enc_none] <;> rfl) ?_
   refine al_splitT 19 (by first | rfl | (simp [go_sem, enc_none] <;> rfl)) (fun h2 => ?_) (fun h2 => ?_)
   ·refine aLG 2 19 true (by simp [go_sem, enc_none] <;> rfl) ?_
    refine al_fnG 19 true true (by simp [go_sem]) rfl (by simp [go_sem]) rfl rfl (by simp [go_sem, enc_none] <;> rfl) call35 ((c_Same d hd w) _ (by exact hgl)) (by simp [go_sem, enc_none] <;> rfl) (by simp [go_sem, enc_none]) rfl rfl ?_
    refine aL 2 (by simp [go_sem, enc_none] <;> rfl) ?_
    refine al_nil ?_
    refine awp_ret ?_
    refine then_ret ?_
    refine ends_ret (by simp [go_sem, enc_none] <;> rfl) (by simp [go_sem]) ?_
    exact ⟨by simp only [madeB, cond_true, cond_false, enc_none, h0, h1, h2, bA, bB, bC, bD, bE, bF, bG, bH, bI, bJ, Bool.false_eq_true, if_true, if_false]; simp [go_sem], by simp [go_sem]⟩
   ·refine aK 3 19 true ?_
    refine aL 2 (by simp [go_sem, enc_none] <;> rfl) ?_
    refine al_nil ?_
    refine awp_ret ?_
    refine then_ret ?_
    refine ends_ret (by simp [go_sem, enc_none] <;> rfl) (by simp [go_sem]) ?_
    exact ⟨by simp only [madeB, cond_true, cond_false, enc_none, h0, h1, h2, bA, bB, bC, bD, bE, bF, bG, bH, bI, bJ, Bool.false_eq_true, if_true, if_false]; simp [go_sem], by simp [go_sem]⟩
  ·refine awp_skip ?_
   refine awp_seq (awp_seq (aR (by simp [go_sem, enc_none] <;> rfl) ?_))
   refine awp_cond (by first | rfl | (simp [go_sem, enc_none] <;> rfl)) (fun h3 => ?_) (fun h3 => ?_)
   ·refine aR (by simp [go_sem, enc_none] <;> rfl) ?_
    refine awp_seq (awp_reg ?_)
    refine aL 4 (by simp [go_sem, enc_none] <;> rfl) ?_
    refine al_splitT 28 (by first | rfl | (simp [go_sem, enc_none] <;> rfl)) (fun h4 => ?_) (fun h4 => ?_)
    ·refine aLG 2 28 true (by simp [go_sem, enc_none] <;> rfl) ?_
     refine al_fnG 28 true true (by simp [go_sem]) rfl (by simp [go_sem]) rfl rfl (by simp [go_sem, enc_none] <;> rfl) call35 ((c_Same d hd dnone) _ (by exact hgl)) (by simp [go_sem, enc_none] <;> rfl) (by simp [go_sem, enc_none]) rfl rfl ?_
     refine aL 2 (by simp [go_sem, enc_none] <;> rfl) ?_
     refine al_nil ?_
     refine awp_ret ?_
     refine ends_ret (by simp [go_sem, enc_none] <;> rfl) (by simp [go_sem]) ?_
     exact ⟨by simp only [madeB, cond_true, cond_false, enc_none, h0, h1, h3, h4, bA, bB, bC, bD, bE, bF, bG, bH, bI, bJ, Bool.false_eq_true, if_true, if_false]; simp [go_sem], by simp [go_sem]⟩
    ·refine aK 3 28 true ?_
     refine aL 2 (by simp [go_sem, enc_none] <;> rfl) ?_
     refine al_nil ?_
     refine awp_ret ?_
     refine ends_ret (by simp [go_sem, enc_none] <;> rfl) (by simp [go_sem]) ?_
     exact ⟨by simp only [madeB, cond_true, cond_false, enc_none, h0, h1, h3, h4, bA, bB, bC, bD, bE, bF, bG, bH, bI, bJ, Bool.false_eq_true, if_true, if_false]; simp [go_sem], by simp [go_sem]⟩
   ·(rw [h3] at h0; cases h0)
 ·refine aK 3 12 true ?_
  refine aL 1 (by simp [go_sem, enc_none] <;> rfl) ?_
  refine al_nil ?_
  refine awp_cond (b := false) (by simp [go_sem, enc_none, h0]) (fun h => ?_) (fun h => ?_)
  ·cases h
  refine awp_skip ?_
  refine awp_seq (awp_seq (aR (by simp [go_sem, enc_none] <;> rfl) ?_))
  refine awp_cond (by first | rfl | (simp [go_sem, enc_none] <;> rfl)) (fun h5 => ?_) (fun h5 => ?_)
  ·(rw [h5] at h0; cases h0)
  ·refine awp_skip ?_
   refine awp_seq (awp_reg ?_)
   refine aL 4 (by simp [go_sem, enc_none] <;> rfl) ?_
   refine al_splitT 28 (by first | rfl | (simp [go_sem, enc_none] <;> rfl)) (fun h6 => ?_) (fun h6 => ?_)
   ·refine aLG 2 28 true (by simp [go_sem, enc_none] <;> rfl) ?_
    refine al_fnG 28 true true (by simp [go_sem]) rfl (by simp [go_sem]) rfl rfl (by simp [go_sem, enc_none] <;> rfl) call35 ((c_Same d hd dnone) _ (by exact hgl)) (by simp [go_sem, enc_none] <;> rfl) (by simp [go_sem, enc_none]) rfl rfl ?_
    refine aL 2 (by simp [go_sem, enc_none] <;> rfl) ?_
    refine al_nil ?_
    refine awp_ret ?_
    refine ends_ret (by simp [go_sem, enc_none] <;> rfl) (by simp [go_sem]) ?_
    exact ⟨by simp only [madeB, cond_true, cond_false, enc_none, h0, h5, h6, bA, bB, bC, bD, bE, bF, bG, bH, bI, bJ, Bool.false_eq_true, if_true, if_false]; simp [go_sem], by simp [go_sem]⟩
   ·refine aK 3 28 true ?_
    refine aL 2 (by simp [go_sem, enc_none] <;> rfl) ?_
    refine al_nil ?_
    refine awp_ret ?_
    refine ends_ret (by simp [go_sem, enc_none] <;> rfl) (by simp [go_sem]) ?_
    exact ⟨by simp only [madeB, cond_true, cond_false, enc_none, h0, h5, h6, bA, bB, bC, bD, bE, bF, bG, bH, bI, bJ, Bool.false_eq_true, if_true, if_false]; simp [go_sem], by simp [go_sem]⟩

set_option maxHeartbeats 4000000 in
theorem c_MultiMakes (s : D) (σ : Store) (hσ : σ = ⟨(GL kr), [], []⟩) : PurAt Tryz.prog σ 9 [.pv (enc s)] (.pv (.bool true)) := by
 have hgl : σ.gl = (GL kr) := by rw [hσ]
 refine purAt_of ?_
 refine acalls_of tyOk Tryz.func9 rfl (by simp [Tryz.f9]) ?_
 refine awp_seq (aR (by simp [go_sem, enc_none] <;> rfl) ?_)
 refine awp_seq (awp_reg ?_)
 refine aL 1 (by simp [go_sem, enc_none] <;> rfl) ?_
 refine al_callW rfl rfl rfl (by simp [go_sem, enc_none] <;> rfl) call17 (c_Cut25 s σ hgl) (by simp [go_sem, enc_none] <;> rfl) (by simp [go_sem, enc_none]) rfl rfl ?_
 rintro r σ1 ⟨x, rfl, hs1, hx⟩
 rw [hs1]
 clear hs1 σ1
 obtain ⟨f, hf⟩ : ∃ v0, v0 = mcheck x := ⟨_, rfl⟩
 have hRx : Pur Tryz.prog (GL kr) 11 [.pv (enc x)] (.pv (.int .i64 f)) := by rw [hf]; exact c_rCheck x (by omega)
 obtain ⟨a, ha⟩ : ∃ v0, v0 = (merase x).1 := ⟨_, rfl⟩
 obtain ⟨ea, hea⟩ : ∃ v0, v0 = (merase x).2 := ⟨_, rfl⟩
 have hPa : Pur Tryz.prog (GL kr) 34 [.pv (enc x)] (.tuple [.pv (enc a), .pv (.int .i64 ea)]) := by rw [ha, hea]; exact c_mErase x (by omega)
 have hza : a.size ≤ 1000000 := by rw [ha]; exact merase_sz hx
 obtain ⟨b, hb⟩ : ∃ v0, v0 = (mlifted x).1 := ⟨_, rfl⟩
 obtain ⟨eb, heb⟩ : ∃ v0, v0 = (mlifted x).2 := ⟨_, rfl⟩
 have hPb : Pur Tryz.prog (GL kr) 16 [.pv (enc x)] (.tuple [.pv (enc b), .pv (.int .i64 eb)]) := by rw [hb, heb]; exact c_mLifted x (by omega)
 have hzb : b.size ≤ 1000000 := by rw [hb]; exact mlifted_sz hx
 obtain ⟨c, hc⟩ : ∃ v0, v0 = (mexprR x).1 := ⟨_, rfl⟩
 obtain ⟨ec, hec⟩ : ∃ v0, v0 = (mexprR x).2 := ⟨_, rfl⟩
 have hPc : Pur Tryz.prog (GL kr) 41 [.pv (enc x)] (.tuple [.pv (enc c), .pv (.int .i64 ec)]) := by rw [hc, hec]; exact c_mExpr x (by omega)
 have hzc : c.size ≤ 1000000 := by rw [hc]; exact mexprR_sz hx
 refine aL 2 (by simp [go_sem, enc_none] <;> rfl) ?_
 refine al_nil ?_
 refine awp_seq (awp_reg ?_)
 refine aL 1 (by simp [go_sem, enc_none] <;> rfl) ?_
 refine aF call11 ((hRx) _ (by exact hgl)) (by simp [go_sem, enc_none] <;> rfl) (by simp [go_sem, enc_none]) ?_
 refine aL 1 (by simp [go_sem, enc_none] <;> rfl) ?_
 refine al_nil ?_
 refine awp_seq (awp_reg ?_)
 refine aL 1 (by simp [go_sem, enc_none] <;> rfl) ?_
 refine aF call34 ((hPa) _ (by exact hgl)) (by simp [go_sem, enc_none] <;> rfl) (by simp [go_sem, enc_none]) ?_
 refine aL 6 (by simp [go_sem, enc_none] <;> rfl) ?_
 refine al_nil ?_
 refine awp_seq (awp_reg ?_)
 refine aL 1 (by simp [go_sem, enc_none] <;> rfl) ?_
 refine aF call16 ((hPb) _ (by exact hgl)) (by simp [go_sem, enc_none] <;> rfl) (by simp [go_sem, enc_none]) ?_
 refine aL 6 (by simp [go_sem, enc_none] <;> rfl) ?_
 refine al_nil ?_
 refine awp_seq (awp_reg ?_)
 refine aL 1 (by simp [go_sem, enc_none] <;> rfl) ?_
 refine aF call41 ((hPc) _ (by exact hgl)) (by simp [go_sem, enc_none] <;> rfl) (by simp [go_sem, enc_none]) ?_
 refine aL 6 (by simp [go_sem, enc_none] <;> rfl) ?_
 refine al_nil ?_
 refine awp_seq (awp_seq (aR (by simp [go_sem, enc_none] <;> rfl) ?_))
 refine awp_cond (by first | rfl | (simp [go_sem, enc_none] <;> rfl)) (fun h20 => ?_) (fun h20 => ?_)
 ·have hne : (mcheck x != 0) = true := by rw [← hf]; exact h20
  obtain ⟨b1, b2, b3⟩ := makes_bad hne
  have q1 : ea = f := by rw [hea, b1, hf]
  have q2 : eb = f := by rw [heb, b2, hf]
  have q3 : ec = f := by rw [hec, b3, hf]
  have q4 : deq a dnone = true := by rw [ha, b1]; exact deq_refl _
  have q5 : deq b dnone = true := by rw [hb, b2]; exact deq_refl _
  have q6 : deq c dnone = true := by rw [hc, b3]; exact deq_refl _
  refine awp_seq (awp_reg ?_)
  refine aL 4 (by simp [go_sem, enc_none, q1, q2, q3, q4, q5, q6] <;> rfl) ?_
  refine al_splitT 36 (by first | rfl | (simp [go_sem, enc_none, q1, q2, q3, q4, q5, q6] <;> rfl)) (fun h21 => ?_) (fun h21 => ?_)
  ·refine aLG 3 36 true (by simp [go_sem, enc_none, q1, q2, q3, q4, q5, q6] <;> rfl) ?_
   refine aL 2 (by simp [go_sem, enc_none, q1, q2, q3, q4, q5, q6] <;> rfl) ?_
   refine al_splitT 41 (by first | rfl | (simp [go_sem, enc_none, q1, q2, q3, q4, q5, q6] <;> rfl)) (fun h22 => ?_) (fun h22 => ?_)
   ·refine aLG 3 41 true (by simp [go_sem, enc_none, q1, q2, q3, q4, q5, q6] <;> rfl) ?_
    refine aL 2 (by simp [go_sem, enc_none, q1, q2, q3, q4, q5, q6] <;> rfl) ?_
    refine al_splitT 46 (by first | rfl | (simp [go_sem, enc_none, q1, q2, q3, q4, q5, q6] <;> rfl)) (fun h23 => ?_) (fun h23 => ?_)
    ·refine aLG 2 46 true (by simp [go_sem, enc_none, q1, q2, q3, q4, q5, q6] <;> rfl) ?_
     refine al_fnG 46 true true (by simp [go_sem]) rfl (by simp [go_sem]) rfl rfl (by simp [go_sem, enc_none, q1, q2, q3, q4, q5, q6] <;> rfl) call35 ((c_Same a (by omega) dnone) _ (by exact hgl)) (by simp [go_sem, enc_none, q1, q2, q3, q4, q5, q6] <;> rfl) (by simp [go_sem, enc_none, q1, q2, q3, q4, q5, q6]) rfl rfl ?_
     refine aL 2 (by simp [go_sem, enc_none, q1, q2, q3, q4, q5, q6] <;> rfl) ?_
     refine al_splitT 51 (by first | rfl | (simp [go_sem, enc_none, q1, q2, q3, q4, q5, q6] <;> rfl)) (fun h24 => ?_) (fun h24 => ?_)
     ·refine aLG 2 51 true (by simp [go_sem, enc_none, q1, q2, q3, q4, q5, q6] <;> rfl) ?_
      refine al_fnG 51 true true (by simp [go_sem]) rfl (by simp [go_sem]) rfl rfl (by simp [go_sem, enc_none, q1, q2, q3, q4, q5, q6] <;> rfl) call35 ((c_Same b (by omega) dnone) _ (by exact hgl)) (by simp [go_sem, enc_none, q1, q2, q3, q4, q5, q6] <;> rfl) (by simp [go_sem, enc_none, q1, q2, q3, q4, q5, q6]) rfl rfl ?_
      refine aL 2 (by simp [go_sem, enc_none, q1, q2, q3, q4, q5, q6] <;> rfl) ?_
      refine al_splitT 56 (by first | rfl | (simp [go_sem, enc_none, q1, q2, q3, q4, q5, q6] <;> rfl)) (fun h25 => ?_) (fun h25 => ?_)
      ·refine aLG 2 56 true (by simp [go_sem, enc_none, q1, q2, q3, q4, q5, q6] <;> rfl) ?_
       refine al_fnG 56 true true (by simp [go_sem]) rfl (by simp [go_sem]) rfl rfl (by simp [go_sem, enc_none, q1, q2, q3, q4, q5, q6] <;> rfl) call35 ((c_Same c (by omega) dnone) _ (by exact hgl)) (by simp [go_sem, enc_none, q1, q2, q3, q4, q5, q6] <;> rfl) (by simp [go_sem, enc_none, q1, q2, q3, q4, q5, q6]) rfl rfl ?_
       refine aL 2 (by simp [go_sem, enc_none, q1, q2, q3, q4, q5, q6] <;> rfl) ?_
       refine al_splitT 61 (by first | rfl | (simp [go_sem, enc_none, q1, q2, q3, q4, q5, q6] <;> rfl)) (fun h26 => ?_) (fun h26 => ?_)
       ·refine al_fnG 61 true true (by simp [go_sem]) rfl (by simp [go_sem]) rfl rfl (by simp [go_sem, enc_none, q1, q2, q3, q4, q5, q6] <;> rfl) call22 (c_alive σ hσ) (by simp [go_sem, enc_none, q1, q2, q3, q4, q5, q6] <;> rfl) (by simp [go_sem, enc_none, q1, q2, q3, q4, q5, q6]) rfl rfl ?_
        refine aL 2 (by simp [go_sem, enc_none, q1, q2, q3, q4, q5, q6] <;> rfl) ?_
        refine al_nil ?_
        refine awp_ret ?_
        refine then_ret ?_
        refine ends_ret (by simp [go_sem, enc_none, q1, q2, q3, q4, q5, q6] <;> rfl) (by simp [go_sem]) ?_
        exact ⟨by simp [go_sem], by simp [go_sem]⟩
       ·first | (cases h26; done) | (simp at h26; done)
      ·first | (cases h25; done) | (simp at h25; done)
     ·first | (cases h24; done) | (simp at h24; done)
    ·first | (cases h23; done) | (simp at h23; done)
   ·first | (cases h22; done) | (simp at h22; done)
  ·first | (cases h21; done) | (simp at h21; done)
 ·have hz : mcheck x = 0 := by rw [← hf]; simpa using h20
  have hgd := mcheck_good hz
  have q1 : ea = 0 := by rw [hea, merase_fine hz]
  have hda := deq_refl a
  have hEr : Pur Tryz.prog (GL kr) 42 [.pv (enc x)] (.pv (enc a)) := by rw [ha, merase_fine hz]; exact c_rErase x hgd (by omega)
  obtain ⟨fl, hfl⟩ : ∃ v0, v0 = mone x := ⟨_, rfl⟩
  have hFl : Pur Tryz.prog (GL kr) 12 [.pv (enc x)] (.pv (.bool fl)) := by rw [hfl, ← flat_eq_mone hgd]; exact c_Flat x hgd (by omega)
  obtain ⟨wl, hwl_⟩ : ∃ v0, v0 = mmap liftF x := ⟨_, rfl⟩
  obtain ⟨we, hwe⟩ : ∃ v0, v0 = mexpr x := ⟨_, rfl⟩
  have hwl := mlifted_size hgd
  rw [← hwl_] at hwl
  have hLi : Pur Tryz.prog (GL kr) 44 [.pv (enc x)] (.pv (enc wl)) := by rw [hwl_]; exact c_rLifted x hgd (by omega)
  have hEx : Pur Tryz.prog (GL kr) 45 [.pv (enc x)] (.pv (enc we)) := by rw [hwe]; exact c_rExpr x hgd (by omega)
  have hwz := mexpr_size hgd
  rw [← hwe] at hwz
  have hml : madeB b eb wl fl 13 = true := by rw [hb, heb, hwl_, hfl]; exact made_lift hz
  obtain ⟨F, hF⟩ : ∃ v0, v0 = mfree x [] [] := ⟨_, rfl⟩
  have hFr : Pur Tryz.prog (GL kr) 13 [.pv (enc x)] (.pv (.slice (F.map .str))) := by rw [hF]; exact c_rFree x hgd (by omega)
  refine awp_skip ?_
  refine awp_seq (awp_seq (awp_regDC tyOk tySz 6 (by kernel_rfl) (by decide) ?_))
  refine ul_run 3 (by simp [go_sem, enc_none, q1, hda] <;> rfl) ?_
  refine ul_splitT 66 (by first | rfl | (simp [go_sem, enc_none, q1, hda] <;> rfl)) (fun h27 => ?_) (fun h27 => ?_)
  ·first | (cases h27; done) | (simp at h27; done)
  ·refine ul_runG 2 66 false false (by simp [go_sem]) rfl (by simp [go_sem]) rfl rfl (by simp [go_sem, enc_none, q1, hda] <;> rfl) ?_
   refine ul_fnG 66 false false (by simp [go_sem]) rfl (by first | (intro _ _ hh; exact hh) | simp [go_sem]) (by simp [go_sem]) rfl rfl rfl (by simp [go_sem, enc_none, q1, hda] <;> rfl) call42 ((hEr) _ (by exact hgl)) (by simp [go_sem, enc_none, q1, hda] <;> rfl) (by simp [go_sem, enc_none, q1, hda]) rfl rfl ?_
   refine ul_nil ?_
   refine al_fnG 66 false false (by simp [go_sem]) rfl (by simp [go_sem]) rfl rfl (by simp [go_sem, enc_none, q1, hda] <;> rfl) call35 ((c_Same a (by omega) a) _ (by exact hgl)) (by simp [go_sem, enc_none, q1, hda] <;> rfl) (by simp [go_sem, enc_none, q1, hda]) rfl rfl ?_
   refine aLG 1 66 false (by simp [go_sem, enc_none, q1, hda] <;> rfl) ?_
   refine aL 1 (by simp [go_sem, enc_none, q1, hda] <;> rfl) ?_
   refine al_nil ?_
   refine awp_cond (by first | rfl | (simp [go_sem, enc_none, q1, hda] <;> rfl)) (fun h28 => ?_) (fun h28 => ?_)
   ·first | (cases h28; done) | (simp at h28; done)
   ·refine awp_skip ?_
    refine awp_seq (awp_reg ?_)
    refine aL 1 (by simp [go_sem, enc_none, q1, hda] <;> rfl) ?_
    refine aF call12 ((hFl) _ (by exact hgl)) (by simp [go_sem, enc_none, q1, hda] <;> rfl) (by simp [go_sem, enc_none, q1, hda]) ?_
    refine aL 1 (by simp [go_sem, enc_none, q1, hda] <;> rfl) ?_
    refine al_nil ?_
    refine awp_seq (awp_seq (awp_regDC tyOk tySz 5 (by kernel_rfl) (by decide) ?_))
    refine ul_run 3 (by simp [go_sem, enc_none, q1, hda] <;> rfl) ?_
    refine ul_fn (by first | (intro _ _ hh; exact hh) | simp [go_sem]) rfl rfl rfl rfl (by simp [go_sem, enc_none, q1, hda] <;> rfl) call44 ((hLi) _ (by exact hgl)) (by simp [go_sem, enc_none, q1, hda] <;> rfl) (by simp [go_sem, enc_none, q1, hda]) rfl rfl ?_
    refine ul_run 1 (by simp [go_sem, enc_none, q1, hda] <;> rfl) ?_
    refine ul_nil ?_
    refine aF call43 ((c_made b (by omega) eb wl (by omega) fl 13) _ (by exact hgl)) (by simp [go_sem, enc_none, q1, hda] <;> rfl) (by simp [go_sem, enc_none, q1, hda]) ?_
    refine aL 1 (by simp [go_sem, enc_none, q1, hda, hml] <;> rfl) ?_
    refine al_nil ?_
    refine awp_cond (by first | rfl | (simp [go_sem, enc_none, q1, hda, hml] <;> rfl)) (fun h29 => ?_) (fun h29 => ?_)
    ·first | (cases h29; done) | (simp at h29; done)
    ·refine awp_skip ?_
     refine awp_seq (awp_seq (awp_reg ?_))
     refine aL 1 (by simp [go_sem, enc_none, q1, hda, hml] <;> rfl) ?_
     refine aF call13 ((hFr) _ (by exact hgl)) (by simp [go_sem, enc_none, q1, hda, hml] <;> rfl) (by simp [go_sem, enc_none, q1, hda, hml]) ?_
     refine aL 2 (by simp [go_sem, enc_none, q1, hda, hml] <;> rfl) ?_
     refine al_nil ?_
     refine awp_cond (by first | rfl | (simp [go_sem, enc_none, q1, hda, hml] <;> rfl)) (fun h30 => ?_) (fun h30 => ?_)
     ·have hlt : 0 < F.length := by simpa using h30
      have hq := mexprR_free hz (by rw [← hF]; exact hlt)
      have q3 : ec = 12 := by rw [hec, hq]
      have q6 : deq c dnone = true := by rw [hc, hq]; exact deq_refl _
      refine awp_seq (awp_reg ?_)
      refine aL 3 (by simp [go_sem, enc_none, q1, hda, hml, q3, q6] <;> rfl) ?_
      refine al_splitT 88 (by first | rfl | (simp [go_sem, enc_none, q1, hda, hml, q3, q6] <;> rfl)) (fun h31 => ?_) (fun h31 => ?_)
      ·refine aLG 2 88 true (by simp [go_sem, enc_none, q1, hda, hml, q3, q6] <;> rfl) ?_
       refine al_fnG 88 true true (by simp [go_sem]) rfl (by simp [go_sem]) rfl rfl (by simp [go_sem, enc_none, q1, hda, hml, q3, q6] <;> rfl) call35 ((c_Same c (by omega) dnone) _ (by exact hgl)) (by simp [go_sem, enc_none, q1, hda, hml, q3, q6] <;> rfl) (by simp [go_sem, enc_none, q1, hda, hml, q3, q6]) rfl rfl ?_
       refine aL 2 (by simp [go_sem, enc_none, q1, hda, hml, q3, q6] <;> rfl) ?_
       refine al_splitT 93 (by first | rfl | (simp [go_sem, enc_none, q1, hda, hml, q3, q6] <;> rfl)) (fun h32 => ?_) (fun h32 => ?_)
       ·refine al_fnG 93 true true (by simp [go_sem]) rfl (by simp [go_sem]) rfl rfl (by simp [go_sem, enc_none, q1, hda, hml, q3, q6] <;> rfl) call22 (c_alive σ hσ) (by simp [go_sem, enc_none, q1, hda, hml, q3, q6] <;> rfl) (by simp [go_sem, enc_none, q1, hda, hml, q3, q6]) rfl rfl ?_
        refine aL 2 (by simp [go_sem, enc_none, q1, hda, hml, q3, q6] <;> rfl) ?_
        refine al_nil ?_
        refine awp_ret ?_
        refine then_ret ?_
        refine ends_ret (by simp [go_sem, enc_none, q1, hda, hml, q3, q6] <;> rfl) (by simp [go_sem]) ?_
        exact ⟨by simp [go_sem], by simp [go_sem]⟩
       ·first | (cases h32; done) | (simp at h32; done)
      ·first | (cases h31; done) | (simp at h31; done)
     ·have hF0 : F = [] := by have h := h30; first | (simpa using h) | (simp at h; exact List.eq_nil_of_length_eq_zero (by omega))
      have hme : madeB c ec we fl 13 = true := by rw [hc, hec, hwe, hfl]; exact made_expr hz (by rw [← hF]; exact hF0)
      refine awp_skip ?_
      refine awp_seq (awp_regDC tyOk tySz 5 (by kernel_rfl) (by decide) ?_)
      refine ul_run 3 (by simp [go_sem, enc_none, q1, hda, hml] <;> rfl) ?_
      refine ul_fn (by first | (intro _ _ hh; exact hh) | simp [go_sem]) rfl rfl rfl rfl (by simp [go_sem, enc_none, q1, hda, hml] <;> rfl) call45 ((hEx) _ (by exact hgl)) (by simp [go_sem, enc_none, q1, hda, hml] <;> rfl) (by simp [go_sem, enc_none, q1, hda, hml]) rfl rfl ?_
      refine ul_run 1 (by simp [go_sem, enc_none, q1, hda, hml] <;> rfl) ?_
      refine ul_nil ?_
      refine aF call43 ((c_made c (by omega) ec we (by omega) fl 13) _ (by exact hgl)) (by simp [go_sem, enc_none, q1, hda, hml] <;> rfl) (by simp [go_sem, enc_none, q1, hda, hml]) ?_
      refine aL 1 (by simp [go_sem, enc_none, q1, hda, hml, hme] <;> rfl) ?_
      refine al_splitT 102 (by first | rfl | (simp [go_sem, enc_none, q1, hda, hml, hme] <;> rfl)) (fun h33 => ?_) (fun h33 => ?_)
      ·refine al_fnG 102 true true (by simp [go_sem]) rfl (by simp [go_sem]) rfl rfl (by simp [go_sem, enc_none, q1, hda, hml, hme] <;> rfl) call22 (c_alive σ hσ) (by simp [go_sem, enc_none, q1, hda, hml, hme] <;> rfl) (by simp [go_sem, enc_none, q1, hda, hml, hme]) rfl rfl ?_
       refine aL 2 (by simp [go_sem, enc_none, q1, hda, hml, hme] <;> rfl) ?_
       refine al_nil ?_
       refine awp_ret ?_
       refine ends_ret (by simp [go_sem, enc_none, q1, hda, hml, hme] <;> rfl) (by simp [go_sem]) ?_
       exact ⟨by simp [go_sem], by simp [go_sem]⟩
      ·first | (cases h33; done) | (simp at h33; done)

end Go.Proofs.YtmpofjiokpeegaaGreatDoor

/- The laid tables and the data of this seat, as abstract values. -/
namespace Go.Proofs.YtmpofjiokpeegaaGreatDoor
open Go Go.Aw
variable {kr : KR}
theorem dty : DatumTy Tryz.prog 24 22 3 2 9 :=
  { und := ⟨_, _, _, _, Tryz.underlying24, rfl, rfl, rfl, rfl, rfl, rfl, rfl, rfl⟩, i := Tryz.underlying3, n := Tryz.underlying2, s := Tryz.underlying9, k := Tryz.underlying22, cD := by kernel_rfl, ci := by kernel_rfl, cn := by kernel_rfl, cs := by kernel_rfl, ck := by kernel_rfl }
theorem gShapes : Tryz.prog.globalNamed "pagoda/multi.shapes" = some 0 := by kernel_rfl
theorem gPrim : Tryz.prog.globalNamed "pagoda/prim.names" = some 1 := by kernel_rfl
theorem gRange : Tryz.prog.globalNamed "strconv.ErrRange" = some 3 := by kernel_rfl
theorem gSyntax : Tryz.prog.globalNamed "strconv.ErrSyntax" = some 2 := by kernel_rfl
theorem tShapes : (Tryz.prog.globals[0]?).map (·.type) = some 131 := by kernel_rfl
theorem tPrim : (Tryz.prog.globals[1]?).map (·.type) = some 180 := by kernel_rfl
theorem tPow : (Tryz.prog.globals[4]?).map (·.type) = some 237 := by kernel_rfl
theorem tRange : (Tryz.prog.globals[3]?).map (·.type) = some 153 := by kernel_rfl
theorem tSyntax : (Tryz.prog.globals[2]?).map (·.type) = some 153 := by kernel_rfl
theorem rows_pow : (Rows.laid_internal_strconv_uint64pow10 : DataW Unit) = Lib.tabData .u64 Lib.pow10Tab := by kernel_rfl
theorem rows_range : (Rows.laid_strconv_ErrRange : DataW Unit) = .iface "*errors.errorString" (.ptr (.agg [.lit (.string [118, 97, 108, 117, 101, 32, 111, 117, 116, 32, 111, 102, 32, 114, 97, 110, 103, 101])])) := rfl
theorem rows_syntax : (Rows.laid_strconv_ErrSyntax : DataW Unit) = .iface "*errors.errorString" (.ptr (.agg [.lit (.string [105, 110, 118, 97, 108, 105, 100, 32, 115, 121, 110, 116, 97, 120])])) := rfl
def shS : List (List UInt8 × (Nat × Nat)) := [([97, 112, 112], (0, 3)), ([102, 110], (2, 4)), ([105, 102], (0, 4)), ([108, 101, 116], (1, 4)), ([108, 105, 102, 116], (0, 2)), ([113, 117, 111, 116, 101], (0, 2)), ([114, 117, 110], (0, 3)), ([115, 97, 121], (0, 2))]
theorem rows_shapes : (Rows.laid_pagoda_multi_shapes : DataW Unit) = .map (shS.map datSh) := by kernel_rfl
theorem shS_perm : shS.Perm shapesB := List.isPerm_iff.1 (by kernel_rfl)
theorem err_row (u : TypeId) (hu : Tryz.prog.typeName? 3 u = some "*errors.errorString") : u = 244 :=
  typeName_ptr_named (nm := "errors.errorString") (by kernel_rfl) (by kernel_rfl) (by decide +kernel) u hu
set_option maxRecDepth 100000 in
/-- What the row's listed variables are when the call begins. -/
theorem of_laid {W : World} (h : laidMetH Tryz.prog [("math/bits.deBruijn32tab", Rows.laid_math_bits_deBruijn32tab), ("math/bits.deBruijn64tab", Rows.laid_math_bits_deBruijn64tab), ("internal/strconv.uint64pow10", Rows.laid_internal_strconv_uint64pow10), ("strconv.ErrRange", Rows.laid_strconv_ErrRange), ("strconv.ErrSyntax", Rows.laid_strconv_ErrSyntax), ("pagoda/prim.names", Rows.laid_pagoda_prim_names), ("pagoda/multi.shapes", Rows.laid_pagoda_multi_shapes)] W) :
    ∃ kr : ShO, ∀ n p, (n, p) ∈ (GL kr) → RP W.heap.size (fun _ _ => False) W p (.pointer (some ⟨n, 0, none⟩)) := by
  rw [MakeChecks.laidMetH_plain _ _ _ (by kernel_rfl)] at h
  obtain ⟨ps, ⟨_, _, _, _, _, q6, _, _, _, _, ⟨_, _, _, _, _, q5, _, _, _, _, ⟨g2, t2, cs2, f2, p2, q2, hg2, ht2, hv2, hd2, ⟨g3, t3, cs3, f3, p3, q3, hg3, ht3, hv3, hd3, ⟨g4, t4, cs4, f4, p4, q4, hg4, ht4, hv4, hd4, ⟨g1, t1, cs1, f1, p1, q1, hg1, ht1, hv1, hd1, ⟨g0, t0, cs0, f0, p0, q0, hg0, ht0, hv0, hd0, _, _⟩, _⟩, e4⟩, e3⟩, e2⟩, e5⟩, e6⟩, _, hz⟩ := h
  obtain rfl := Option.some.inj (gShapes.symm.trans hg0)
  obtain rfl := Option.some.inj (gPrim.symm.trans hg1)
  obtain rfl := Option.some.inj (gPow.symm.trans hg2)
  obtain rfl := Option.some.inj (gRange.symm.trans hg3)
  obtain rfl := Option.some.inj (gSyntax.symm.trans hg4)
  obtain rfl := Option.some.inj (tShapes.symm.trans ht0)
  obtain rfl := Option.some.inj (tPrim.symm.trans ht1)
  obtain rfl := Option.some.inj (tPow.symm.trans ht2)
  obtain rfl := Option.some.inj (tRange.symm.trans ht3)
  obtain rfl := Option.some.inj (tSyntax.symm.trans ht4)
  rw [rows_shapes] at hd0
  obtain ⟨b, kr, hc0, hrp0⟩ := open_shapes (S := fun _ _ => False) Tryz.underlying131 Tryz.underlying9 Tryz.underlying130 Tryz.underlying3 Tryz.underlying3 rfl rfl (by kernel_rfl) (by kernel_rfl) (by kernel_rfl) hd0 shS_perm
  obtain ⟨v, hc1, hone, hrp1⟩ := open_table (S := fun _ _ => False) (L := primNames) Tryz.underlying180 Tryz.underlying181 Tryz.underlying9 Tryz.underlying3 rfl rfl (by kernel_rfl) (by kernel_rfl) (by kernel_rfl) hd1
  rw [rows_pow] at hd2
  have hc2 := Lib.cells_of_tab Tryz.underlying237 Tryz.underlying193 (by kernel_rfl) (by kernel_rfl) hd2
  have hblk : ∃ e c, W.heap[(4 : Nat)]? = some (.cells (Lib.pow10Tab.map (Value.int .u64)).toArray e c) := by
    simp only [World.var?, gPow, Option.bind_some] at hv2
    split at hv2
    · rename_i cs e c hh
      cases hv2
      refine ⟨e, c, ?_⟩
      rw [hh, ← Array.toArray_toList (xs := cs2), hc2]
    · cases hv2
  obtain ⟨e2', c2, hblk⟩ := hblk
  have hcell0 : W.cell? ⟨0, 0, none⟩ = some (.map (some b)) := by
    have := World.var?_cell hg0 hv0 0
    rw [Array.eq_one_of_toList hc0] at this
    simpa using this
  have hcell1 : W.cell? ⟨1, 0, none⟩ = some v := by
    have := World.var?_cell hg1 hv1 0
    rw [Array.eq_one_of_toList hc1] at this
    simpa using this
  have hi3 : ∀ u v, cs3.toList = [.iface u v] → W.cell? ⟨3, 0, none⟩ = some (.iface u v) := fun u v hh => by
    have := World.var?_cell hg3 hv3 0
    rw [Array.eq_one_of_toList hh] at this
    simpa using this
  have hi4 : ∀ u v, cs4.toList = [.iface u v] → W.cell? ⟨2, 0, none⟩ = some (.iface u v) := fun u v hh => by
    have := World.var?_cell hg4 hv4 0
    rw [Array.eq_one_of_toList hh] at this
    simpa using this
  have hm3 : ∀ u v, cs3.toList = [.iface u v] → MemPlace.cell 3 0 ∈ ps := fun u v hh => by
    have hs : cs3.size = 1 := by rw [Array.eq_one_of_toList hh]; rfl
    rw [e6, e5, e2, e3, hs]
    simp [MemPlace.row]
  have hm4 : ∀ u v, cs4.toList = [.iface u v] → MemPlace.cell 2 0 ∈ ps := fun u v hh => by
    have hs : cs4.size = 1 := by rw [Array.eq_one_of_toList hh]; rfl
    rw [e6, e5, e2, e3, e4, hs]
    simp [MemPlace.row]
  rw [rows_range] at hd3
  rw [rows_syntax] at hd4
  have ok3 : ∀ u v, cs3.toList = [.iface u v] → Value.okWide Tryz.prog W .any 0 u v := by
    intro u v hh
    have hzz := hz 3 0 (hm3 u v hh)
    obtain ⟨_, hzy⟩ := hzz
    exact hzy u v (hi3 u v hh)
  obtain ⟨a3, s3, hc3, ha3, _⟩ := errorString_of_trod Tryz.underlying153 err_row Tryz.underlying244 Tryz.underlying246 rfl rfl Tryz.underlying9 (by kernel_rfl) (by kernel_rfl) hd3 ok3
  have ok4 : ∀ u v, cs4.toList = [.iface u v] → Value.okWide Tryz.prog W .any 0 u v := by
    intro u v hh
    have hzz := hz 2 0 (hm4 u v hh)
    obtain ⟨_, hzy⟩ := hzz
    exact hzy u v (hi4 u v hh)
  obtain ⟨a4, s4, hc4, ha4, _⟩ := errorString_of_trod Tryz.underlying153 err_row Tryz.underlying244 Tryz.underlying246 rfl rfl Tryz.underlying9 (by kernel_rfl) (by kernel_rfl) hd4 ok4
  have hcell3 := hi3 _ _ hc3
  have hcell4 := hi4 _ _ hc4
  refine ⟨kr, fun n p hm => ?_⟩
  simp only [GL, List.cons_append, List.nil_append, List.mem_cons, Prod.mk.injEq, List.not_mem_nil, or_false] at hm
  rcases hm with ⟨rfl, rfl⟩ | ⟨rfl, rfl⟩ | ⟨rfl, rfl⟩ | ⟨rfl, rfl⟩ | ⟨rfl, rfl⟩
  · exact rp_var (cell_lt hcell0) hcell0 rfl hrp0
  · rw [primV_of] at hrp1
    exact rp_var (cell_lt hcell1) hcell1 hone hrp1
  · refine RP.tab ?_ hblk
    by_cases hlt : 4 < W.heap.size
    · exact hlt
    · rw [Array.getElem?_eq_none (by show W.heap.size ≤ _; omega)] at hblk; cases hblk
  all_goals first | exact rp_error (cell_lt hcell3) hcell3 ha3 | exact rp_error (cell_lt hcell4) hcell4 ha4

end Go.Proofs.YtmpofjiokpeegaaGreatDoor

/- MultiMakes: for every datum the law returns true, and it reads as it did. -/
namespace Go.Proofs.YtmpofjiokpeegaaGreatDoor
open Go Go.Aw
variable {kr : KR}
open Go.ChangeShapes Go.WideShapes Go.ChangeAt Go.WideMaps Go.WideElems Go.RowKit
theorem own : ownKnob Tryz.prog.godebug = none := by kernel_rfl
theorem laidOut : laidOutB Tryz.prog = true := by kernel_rfl
theorem door_met (os : Os) (args : Array Value) : laidMetH Tryz.prog Rows.multiMakesRow.laid ((World.doorLaid Tryz.prog 136 os).forCall (fun _ _ => 0) ⟨#[], args, []⟩).memory :=
  laidMetH_of_parts3 (fuel := 8) (laidMet_of_run' 8 (by kernel_rfl) (by kernel_rfl)) (by kernel_rfl) (by kernel_rfl)
/-- The call, as the machine makes it. -/
theorem multiMakes_calls {W : World} (hL : laidMetH Tryz.prog Rows.multiMakesRow.laid W) {v0 : Value} {d0 : D} (h0 : RP W.heap.size (fun _ _ => False) W (enc d0) v0) :
    Calls Tryz.prog 9 #[v0] W fun r W' => r = .returned (.bool true) ∧ Below W.heap.size W W' := by
  obtain ⟨kr, hg⟩ := of_laid hL
  refine (c_MultiMakes (kr := kr) d0 ⟨(GL kr), [], []⟩ rfl (g0 W) W [v0] (inv0 hg) rfl (fun i x v hx hv => ?_)).mono ?_
  · match i with
    | 0 => simp at hx hv; subst hx hv; exact .pv h0
    | i + 1 => simp at hx
  · rintro r W' ⟨v, x, σ', g', rfl, ⟨rfl, rfl⟩, _, hext, hra⟩
    rw [hra.pv_inv.bool_inv]
    exact ⟨rfl, below_of hext⟩
abbrev zeroDatum : Value := .agg #[.int .i64 0, .int .i64 0, .string ⟨#[]⟩, .slice none 0 0]
set_option maxRecDepth 100000 in
theorem multiMakes_lifted (os : Os) (started : os.Started) (H : Type) (enc' : TypeId × Value → H) :
    ReturnsInHanded {} Tryz.checked os 9 .any (fun w args => (Rows.multiMakesSpec.pre enc' Tryz.prog Tryz.f9 [] false w args ∧ laidMetH Tryz.prog Rows.multiMakesRow.laid w) ∧ sizedMet enc' Tryz.prog Tryz.f9 (OpenSpec.ofChange Rows.multiMakesSpec) false w args)
      (Rows.multiMakesSpec.post enc' Tryz.prog Tryz.f9 false true false false) := by
  refine returnsInHanded_of_change_and (C := Tryz.checked) (X := fun w _ => laidMetH Tryz.prog Rows.multiMakesRow.laid w) (fun _ _ _ hh h => h.of_heap hh) own started (by kernel_rfl) Tryz.func9
    (ChangeSpec.witness_shaped (enc := enc') (C := Tryz.checked) (os := os) (X := fun w _ => laidMetH Tryz.prog Rows.multiMakesRow.laid w) false (World.doorLaid Tryz.prog 136 os) #[zeroDatum] 8 rfl (World.shaped_of_RefB (by kernel_rfl) (by kernel_rfl)) (by kernel_rfl) (by kernel_rfl) (by kernel_rfl) (door_met os _)) ?_
  intro W base args ds gs before hval0 hW _ _ hL _
  have hW' := hW
  obtain ⟨p, q, hA0, hV, rfl, hfz, hnd⟩ := hW
  have hA : DataW.TrodAll enc' Tryz.prog W 0 (fun _ => true) true Tryz.f9.params.toList args.toList ds p := hA0
  rw [Tryz.params9] at hA
  obtain ⟨v0, x0, rfl, rfl, h0⟩ := trodAll_one hA
  obtain ⟨rfl, rfl⟩ := trodVars_none hV
  clear hA0
  simp only [List.append_nil] at hW'
  obtain ⟨n0, t0⟩ := id h0
  obtain ⟨e0, u0, hc0, ho0, hr0⟩ := open_datum (S := fun _ _ => False) dty n0 _ _ t0
  have hv0 := open_agg hc0
  clear hval0
  have hlt := hW'.lt
  refine (multiMakes_calls hL (hv0 ▸ rp_datum ho0 hr0)).mono fun r W' ⟨hr, hb⟩ => ?_
  subst hr
  exact ⟨_, rfl, post_of_below (pa := p) (pv := []) hW' (fun _ _ _ => trodAll_mk1 (shut_bool Tryz.underlying4 true))
    (fun sp hs => trodAll_mk1 (Trod_stays laidOut (by kernel_rfl) (of_decide_eq_true (by kernel_rfl)) h0 (fun x hx => hb.same (hlt x (by simp [hx]))) (fun x hx => hs x (by simp [hx]))))
    (fun _ _ => rfl) (by simp) hb (ok_one (by kernel_rfl) rfl (okWide_bool_mk Tryz.underlying4 _))⟩
theorem multiMakes_holds : Rows.MultiMakesSaid :=
  OpenClaim.holds_of_wide 9 Tryz.f9 rfl rfl rfl rfl rfl rfl rfl ⟨rfl, rfl, rfl, rfl, rfl⟩ rfl rfl rfl rfl rfl (by kernel_rfl) Tryz.func9 (by kernel_rfl)
    (of_decide_eq_true (by kernel_rfl)) (by unfold Func.isWrapper; rw [if_neg (by decide +kernel)]; exact ⟨rfl, rfl⟩)
    (fun os started H enc _ => multiMakes_lifted os started H enc)
/-- The tied card. -/
theorem multiMakesCard_holds : Rows.MultiMakesCardSaid :=
  Claim7.holds_tied_plain_at .later [] [.data, .data, .data, .sentinel, .sentinel, .data, .mapped] true (true, "276281381aeeddcbf331b1d3fd2842c84a196ad6d3eeb788474b70cc62e3ca80") true
    multiMakes_holds (fun _ h => by cases h) (by kernel_rfl) (fun _ h => by cases h) multiMakes_row_tie rfl ⟨rfl, rfl⟩ (by kernel_rfl) rfl
    (fun f fn hf hfn => by
      obtain rfl : f = 9 := Option.some.inj ((show Tryz.prog.funcNamed "pagoda/pagodalaw25.MultiMakes" = some 9 by kernel_rfl).symm.trans hf) |>.symm
      obtain rfl : fn = Tryz.f9 := (Option.some.inj (Tryz.func9.symm.trans hfn)).symm
      exact ⟨by kernel_rfl, fun j t ht => by
        rw [Tryz.params9] at ht
        rcases j with _ | j
        · obtain rfl : 24 = t := by simpa using ht
          exact (show Tryz.prog.wantsStandIn 24 = false by kernel_rfl)
        · simp at ht⟩)
    (by kernel_rfl)
end Go.Proofs.YtmpofjiokpeegaaGreatDoor
