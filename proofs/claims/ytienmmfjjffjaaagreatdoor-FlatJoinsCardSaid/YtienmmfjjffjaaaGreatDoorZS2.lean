/- Part of the proof that the statement holds for every input that its row lets in: the contracts of the program's functions, printed by a program out of annotations; the statement itself stands at the end of the last part. -/
import Derived.Test.YtienmmfjjffjaaaGreatDoorZS1
import Derived.Test.YtienmmfjjffjaaaGreatDoorZA2
import Derived.Test.YtienmmfjjffjaaaGreatDoorZA3
set_option linter.unusedSimpArgs false
set_option linter.unusedVariables false
/- The checker. -/
namespace Go.Proofs.YtienmmfjjffjaaaGreatDoor
open Go Go.Aw
variable {kr : ResO}
theorem look_par {s : St} {om : Nat} {ps : List (D × Int)} (ho : s.σ.objs[om]? = some (.map (mapK ps) (mapV pint ps))) (d : D) :
    lookAV ty s 106 (.map om) (.pv (keyPV d)) true = some (.tuple [.pv (.int .i64 (kpar ps d).1), .pv (.bool (kpar ps d).2)]) := by
  rw [look_map (f := pint) rfl rfl rfl rfl rfl ho]
  unfold kpar
  cases kget ps d <;> rfl

theorem put_par {s : St} {om : Nat} {ps : List (D × Int)} (ho : s.σ.objs[om]? = some (.map (mapK ps) (mapV pint ps))) (d : D) (v : Int) :
    putAV ty s 106 (.map om) (.pv (keyPV d)) (.pv (.int .i64 v)) = some { s.σ with objs := s.σ.objs.set om (.map (mapK (kset ps d v)) (mapV pint (kset ps d v))) } :=
  put_map (f := pint) rfl rfl rfl rfl ho d v rfl

set_option maxHeartbeats 1000000 in
theorem c_all (σ : Store) (hgl : σ.gl = (GL kr)) (oc : Nat) (ps : List (D × Int)) (b : List ByteArray) (l : List D) (hl : l.length ≤ 1000000000) (hE : ∀ x, x ∈ l → PurAt Tryz.prog σ 47 [.ptr oc 0, .pv (enc x), .pv (.slice (b.map .str))] (.pv (.int .i64 (cexpr ps b x)))) : PurAt Tryz.prog σ 92 [.ptr oc 0, .pv (.slice (l.map enc)), .pv (.slice (b.map .str))] (.pv (.int .i64 (cll ps b l))) := by
  refine purAt_of ?_
  refine acalls_ofC tyOk Tryz.func92 rfl (by simp [Tryz.f92]) (by simp [go_sem]) fun hclo => ?_
  simp [go_sem] at hclo
  refine awp_seq ?_
  refine awp_region_run (sh := []) tyOk (by simp [go_sem, hclo] <;> rfl) ?_
  refine awp_seq ?_
  refine awp_seq ?_
  refine awp_region_run (sh := []) tyOk (by simp [go_sem, hclo] <;> rfl) ?_
  refine awp_block ?_
  refine awp_loop_headK σ.objs.length σ.toks.length 0 [0, 2, 6, 10, 11] (fun k : Nat => [(12, .pv (.int .i64 ↑k))]) (fun k => σ) (fun k => k ≤ l.length ∧ cll ps b l = cll ps b (l.drop k)) (fun k => l.length - k) 0 (⟨Nat.zero_le _, rfl⟩) ⟨by simp [go_sem, hclo], rfl, by simp, by simp, by simp [go_sem, hclo], fun ob h => .inl (by simpa [go_sem, hclo] using h), by simp [go_sem]⟩ ?_
  rintro k ⟨hk, hn⟩
  refine awp_seq ?_
  refine awp_region_run (sh := []) tyOk (by simp [go_sem, hclo] <;> rfl) ?_
  refine awp_seq ?_
  refine awp_cond (by first | rfl | (simp [go_sem, hclo] <;> rfl)) (fun h0 => ?_) (fun h0 => ?_)
  · have hlt : k < l.length := by simp at h0; omega
    have hw : IntKind.i64.wrap (↑k + 1) = (k : Int) + 1 := wrap_succ (by omega)
    obtain ⟨x, hx, hxm⟩ := get_lt hlt
    have hst : cll ps b l = if (cexpr ps b x != 0) = true then cexpr ps b x else cll ps b (l.drop (k + 1)) := by rw [hn, drop_cons hx, cll_cons]
    refine awp_skip ?_
    refine awp_seq ?_
    refine awp_block ?_
    refine awp_seq ?_
    refine awp_region_run (sh := []) tyOk (by simp [go_sem, hclo, hx] <;> rfl) ?_
    refine awp_seq ?_
    refine awp_reg ?_
    refine al_run 3 (sh := []) tyOk (by simp [go_sem, hclo, hx] <;> rfl) ?_
    refine al_fn rfl rfl rfl (by simp [go_sem, hclo, hx] <;> rfl) call47 (hE x hxm) (by simp [go_sem, hclo, hx] <;> rfl) (by simp [go_sem, hclo, hx]) rfl rfl ?_
    refine al_run 1 (sh := []) tyOk (by simp [go_sem, hclo, hx] <;> rfl) ?_
    refine al_nil ?_
    refine awp_seq ?_
    refine awp_region_run (sh := []) tyOk (by simp [go_sem, hclo, hx] <;> rfl) ?_
    refine awp_cond (by first | rfl | (simp [go_sem, hclo, hx] <;> rfl)) (fun h1 => ?_) (fun h1 => ?_)
    · refine awp_seq ?_
      refine awp_region_run (sh := []) tyOk (by simp [go_sem, hclo, hx] <;> rfl) ?_
      refine awp_ret ?_
      refine inBlock_ret ?_
      refine then_ret ?_
      refine then_ret ?_
      refine inBlock_ret ?_
      refine then_ret ?_
      refine ends_ret (by simp [go_sem] <;> rfl) (by simp [go_sem]) ?_
      have hs : cll ps b l = cexpr ps b x := by rw [hst]; simp only [Bool.not_true, hclo, hx, h0, h1, Bool.true_or, Bool.or_true, Bool.false_or, Bool.or_false, Bool.true_and, Bool.and_true, Bool.false_and, Bool.and_false, Bool.not_true, Bool.not_false, Bool.false_eq_true, if_true, if_false]
      exact ⟨by simp [go_sem, hs], by simp [go_sem]⟩
    · refine awp_skip ?_
      refine awp_region_run (sh := []) tyOk (by simp [go_sem, hclo, hx] <;> rfl) ?_
      exact next_intro (k + 1) σ.objs.length σ.toks.length 0 (⟨hlt, by rw [hst]; simp only [h0, h1, Bool.true_or, Bool.or_true, Bool.false_or, Bool.or_false, Bool.true_and, Bool.and_true, Bool.false_and, Bool.and_false, Bool.not_true, Bool.not_false, Bool.false_eq_true, if_true, if_false]⟩) (by omega) ⟨by simp [go_sem, hclo, hx, hw], rfl, by simp, by simp, by simp [go_sem, hclo, hx, hw], fun ob h => .inl (by simpa [go_sem, hclo, hx, hw] using h), by simp [go_sem]⟩
  · have hke : k = l.length := by simp at h0; omega
    subst hke
    have hz : cll ps b l = 0 := by rw [hn, List.drop_length]; rfl
    refine awp_exit ?_
    refine then_exit ?_
    refine then_exit ?_
    refine inBlock_hit ?_
    refine awp_seq ?_
    refine awp_region_run (sh := []) tyOk (by simp [go_sem, hclo] <;> rfl) ?_
    refine awp_ret ?_
    refine ends_ret (by simp [go_sem] <;> rfl) (by simp [go_sem]) ?_
    exact ⟨by simp [go_sem, hz], by simp [go_sem]⟩

set_option maxHeartbeats 1000000 in
theorem c_call (σ : Store) (hgl : σ.gl = (GL kr)) (oc : Nat) (ps : List (D × Int)) (b : List ByteArray) (om : Nat) (hck : CkAt σ oc om ps) (l : List D) (hl : l.length ≤ 1000000000) (hE : ∀ x, x ∈ l → PurAt Tryz.prog σ 47 [.ptr oc 0, .pv (enc x), .pv (.slice (b.map .str))] (.pv (.int .i64 (cexpr ps b x)))) : PurAt Tryz.prog σ 94 [.ptr oc 0, .pv (.slice (l.map enc)), .pv (.slice (b.map .str))] (.pv (.int .i64 (ccall ps b l))) := by
  obtain ⟨hoc, hom⟩ := hck
  refine purAt_of ?_
  refine acalls_of tyOk Tryz.func94 rfl (by simp [Tryz.f94]) ?_
  refine awp_seq ?_
  refine awp_region_run (sh := []) tyOk (by simp [go_sem, hoc] <;> rfl) ?_
  refine awp_seq ?_
  refine awp_seq ?_
  refine awp_reg ?_
  refine al_run 4 (sh := []) tyOk (by simp [go_sem, hoc] <;> rfl) ?_
  refine al_splitT 12 (by first | rfl | (simp [go_sem, hoc] <;> rfl)) (fun h0 => ?_) (fun h0 => ?_)
  · refine al_skip 5 12 false (by simp [go_sem]) (by simp [go_sem]) rfl rfl ?_
    refine al_run 1 (sh := []) tyOk (by simp [go_sem, hoc] <;> rfl) ?_
    refine al_nil ?_
    refine awp_cond (b := true) (by simp [go_sem, hoc, h0]) (fun h => ?_) (fun h => ?_)
    rotate_left
    · cases h
    refine awp_seq ?_
    refine awp_region_run (sh := []) tyOk (by simp [go_sem, hoc] <;> rfl) ?_
    refine awp_ret ?_
    refine then_ret ?_
    refine ends_ret (by simp [go_sem, hoc] <;> rfl) (by simp [go_sem]) ?_
    exact ⟨by simp only [ccall, hoc, h0, Bool.true_or, Bool.or_true, Bool.false_or, Bool.or_false, Bool.true_and, Bool.and_true, Bool.false_and, Bool.and_false, Bool.not_true, Bool.not_false, Bool.false_eq_true, if_true, if_false]; simp [go_sem], by simp [go_sem]⟩
  · have h2l : (2 : Int) ≤ l.length := by simp at h0; omega
    obtain ⟨x1, hx1, hx1m⟩ := get_lt (l := l) (k := 1) (by omega)
    have hg1 : l.getD 1 dnone = x1 := by simp [List.getD, hx1]
    have hwr : IntKind.i64.wrap ((l.length : Int) - 2) = l.length - 2 := wrap_id (by omega) (by omega)
    refine al_runG (sh := []) 3 12 false false tyOk (by simp [go_sem]) rfl (by simp [go_sem]) rfl rfl (by simp [go_sem, hoc, h2l, hx1, hwr] <;> rfl) ?_
    refine al_fnG 12 false false (by simp [go_sem]) rfl (by simp [go_sem]) rfl rfl (by simp [go_sem, hoc, h2l, hx1, hwr] <;> rfl) call118 ((c_node_Label x1) _ (by exact hgl)) (by simp [go_sem, hoc, h2l, hx1, hwr] <;> rfl) (by simp [go_sem, hoc, h2l, hx1, hwr]) rfl rfl ?_
    refine al_runG (sh := []) 1 12 false false tyOk (by simp [go_sem]) rfl (by simp [go_sem]) rfl rfl (by simp [go_sem, hoc, h2l, hx1, hwr] <;> rfl) ?_
    refine al_run 1 (sh := []) tyOk (by simp [go_sem, hoc, h2l, hx1, hwr] <;> rfl) ?_
    refine al_nil ?_
    refine awp_cond (by first | rfl | (simp [go_sem, hoc, h2l, hx1, hwr] <;> rfl)) (fun h1 => ?_) (fun h1 => ?_)
    · refine awp_seq ?_
      refine awp_region_run (sh := []) tyOk (by simp [go_sem, hoc, h2l, hx1, hwr] <;> rfl) ?_
      refine awp_ret ?_
      refine then_ret ?_
      refine ends_ret (by simp [go_sem, hoc, h2l, hx1, hwr] <;> rfl) (by simp [go_sem]) ?_
      exact ⟨by simp only [ccall, hoc, h2l, hx1, hwr, h0, hg1, h1, Bool.true_or, Bool.or_true, Bool.false_or, Bool.or_false, Bool.true_and, Bool.and_true, Bool.false_and, Bool.and_false, Bool.not_true, Bool.not_false, Bool.false_eq_true, if_true, if_false]; simp [go_sem], by simp [go_sem]⟩
    · refine awp_skip ?_
      refine awp_seq ?_
      have hlk := fun (s : St) (d : D) (ho : s.σ.objs[om]? = some (.map (mapK ps) (mapV pint ps))) => look_par ho d
      refine awp_regDP tyOk tySz 13 (by kernel_rfl) (by decide) ?_
      refine ul_run 7 (by simp [go_sem, hoc, h2l, hx1, hwr, hom, hlk] <;> rfl) ?_
      refine ul_fn (by first | (intro _ _ hh; exact hh) | simp [go_sem]) rfl rfl rfl rfl (by simp [go_sem, hoc, h2l, hx1, hwr, hom, hlk] <;> rfl) call98 ((c_flat_keyOf x1) _ (by exact hgl)) (by simp [go_sem, hoc, h2l, hx1, hwr, hom, hlk] <;> rfl) (by simp [go_sem, hoc, h2l, hx1, hwr, hom, hlk]) rfl rfl ?_
      refine ul_run 5 (by simp [go_sem, hoc, h2l, hx1, hwr, hom, hlk] <;> rfl) ?_
      refine ul_nil ?_
      refine al_run 1 (sh := []) tyOk (by simp [go_sem, hoc, h2l, hx1, hwr, hom, hlk] <;> rfl) ?_
      refine al_nil ?_
      refine awp_seq ?_
      refine awp_block ?_
      refine awp_seq ?_
      refine awp_region_run (sh := []) tyOk (by simp [go_sem, hoc, h2l, hx1, hwr, hom, hlk] <;> rfl) ?_
      refine awp_cond (by first | rfl | (simp [go_sem, hoc, h2l, hx1, hwr, hom, hlk] <;> rfl)) (fun h2 => ?_) (fun h2 => ?_)
      · refine awp_seq ?_
        refine awp_region_run (sh := []) tyOk (by simp [go_sem, hoc, h2l, hx1, hwr, hom, hlk] <;> rfl) ?_
        refine awp_ret ?_
        refine inBlock_ret ?_
        refine then_ret ?_
        refine ends_ret (by simp [go_sem, hoc, h2l, hx1, hwr, hom, hlk] <;> rfl) (by simp [go_sem]) ?_
        exact ⟨by simp only [ccall, hoc, h2l, hx1, hwr, hom, hlk, h0, hg1, h1, h2, Bool.true_or, Bool.or_true, Bool.false_or, Bool.or_false, Bool.true_and, Bool.and_true, Bool.false_and, Bool.and_false, Bool.not_true, Bool.not_false, Bool.false_eq_true, if_true, if_false]; simp [go_sem], by simp [go_sem]⟩
      · refine awp_seq ?_
        refine awp_region_run (sh := []) tyOk (by simp [go_sem, hoc, h2l, hx1, hwr, hom, hlk] <;> rfl) ?_
        refine awp_cond (by first | rfl | (simp [go_sem, hoc, h2l, hx1, hwr, hom, hlk] <;> rfl)) (fun h3 => ?_) (fun h3 => ?_)
        · refine awp_seq ?_
          refine awp_region_run (sh := []) tyOk (by simp [go_sem, hoc, h2l, hx1, hwr, hom, hlk] <;> rfl) ?_
          refine awp_ret ?_
          refine inBlock_ret ?_
          refine then_ret ?_
          refine ends_ret (by simp [go_sem, hoc, h2l, hx1, hwr, hom, hlk] <;> rfl) (by simp [go_sem]) ?_
          exact ⟨by simp only [ccall, hoc, h2l, hx1, hwr, hom, hlk, h0, hg1, h1, h2, h3, Bool.true_or, Bool.or_true, Bool.false_or, Bool.or_false, Bool.true_and, Bool.and_true, Bool.false_and, Bool.and_false, Bool.not_true, Bool.not_false, Bool.false_eq_true, if_true, if_false]; simp [go_sem], by simp [go_sem]⟩
        · refine awp_skip ?_
          refine awp_seq ?_
          refine awp_reg ?_
          refine al_run 4 (sh := []) tyOk (by simp [go_sem, hoc, h2l, hx1, hwr, hom, hlk] <;> rfl) ?_
          refine al_fn rfl rfl rfl (by simp [go_sem, hoc, h2l, hx1, hwr, hom, hlk] <;> rfl) call92 (c_all σ hgl oc ps b (l.drop 2) (by simp; omega) (fun x hx => hE x (List.mem_of_mem_drop hx))) (by simp [go_sem, hoc, h2l, hx1, hwr, hom, hlk] <;> rfl) (by simp [go_sem, hoc, h2l, hx1, hwr, hom, hlk, List.map_drop]) rfl rfl ?_
          refine al_run 1 (sh := []) tyOk (by simp [go_sem, hoc, h2l, hx1, hwr, hom, hlk] <;> rfl) ?_
          refine al_nil ?_
          refine awp_ret ?_
          refine ends_ret (by simp [go_sem, hoc, h2l, hx1, hwr, hom, hlk] <;> rfl) (by simp [go_sem]) ?_
          exact ⟨by simp only [ccall, hoc, h2l, hx1, hwr, hom, hlk, h0, hg1, h1, h2, h3, Bool.true_or, Bool.or_true, Bool.false_or, Bool.or_false, Bool.true_and, Bool.and_true, Bool.false_and, Bool.and_false, Bool.not_true, Bool.not_false, Bool.false_eq_true, if_true, if_false]; simp [go_sem], by simp [go_sem]⟩

set_option maxHeartbeats 1000000 in
theorem c_expr (oc om : Nat) (ps : List (D × Int)) (d : D) : ∀ (b : List ByteArray) (σ : Store) (hgl : σ.gl = (GL kr)) (hck : CkAt σ oc om ps) (hb : b.length + d.size ≤ 1000000000), PurAt Tryz.prog σ 47 [.ptr oc 0, .pv (enc d), .pv (.slice (b.map .str))] (.pv (.int .i64 (cexpr ps b d))) := by
  induction d using D.ind with
  | _ kind num text kids ih =>
  generalize hD : D.mk kind num text kids = d at *
  have hk : d.kids = kids := by rw [← hD]; rfl
  clear hD
  subst hk
  have hkl := D.kids_length_lt d
  intro b σ hgl hck hb
  refine purAt_of ?_
  refine acalls_of tyOk Tryz.func47 rfl (by simp [Tryz.f47]) ?_
  refine awp_seq ?_
  refine awp_region_run (sh := []) tyOk (by simp [go_sem] <;> rfl) ?_
  refine awp_seq ?_
  refine awp_block ?_
  refine awp_seq ?_
  refine awp_region_run (sh := []) tyOk (by simp [go_sem] <;> rfl) ?_
  refine awp_cond (by first | rfl | (simp [go_sem] <;> rfl)) (fun h0 => ?_) (fun h0 => ?_)
  · refine awp_seq ?_
    refine awp_region_run (sh := []) tyOk (by simp [go_sem] <;> rfl) ?_
    refine awp_ret ?_
    refine inBlock_ret ?_
    refine then_ret ?_
    refine ends_ret (by simp [go_sem] <;> rfl) (by simp [go_sem]) ?_
    exact ⟨by rw [cexpr_eq ps b d]; simp only [Bool.not_true, h0, Bool.true_or, Bool.or_true, Bool.false_or, Bool.or_false, Bool.true_and, Bool.and_true, Bool.false_and, Bool.and_false, Bool.not_true, Bool.not_false, Bool.false_eq_true, if_true, if_false, sQuote, sIf, sLet, sCall, bne_self_eq_false]; simp [go_sem], by simp [go_sem]⟩
  · refine awp_seq ?_
    refine awp_reg ?_
    refine al_run 4 (sh := []) tyOk (by simp [go_sem] <;> rfl) ?_
    refine al_splitT 19 (by first | rfl | (simp [go_sem] <;> rfl)) (fun h1 => ?_) (fun h1 => ?_)
    · refine al_runG (sh := []) 1 19 true true tyOk (by simp [go_sem]) rfl (by simp [go_sem]) rfl rfl (by simp [go_sem] <;> rfl) ?_
      refine al_fnG 19 true true (by simp [go_sem]) rfl (by simp [go_sem]) rfl rfl (by simp [go_sem] <;> rfl) call90 ((c_node_IsName d) _ (by exact hgl)) (by simp [go_sem] <;> rfl) (by simp [go_sem]) rfl rfl ?_
      refine al_runG (sh := []) 1 19 true true tyOk (by simp [go_sem]) rfl (by simp [go_sem]) rfl rfl (by simp [go_sem] <;> rfl) ?_
      refine al_run 2 (sh := []) tyOk (by simp [go_sem] <;> rfl) ?_
      refine al_nil ?_
      refine awp_cond (by first | rfl | (simp [go_sem] <;> rfl)) (fun h2 => ?_) (fun h2 => ?_)
      · refine awp_seq ?_
        refine awp_region_run (sh := []) tyOk (by simp [go_sem] <;> rfl) ?_
        refine awp_ret ?_
        refine inBlock_ret ?_
        refine then_ret ?_
        refine ends_ret (by simp [go_sem] <;> rfl) (by simp [go_sem]) ?_
        exact ⟨by rw [cexpr_eq ps b d]; simp only [Bool.not_true, h0, h1, h2, Bool.true_or, Bool.or_true, Bool.false_or, Bool.or_false, Bool.true_and, Bool.and_true, Bool.false_and, Bool.and_false, Bool.not_true, Bool.not_false, Bool.false_eq_true, if_true, if_false, sQuote, sIf, sLet, sCall, bne_self_eq_false]; simp [go_sem], by simp [go_sem]⟩
      · refine awp_seq ?_
        refine awp_reg ?_
        refine al_run 4 (sh := []) tyOk (by simp [go_sem] <;> rfl) ?_
        refine al_splitT 28 (by first | rfl | (simp [go_sem] <;> rfl)) (fun h3 => ?_) (fun h3 => ?_)
        · refine al_runG (sh := []) 3 28 true true tyOk (by simp [go_sem]) rfl (by simp [go_sem]) rfl rfl (by simp [go_sem] <;> rfl) ?_
          refine al_fnG 28 true true (by simp [go_sem]) rfl (by simp [go_sem]) rfl rfl (by simp [go_sem] <;> rfl) call91 ((c_Contains b (by omega) d.text) _ (by exact hgl)) (by simp [go_sem] <;> rfl) (by simp [go_sem]) rfl rfl ?_
          refine al_runG (sh := []) 1 28 true true tyOk (by simp [go_sem]) rfl (by simp [go_sem]) rfl rfl (by simp [go_sem] <;> rfl) ?_
          refine al_run 2 (sh := []) tyOk (by simp [go_sem] <;> rfl) ?_
          refine al_nil ?_
          refine awp_cond (by first | rfl | (simp [go_sem] <;> rfl)) (fun h4 => ?_) (fun h4 => ?_)
          · refine awp_seq ?_
            refine awp_region_run (sh := []) tyOk (by simp [go_sem] <;> rfl) ?_
            refine awp_ret ?_
            refine inBlock_ret ?_
            refine then_ret ?_
            refine ends_ret (by simp [go_sem] <;> rfl) (by simp [go_sem]) ?_
            exact ⟨by rw [cexpr_eq ps b d]; simp only [Bool.not_true, h0, h1, h2, h3, h4, Bool.true_or, Bool.or_true, Bool.false_or, Bool.or_false, Bool.true_and, Bool.and_true, Bool.false_and, Bool.and_false, Bool.not_true, Bool.not_false, Bool.false_eq_true, if_true, if_false, sQuote, sIf, sLet, sCall, bne_self_eq_false]; simp [go_sem], by simp [go_sem]⟩
          · refine awp_seq ?_
            refine awp_region_run (sh := []) tyOk (by simp [go_sem] <;> rfl) ?_
            refine awp_cond (by first | rfl | (simp [go_sem] <;> rfl)) (fun h5 => ?_) (fun h5 => ?_)
            · refine awp_seq ?_
              refine awp_region_run (sh := []) tyOk (by simp [go_sem] <;> rfl) ?_
              refine awp_ret ?_
              refine inBlock_ret ?_
              refine then_ret ?_
              refine ends_ret (by simp [go_sem] <;> rfl) (by simp [go_sem]) ?_
              exact ⟨by rw [cexpr_eq ps b d]; simp only [Bool.not_true, h0, h1, h2, h3, h4, h5, Bool.true_or, Bool.or_true, Bool.false_or, Bool.or_false, Bool.true_and, Bool.and_true, Bool.false_and, Bool.and_false, Bool.not_true, Bool.not_false, Bool.false_eq_true, if_true, if_false, sQuote, sIf, sLet, sCall, bne_self_eq_false]; simp [go_sem], by simp [go_sem]⟩
            · exact nomatch h1.symm.trans h5
        · exact nomatch h1.symm.trans h3
    · refine al_skip 3 19 true (by simp [go_sem]) (by simp [go_sem]) rfl rfl ?_
      refine al_run 2 (sh := []) tyOk (by simp [go_sem] <;> rfl) ?_
      refine al_nil ?_
      refine awp_cond (b := false) (by simp [go_sem, h0, h1]) (fun h => ?_) (fun h => ?_)
      · cases h
      refine awp_seq ?_
      refine awp_reg ?_
      refine al_run 4 (sh := []) tyOk (by simp [go_sem] <;> rfl) ?_
      refine al_splitT 28 (by first | rfl | (simp [go_sem] <;> rfl)) (fun h6 => ?_) (fun h6 => ?_)
      · exact nomatch h6.symm.trans h1
      · refine al_skip 5 28 true (by simp [go_sem]) (by simp [go_sem]) rfl rfl ?_
        refine al_run 2 (sh := []) tyOk (by simp [go_sem] <;> rfl) ?_
        refine al_nil ?_
        refine awp_cond (b := false) (by simp [go_sem, h0, h1, h6]) (fun h => ?_) (fun h => ?_)
        · cases h
        refine awp_seq ?_
        refine awp_region_run (sh := []) tyOk (by simp [go_sem] <;> rfl) ?_
        refine awp_cond (by first | rfl | (simp [go_sem] <;> rfl)) (fun h7 => ?_) (fun h7 => ?_)
        · exact nomatch h7.symm.trans h1
        · refine awp_seq ?_
          refine awp_reg ?_
          refine al_run 5 (sh := []) tyOk (by simp [go_sem] <;> rfl) ?_
          refine al_splitT 44 (by first | rfl | (simp [go_sem] <;> rfl)) (fun h8 => ?_) (fun h8 => ?_)
          · refine al_skip 6 44 false (by simp [go_sem]) (by simp [go_sem]) rfl rfl ?_
            refine al_run 2 (sh := []) tyOk (by simp [go_sem] <;> rfl) ?_
            refine al_nil ?_
            refine awp_cond (b := true) (by simp [go_sem, h0, h1, h6, h7, h8]) (fun h => ?_) (fun h => ?_)
            rotate_left
            · cases h
            refine awp_seq ?_
            refine awp_region_run (sh := []) tyOk (by simp [go_sem] <;> rfl) ?_
            refine awp_ret ?_
            refine inBlock_ret ?_
            refine then_ret ?_
            refine ends_ret (by simp [go_sem] <;> rfl) (by simp [go_sem]) ?_
            exact ⟨by rw [cexpr_eq ps b d]; simp only [Bool.not_true, h0, h1, h6, h7, h8, Bool.true_or, Bool.or_true, Bool.false_or, Bool.or_false, Bool.true_and, Bool.and_true, Bool.false_and, Bool.and_false, Bool.not_true, Bool.not_false, Bool.false_eq_true, if_true, if_false, sQuote, sIf, sLet, sCall, bne_self_eq_false]; simp [go_sem], by simp [go_sem]⟩
          · have hl1 : (1 : Int) ≤ d.kids.length := by have := h8; simp only [beq_eq_false_iff_ne] at this; omega
            obtain ⟨x, hx0, hx0m⟩ := get_lt (l := d.kids) (k := 0) (by omega)
            have hh := D.head_of hx0
            have hwr : IntKind.i64.wrap ((d.kids.length : Int) - 1) = d.kids.length - 1 := wrap_id (by omega) (by omega)
            refine al_runG (sh := []) 6 44 false false tyOk (by simp [go_sem]) rfl (by simp [go_sem]) rfl rfl (by simp [go_sem, hx0, hl1, hwr] <;> rfl) ?_
            refine al_run 2 (sh := []) tyOk (by simp [go_sem, hx0, hl1, hwr] <;> rfl) ?_
            refine al_nil ?_
            refine awp_cond (by first | rfl | (simp [go_sem, hx0, hl1, hwr] <;> rfl)) (fun h9 => ?_) (fun h9 => ?_)
            · refine awp_seq ?_
              refine awp_region_run (sh := []) tyOk (by simp [go_sem, hx0, hl1, hwr] <;> rfl) ?_
              refine awp_ret ?_
              refine inBlock_ret ?_
              refine then_ret ?_
              refine ends_ret (by simp [go_sem, hx0, hl1, hwr] <;> rfl) (by simp [go_sem]) ?_
              exact ⟨by rw [cexpr_eq ps b d]; simp only [Bool.not_true, hx0, hl1, hwr, h0, h1, h6, h7, h8, hh, h9, Bool.true_or, Bool.or_true, Bool.false_or, Bool.or_false, Bool.true_and, Bool.and_true, Bool.false_and, Bool.and_false, Bool.not_true, Bool.not_false, Bool.false_eq_true, if_true, if_false, sQuote, sIf, sLet, sCall, bne_self_eq_false]; simp [go_sem], by simp [go_sem]⟩
            · refine awp_skip ?_
              refine awp_seq ?_
              refine awp_seq ?_
              refine awp_region_run (sh := []) tyOk (by simp [go_sem, hx0, hl1, hwr] <;> rfl) ?_
              refine awp_seq ?_
              refine awp_region_run (sh := []) tyOk (by simp [go_sem, hx0, hl1, hwr] <;> rfl) ?_
              refine awp_block ?_
              refine awp_seq ?_
              refine awp_region_run (sh := []) tyOk (by simp [go_sem, hx0, hl1, hwr] <;> rfl) ?_
              refine awp_cond (by first | rfl | (simp [go_sem, hx0, hl1, hwr] <;> rfl)) (fun h10 => ?_) (fun h10 => ?_)
              · refine awp_seq ?_
                refine awp_seq ?_
                refine awp_region_run (sh := []) tyOk (by simp [go_sem, hx0, hl1, hwr] <;> rfl) ?_
                refine awp_cond (by first | rfl | (simp [go_sem, hx0, hl1, hwr] <;> rfl)) (fun h11 => ?_) (fun h11 => ?_)
                · refine awp_seq ?_
                  refine awp_region_run (sh := []) tyOk (by simp [go_sem, hx0, hl1, hwr] <;> rfl) ?_
                  refine awp_ret ?_
                  refine then_ret ?_
                  refine inBlock_ret ?_
                  refine then_ret ?_
                  refine ends_ret (by simp [go_sem, hx0, hl1, hwr] <;> rfl) (by simp [go_sem]) ?_
                  exact ⟨by rw [cexpr_eq ps b d]; simp only [Bool.not_true, hx0, hl1, hwr, h0, h1, h6, h7, h8, hh, h9, h10, h11, Bool.true_or, Bool.or_true, Bool.false_or, Bool.or_false, Bool.true_and, Bool.and_true, Bool.false_and, Bool.and_false, Bool.not_true, Bool.not_false, Bool.false_eq_true, if_true, if_false, sQuote, sIf, sLet, sCall, bne_self_eq_false]; simp [go_sem], by simp [go_sem]⟩
                · refine awp_skip ?_
                  refine awp_seq ?_
                  refine awp_region_run (sh := []) tyOk (by simp [go_sem, hx0, hl1, hwr] <;> rfl) ?_
                  refine awp_ret ?_
                  refine inBlock_ret ?_
                  refine then_ret ?_
                  refine ends_ret (by simp [go_sem, hx0, hl1, hwr] <;> rfl) (by simp [go_sem]) ?_
                  exact ⟨by rw [cexpr_eq ps b d]; simp only [Bool.not_true, hx0, hl1, hwr, h0, h1, h6, h7, h8, hh, h9, h10, h11, Bool.true_or, Bool.or_true, Bool.false_or, Bool.or_false, Bool.true_and, Bool.and_true, Bool.false_and, Bool.and_false, Bool.not_true, Bool.not_false, Bool.false_eq_true, if_true, if_false, sQuote, sIf, sLet, sCall, bne_self_eq_false]; simp [go_sem], by simp [go_sem]⟩
              · refine awp_seq ?_
                refine awp_region_run (sh := []) tyOk (by simp [go_sem, hx0, hl1, hwr] <;> rfl) ?_
                refine awp_cond (by first | rfl | (simp [go_sem, hx0, hl1, hwr] <;> rfl)) (fun h12 => ?_) (fun h12 => ?_)
                · refine awp_seq ?_
                  refine awp_seq ?_
                  refine awp_region_run (sh := []) tyOk (by simp [go_sem, hx0, hl1, hwr] <;> rfl) ?_
                  refine awp_cond (by first | rfl | (simp [go_sem, hx0, hl1, hwr] <;> rfl)) (fun h13 => ?_) (fun h13 => ?_)
                  · refine awp_seq ?_
                    refine awp_region_run (sh := []) tyOk (by simp [go_sem, hx0, hl1, hwr] <;> rfl) ?_
                    refine awp_ret ?_
                    refine then_ret ?_
                    refine inBlock_ret ?_
                    refine then_ret ?_
                    refine ends_ret (by simp [go_sem, hx0, hl1, hwr] <;> rfl) (by simp [go_sem]) ?_
                    exact ⟨by rw [cexpr_eq ps b d]; simp only [Bool.not_true, hx0, hl1, hwr, h0, h1, h6, h7, h8, hh, h9, h10, h12, h13, Bool.true_or, Bool.or_true, Bool.false_or, Bool.or_false, Bool.true_and, Bool.and_true, Bool.false_and, Bool.and_false, Bool.not_true, Bool.not_false, Bool.false_eq_true, if_true, if_false, sQuote, sIf, sLet, sCall, bne_self_eq_false]; simp [go_sem], by simp [go_sem]⟩
                  · refine awp_skip ?_
                    refine awp_seq ?_
                    refine awp_reg ?_
                    refine al_run 4 (sh := []) tyOk (by simp [go_sem, hx0, hl1, hwr] <;> rfl) ?_
                    refine al_fn rfl rfl rfl (by simp [go_sem, hx0, hl1, hwr] <;> rfl) call92 (c_all σ hgl oc ps b (d.kids.drop 1) (by simp; omega) (fun x hx => ih x (List.mem_of_mem_drop hx) b σ hgl hck (by have := D.size_kid_lt (d := d) (k := x) (List.mem_of_mem_drop hx); omega))) (by simp [go_sem, hx0, hl1, hwr] <;> rfl) (by simp [go_sem, hx0, hl1, hwr, List.map_drop]) rfl rfl ?_
                    refine al_run 1 (sh := []) tyOk (by simp [go_sem, hx0, hl1, hwr] <;> rfl) ?_
                    refine al_nil ?_
                    refine awp_ret ?_
                    refine inBlock_ret ?_
                    refine then_ret ?_
                    refine ends_ret (by simp [go_sem, hx0, hl1, hwr] <;> rfl) (by simp [go_sem]) ?_
                    exact ⟨by rw [cexpr_eq ps b d]; simp only [Bool.not_true, hx0, hl1, hwr, h0, h1, h6, h7, h8, hh, h9, h10, h12, h13, Bool.true_or, Bool.or_true, Bool.false_or, Bool.or_false, Bool.true_and, Bool.and_true, Bool.false_and, Bool.and_false, Bool.not_true, Bool.not_false, Bool.false_eq_true, if_true, if_false, sQuote, sIf, sLet, sCall, bne_self_eq_false]; simp [go_sem], by simp [go_sem]⟩
                · refine awp_seq ?_
                  refine awp_region_run (sh := []) tyOk (by simp [go_sem, hx0, hl1, hwr] <;> rfl) ?_
                  refine awp_cond (by first | rfl | (simp [go_sem, hx0, hl1, hwr] <;> rfl)) (fun h14 => ?_) (fun h14 => ?_)
                  · refine awp_seq ?_
                    refine awp_seq ?_
                    refine awp_reg ?_
                    refine al_run 4 (sh := []) tyOk (by simp [go_sem, hx0, hl1, hwr] <;> rfl) ?_
                    refine al_splitT 78 (by first | rfl | (simp [go_sem, hx0, hl1, hwr] <;> rfl)) (fun h15 => ?_) (fun h15 => ?_)
                    · refine al_skip 5 78 false (by simp [go_sem]) (by simp [go_sem]) rfl rfl ?_
                      refine al_run 1 (sh := []) tyOk (by simp [go_sem, hx0, hl1, hwr] <;> rfl) ?_
                      refine al_nil ?_
                      refine awp_cond (b := true) (by simp [go_sem, hx0, hl1, hwr, h0, h1, h6, h7, h8, hh, h9, h10, h12, h14, h15]) (fun h => ?_) (fun h => ?_)
                      rotate_left
                      · cases h
                      refine awp_seq ?_
                      refine awp_region_run (sh := []) tyOk (by simp [go_sem, hx0, hl1, hwr] <;> rfl) ?_
                      refine awp_ret ?_
                      refine then_ret ?_
                      refine inBlock_ret ?_
                      refine then_ret ?_
                      refine ends_ret (by simp [go_sem, hx0, hl1, hwr] <;> rfl) (by simp [go_sem]) ?_
                      exact ⟨by rw [cexpr_eq ps b d]; simp only [Bool.not_true, hx0, hl1, hwr, h0, h1, h6, h7, h8, hh, h9, h10, h12, h14, h15, Bool.true_or, Bool.or_true, Bool.false_or, Bool.or_false, Bool.true_and, Bool.and_true, Bool.false_and, Bool.and_false, Bool.not_true, Bool.not_false, Bool.false_eq_true, if_true, if_false, sQuote, sIf, sLet, sCall, bne_self_eq_false]; simp [go_sem], by simp [go_sem]⟩
                    · have hl4 : d.kids.length = 4 := by have := h15; simp only [bne_eq_false_iff_eq] at this; omega
                      obtain ⟨y1, hy1, hy1m⟩ := get_lt (l := d.kids) (k := 1) (by omega)
                      obtain ⟨y2, hy2, hy2m⟩ := get_lt (l := d.kids) (k := 2) (by omega)
                      obtain ⟨y3, hy3, hy3m⟩ := get_lt (l := d.kids) (k := 3) (by omega)
                      have hg1 := getD_of hy1
                      have hg2 := cnth_get ps b 2 d.kids y2 hy2
                      have hg3 := cnth_get ps (b ++ [y1.text]) 3 d.kids y3 hy3
                      have hs2 := D.size_kid_lt hy2m
                      have hs3 := D.size_kid_lt hy3m
                      have hbb : (b.length + 1) * 16 ≤ 140737488355328 := by omega
                      refine al_runG (sh := []) 3 78 false false tyOk (by simp [go_sem]) rfl (by simp [go_sem]) rfl rfl (by simp [go_sem, hx0, hl1, hwr, hy1, hy2, hy3, hbb, allSz_str] <;> rfl) ?_
                      refine al_fnG 78 false false (by simp [go_sem]) rfl (by simp [go_sem]) rfl rfl (by simp [go_sem, hx0, hl1, hwr, hy1, hy2, hy3, hbb, allSz_str] <;> rfl) call90 ((c_node_IsName y1) _ (by exact hgl)) (by simp [go_sem, hx0, hl1, hwr, hy1, hy2, hy3, hbb, allSz_str] <;> rfl) (by simp [go_sem, hx0, hl1, hwr, hy1, hy2, hy3, hbb, allSz_str]) rfl rfl ?_
                      refine al_runG (sh := []) 1 78 false false tyOk (by simp [go_sem]) rfl (by simp [go_sem]) rfl rfl (by simp [go_sem, hx0, hl1, hwr, hy1, hy2, hy3, hbb, allSz_str] <;> rfl) ?_
                      refine al_run 1 (sh := []) tyOk (by simp [go_sem, hx0, hl1, hwr, hy1, hy2, hy3, hbb, allSz_str] <;> rfl) ?_
                      refine al_nil ?_
                      refine awp_cond (by first | rfl | (simp [go_sem, hx0, hl1, hwr, hy1, hy2, hy3, hbb, allSz_str] <;> rfl)) (fun h16 => ?_) (fun h16 => ?_)
                      · refine awp_seq ?_
                        refine awp_region_run (sh := []) tyOk (by simp [go_sem, hx0, hl1, hwr, hy1, hy2, hy3, hbb, allSz_str] <;> rfl) ?_
                        refine awp_ret ?_
                        refine then_ret ?_
                        refine inBlock_ret ?_
                        refine then_ret ?_
                        refine ends_ret (by simp [go_sem, hx0, hl1, hwr, hy1, hy2, hy3, hbb, allSz_str] <;> rfl) (by simp [go_sem]) ?_
                        exact ⟨by rw [cexpr_eq ps b d]; simp only [Bool.not_true, hx0, hl1, hwr, hy1, hy2, hy3, hbb, allSz_str, h0, h1, h6, h7, h8, hh, h9, h10, h12, h14, h15, hg1, hg2, hg3, h16, Bool.true_or, Bool.or_true, Bool.false_or, Bool.or_false, Bool.true_and, Bool.and_true, Bool.false_and, Bool.and_false, Bool.not_true, Bool.not_false, Bool.false_eq_true, if_true, if_false, sQuote, sIf, sLet, sCall, bne_self_eq_false]; simp [go_sem], by simp [go_sem]⟩
                      · refine awp_skip ?_
                        refine awp_seq ?_
                        refine awp_seq ?_
                        refine awp_reg ?_
                        refine al_run 5 (sh := []) tyOk (by simp [go_sem, hx0, hl1, hwr, hy1, hy2, hy3, hbb, allSz_str] <;> rfl) ?_
                        refine al_fn rfl rfl rfl (by simp [go_sem, hx0, hl1, hwr, hy1, hy2, hy3, hbb, allSz_str] <;> rfl) call47 (ih y2 hy2m b σ hgl hck (by omega)) (by simp [go_sem, hx0, hl1, hwr, hy1, hy2, hy3, hbb, allSz_str] <;> rfl) (by simp [go_sem, hx0, hl1, hwr, hy1, hy2, hy3, hbb, allSz_str]) rfl rfl ?_
                        refine al_run 1 (sh := []) tyOk (by simp [go_sem, hx0, hl1, hwr, hy1, hy2, hy3, hbb, allSz_str] <;> rfl) ?_
                        refine al_nil ?_
                        refine awp_seq ?_
                        refine awp_region_run (sh := []) tyOk (by simp [go_sem, hx0, hl1, hwr, hy1, hy2, hy3, hbb, allSz_str] <;> rfl) ?_
                        refine awp_cond (by first | rfl | (simp [go_sem, hx0, hl1, hwr, hy1, hy2, hy3, hbb, allSz_str] <;> rfl)) (fun h17 => ?_) (fun h17 => ?_)
                        · refine awp_seq ?_
                          refine awp_region_run (sh := []) tyOk (by simp [go_sem, hx0, hl1, hwr, hy1, hy2, hy3, hbb, allSz_str] <;> rfl) ?_
                          refine awp_ret ?_
                          refine then_ret ?_
                          refine inBlock_ret ?_
                          refine then_ret ?_
                          refine ends_ret (by simp [go_sem, hx0, hl1, hwr, hy1, hy2, hy3, hbb, allSz_str] <;> rfl) (by simp [go_sem]) ?_
                          exact ⟨by rw [cexpr_eq ps b d]; simp only [Bool.not_true, hx0, hl1, hwr, hy1, hy2, hy3, hbb, allSz_str, h0, h1, h6, h7, h8, hh, h9, h10, h12, h14, h15, hg1, hg2, hg3, h16, h17, Bool.true_or, Bool.or_true, Bool.false_or, Bool.or_false, Bool.true_and, Bool.and_true, Bool.false_and, Bool.and_false, Bool.not_true, Bool.not_false, Bool.false_eq_true, if_true, if_false, sQuote, sIf, sLet, sCall, bne_self_eq_false]; simp [go_sem], by simp [go_sem]⟩
                        · refine awp_skip ?_
                          refine awp_seq ?_
                          refine awp_regDC tyOk tySz 12 (by kernel_rfl) (by decide) ?_
                          refine ul_run 5 (by simp [go_sem, hx0, hl1, hwr, hy1, hy2, hy3, hbb, allSz_str] <;> rfl) ?_
                          refine ul_fn (by first | (intro _ _ hh; exact hh) | simp [go_sem]) rfl rfl rfl rfl (by simp [go_sem, hx0, hl1, hwr, hy1, hy2, hy3, hbb, allSz_str] <;> rfl) call93 ((c_Clip b) _ (by exact hgl)) (by simp [go_sem, hx0, hl1, hwr, hy1, hy2, hy3, hbb, allSz_str] <;> rfl) (by simp [go_sem, hx0, hl1, hwr, hy1, hy2, hy3, hbb, allSz_str]) rfl rfl ?_
                          refine ul_run 6 (by simp [go_sem, hx0, hl1, hwr, hy1, hy2, hy3, hbb, allSz_str] <;> rfl) ?_
                          refine ul_nil ?_
                          refine al_fn rfl rfl rfl (by simp [go_sem, hx0, hl1, hwr, hy1, hy2, hy3, hbb, allSz_str] <;> rfl) call47 (ih y3 hy3m (b ++ [y1.text]) _ (by exact hgl) (by exact hck) (by simp; omega)) (by simp [go_sem, hx0, hl1, hwr, hy1, hy2, hy3, hbb, allSz_str] <;> rfl) (by simp [go_sem, hx0, hl1, hwr, hy1, hy2, hy3, hbb, allSz_str]) rfl rfl ?_
                          refine al_run 1 (sh := []) tyOk (by simp [go_sem, hx0, hl1, hwr, hy1, hy2, hy3, hbb, allSz_str] <;> rfl) ?_
                          refine al_nil ?_
                          refine awp_ret ?_
                          refine inBlock_ret ?_
                          refine then_ret ?_
                          refine ends_ret (by simp [go_sem, hx0, hl1, hwr, hy1, hy2, hy3, hbb, allSz_str] <;> rfl) (by simp [go_sem]) ?_
                          exact ⟨by rw [cexpr_eq ps b d]; simp only [Bool.not_true, hx0, hl1, hwr, hy1, hy2, hy3, hbb, allSz_str, h0, h1, h6, h7, h8, hh, h9, h10, h12, h14, h15, hg1, hg2, hg3, h16, h17, Bool.true_or, Bool.or_true, Bool.false_or, Bool.or_false, Bool.true_and, Bool.and_true, Bool.false_and, Bool.and_false, Bool.not_true, Bool.not_false, Bool.false_eq_true, if_true, if_false, sQuote, sIf, sLet, sCall, bne_self_eq_false]; simp [go_sem], by simp [go_sem]⟩
                  · refine awp_seq ?_
                    refine awp_region_run (sh := []) tyOk (by simp [go_sem, hx0, hl1, hwr] <;> rfl) ?_
                    refine awp_cond (by first | rfl | (simp [go_sem, hx0, hl1, hwr] <;> rfl)) (fun h18 => ?_) (fun h18 => ?_)
                    · refine awp_seq ?_
                      refine awp_reg ?_
                      refine al_run 3 (sh := []) tyOk (by simp [go_sem, hx0, hl1, hwr] <;> rfl) ?_
                      refine al_fn rfl rfl rfl (by simp [go_sem, hx0, hl1, hwr] <;> rfl) call94 (c_call σ hgl oc ps b om hck d.kids (by omega) (fun x hx => ih x hx b σ hgl hck (by have := D.size_kid_lt (d := d) (k := x) hx; omega))) (by simp [go_sem, hx0, hl1, hwr] <;> rfl) (by simp [go_sem, hx0, hl1, hwr]) rfl rfl ?_
                      refine al_run 1 (sh := []) tyOk (by simp [go_sem, hx0, hl1, hwr] <;> rfl) ?_
                      refine al_nil ?_
                      refine awp_ret ?_
                      refine inBlock_ret ?_
                      refine then_ret ?_
                      refine ends_ret (by simp [go_sem, hx0, hl1, hwr] <;> rfl) (by simp [go_sem]) ?_
                      exact ⟨by rw [cexpr_eq ps b d]; simp only [Bool.not_true, hx0, hl1, hwr, h0, h1, h6, h7, h8, hh, h9, h10, h12, h14, h18, Bool.true_or, Bool.or_true, Bool.false_or, Bool.or_false, Bool.true_and, Bool.and_true, Bool.false_and, Bool.and_false, Bool.not_true, Bool.not_false, Bool.false_eq_true, if_true, if_false, sQuote, sIf, sLet, sCall, bne_self_eq_false]; simp [go_sem], by simp [go_sem]⟩
                    · refine awp_skip ?_
                      refine awp_seq ?_
                      refine awp_reg ?_
                      refine al_run 5 (sh := []) tyOk (by simp [go_sem, hx0, hl1, hwr] <;> rfl) ?_
                      refine al_fn rfl rfl rfl (by simp [go_sem, hx0, hl1, hwr] <;> rfl) call95 ((c_prim_Arity x.text) _ (by exact hgl)) (by simp [go_sem, hx0, hl1, hwr] <;> rfl) (by simp [go_sem, hx0, hl1, hwr]) rfl rfl ?_
                      refine al_run 5 (sh := []) tyOk (by simp [go_sem, hx0, hl1, hwr] <;> rfl) ?_
                      refine al_nil ?_
                      refine awp_seq ?_
                      refine awp_block ?_
                      refine awp_seq ?_
                      refine awp_region_run (sh := []) tyOk (by simp [go_sem, hx0, hl1, hwr] <;> rfl) ?_
                      refine awp_cond (by first | rfl | (simp [go_sem, hx0, hl1, hwr] <;> rfl)) (fun h19 => ?_) (fun h19 => ?_)
                      · refine awp_seq ?_
                        refine awp_region_run (sh := []) tyOk (by simp [go_sem, hx0, hl1, hwr] <;> rfl) ?_
                        refine awp_ret ?_
                        refine inBlock_ret ?_
                        refine then_ret ?_
                        refine ends_ret (by simp [go_sem, hx0, hl1, hwr] <;> rfl) (by simp [go_sem]) ?_
                        exact ⟨by rw [cexpr_eq ps b d]; simp only [Bool.not_true, hx0, hl1, hwr, h0, h1, h6, h7, h8, hh, h9, h10, h12, h14, h18, h19, Bool.true_or, Bool.or_true, Bool.false_or, Bool.or_false, Bool.true_and, Bool.and_true, Bool.false_and, Bool.and_false, Bool.not_true, Bool.not_false, Bool.false_eq_true, if_true, if_false, sQuote, sIf, sLet, sCall, bne_self_eq_false]; simp [go_sem], by simp [go_sem]⟩
                      · refine awp_seq ?_
                        refine awp_region_run (sh := []) tyOk (by simp [go_sem, hx0, hl1, hwr] <;> rfl) ?_
                        refine awp_cond (by first | rfl | (simp [go_sem, hx0, hl1, hwr] <;> rfl)) (fun h20 => ?_) (fun h20 => ?_)
                        · refine awp_seq ?_
                          refine awp_region_run (sh := []) tyOk (by simp [go_sem, hx0, hl1, hwr] <;> rfl) ?_
                          refine awp_ret ?_
                          refine inBlock_ret ?_
                          refine then_ret ?_
                          refine ends_ret (by simp [go_sem, hx0, hl1, hwr] <;> rfl) (by simp [go_sem]) ?_
                          exact ⟨by rw [cexpr_eq ps b d]; simp only [Bool.not_true, hx0, hl1, hwr, h0, h1, h6, h7, h8, hh, h9, h10, h12, h14, h18, h19, h20, Bool.true_or, Bool.or_true, Bool.false_or, Bool.or_false, Bool.true_and, Bool.and_true, Bool.false_and, Bool.and_false, Bool.not_true, Bool.not_false, Bool.false_eq_true, if_true, if_false, sQuote, sIf, sLet, sCall, bne_self_eq_false]; simp [go_sem], by simp [go_sem]⟩
                        · refine awp_skip ?_
                          refine awp_seq ?_
                          refine awp_reg ?_
                          refine al_run 5 (sh := []) tyOk (by simp [go_sem, hx0, hl1, hwr] <;> rfl) ?_
                          refine al_fn rfl rfl rfl (by simp [go_sem, hx0, hl1, hwr] <;> rfl) call92 (c_all σ hgl oc ps b (d.kids.drop 1) (by simp; omega) (fun x hx => ih x (List.mem_of_mem_drop hx) b σ hgl hck (by have := D.size_kid_lt (d := d) (k := x) (List.mem_of_mem_drop hx); omega))) (by simp [go_sem, hx0, hl1, hwr] <;> rfl) (by simp [go_sem, hx0, hl1, hwr, List.map_drop]) rfl rfl ?_
                          refine al_run 1 (sh := []) tyOk (by simp [go_sem, hx0, hl1, hwr] <;> rfl) ?_
                          refine al_nil ?_
                          refine awp_ret ?_
                          refine ends_ret (by simp [go_sem, hx0, hl1, hwr] <;> rfl) (by simp [go_sem]) ?_
                          exact ⟨by rw [cexpr_eq ps b d]; simp only [Bool.not_true, hx0, hl1, hwr, h0, h1, h6, h7, h8, hh, h9, h10, h12, h14, h18, h19, h20, Bool.true_or, Bool.or_true, Bool.false_or, Bool.or_false, Bool.true_and, Bool.and_true, Bool.false_and, Bool.and_false, Bool.not_true, Bool.not_false, Bool.false_eq_true, if_true, if_false, sQuote, sIf, sLet, sCall, bne_self_eq_false]; simp [go_sem], by simp [go_sem]⟩

set_option maxHeartbeats 1000000 in
theorem c_head_none (oc om : Nat) (ps : List (D × Int)) (d : D) (hd : d.size ≤ 1000000000) (σ : Store) (hgl : σ.gl = (GL kr)) (hck : CkAt σ oc om ps) (hkd : kidsOf d 3 false = none) : ACalls Tryz.prog 89 [.ptr oc 0, .pv (enc d)] σ (fun r σ' => r = .pv (.int .i64 (chead ps d).1) ∧ σ' = setM σ om (chead ps d).2) := by
  have hkl := D.kids_length_lt d
  obtain ⟨hoc, hom⟩ := id hck
  refine acalls_of tyOk Tryz.func89 rfl (by simp [Tryz.f89]) ?_
  refine awp_seq ?_
  refine awp_region_run (sh := []) tyOk (by simp [go_sem, hoc, hkd, encO] <;> rfl) ?_
  refine awp_seq ?_
  refine awp_reg ?_
  refine al_run 1 (sh := []) tyOk (by simp [go_sem, hoc, hkd, encO] <;> rfl) ?_
  refine al_fn rfl rfl rfl (by simp [go_sem, hoc, hkd, encO] <;> rfl) call117 ((c_flat_Kids d 3 false) _ (by exact hgl)) (by simp [go_sem, hoc, hkd, encO] <;> rfl) (by simp [go_sem, hoc, hkd, encO]) rfl rfl ?_
  refine al_run 1 (sh := []) tyOk (by simp [go_sem, hoc, hkd, encO] <;> rfl) ?_
  refine al_nil ?_
  refine awp_seq ?_
  refine awp_seq ?_
  refine awp_reg ?_
  refine al_run 3 (sh := []) tyOk (by simp [go_sem, hoc, hkd, encO] <;> rfl) ?_
  refine al_splitT 14 (by first | rfl | (simp [go_sem, hoc, hkd, encO] <;> rfl)) (fun h0 => ?_) (fun h0 => ?_)
  · refine al_skip 5 14 false (by simp [go_sem]) (by simp [go_sem]) rfl rfl ?_
    refine al_run 1 (sh := []) tyOk (by simp [go_sem, hoc, hkd, encO] <;> rfl) ?_
    refine al_nil ?_
    refine awp_cond (b := true) (by simp [go_sem, hoc, hkd, encO, h0]) (fun h => ?_) (fun h => ?_)
    rotate_left
    · cases h
    refine awp_seq ?_
    refine awp_region_run (sh := []) tyOk (by simp [go_sem, hoc, hkd, encO] <;> rfl) ?_
    refine awp_ret ?_
    refine then_ret ?_
    refine ends_ret (by simp [go_sem] <;> rfl) (by simp [go_sem]) ?_
    have hs : chead ps d = (4, ps) := by simp only [chead, hkd]
    rw [hs]
    exact ⟨rfl, (setM_self hck).symm⟩
  · exact nomatch h0

set_option maxHeartbeats 1000000 in
theorem c_head_some (oc om : Nat) (ps : List (D × Int)) (d : D) (hd : d.size ≤ 1000000000) (σ : Store) (hgl : σ.gl = (GL kr)) (hck : CkAt σ oc om ps) (x0 x1 x2 : D) (hkd : kidsOf d 3 false = some [x0, x1, x2]) (hx1 : x1.size ≤ 1000000000) : ACalls Tryz.prog 89 [.ptr oc 0, .pv (enc d)] σ (fun r σ' => r = .pv (.int .i64 (chead ps d).1) ∧ σ' = setM σ om (chead ps d).2) := by
  have hkl := D.kids_length_lt d
  obtain ⟨hoc, hom⟩ := id hck
  have hg0 : ([x0, x1, x2] : List D).getD 0 dnone = x0 := rfl
  have hg1 : ([x0, x1, x2] : List D).getD 1 dnone = x1 := rfl
  refine acalls_of tyOk Tryz.func89 rfl (by simp [Tryz.f89]) ?_
  refine awp_seq ?_
  refine awp_region_run (sh := []) tyOk (by simp [go_sem, hoc, hkd, encO] <;> rfl) ?_
  refine awp_seq ?_
  refine awp_reg ?_
  refine al_run 1 (sh := []) tyOk (by simp [go_sem, hoc, hkd, encO] <;> rfl) ?_
  refine al_fn rfl rfl rfl (by simp [go_sem, hoc, hkd, encO] <;> rfl) call117 ((c_flat_Kids d 3 false) _ (by exact hgl)) (by simp [go_sem, hoc, hkd, encO] <;> rfl) (by simp [go_sem, hoc, hkd, encO]) rfl rfl ?_
  refine al_run 1 (sh := []) tyOk (by simp [go_sem, hoc, hkd, encO] <;> rfl) ?_
  refine al_nil ?_
  refine awp_seq ?_
  refine awp_seq ?_
  refine awp_reg ?_
  refine al_run 3 (sh := []) tyOk (by simp [go_sem, hoc, hkd, encO] <;> rfl) ?_
  refine al_splitT 14 (by first | rfl | (simp [go_sem, hoc, hkd, encO] <;> rfl)) (fun h0 => ?_) (fun h0 => ?_)
  · exact nomatch h0
  · refine al_runG (sh := []) 3 14 false false tyOk (by simp [go_sem]) rfl (by simp [go_sem]) rfl rfl (by simp [go_sem, hoc, hkd, encO] <;> rfl) ?_
    refine al_fnG 14 false false (by simp [go_sem]) rfl (by simp [go_sem]) rfl rfl (by simp [go_sem, hoc, hkd, encO] <;> rfl) call118 ((c_node_Label x0) _ (by exact hgl)) (by simp [go_sem, hoc, hkd, encO] <;> rfl) (by simp [go_sem, hoc, hkd, encO]) rfl rfl ?_
    refine al_runG (sh := []) 1 14 false false tyOk (by simp [go_sem]) rfl (by simp [go_sem]) rfl rfl (by simp [go_sem, hoc, hkd, encO] <;> rfl) ?_
    refine al_run 1 (sh := []) tyOk (by simp [go_sem, hoc, hkd, encO] <;> rfl) ?_
    refine al_nil ?_
    refine awp_cond (by first | rfl | (simp [go_sem, hoc, hkd, encO] <;> rfl)) (fun h1 => ?_) (fun h1 => ?_)
    · refine awp_seq ?_
      refine awp_region_run (sh := []) tyOk (by simp [go_sem, hoc, hkd, encO] <;> rfl) ?_
      refine awp_ret ?_
      refine then_ret ?_
      refine ends_ret (by simp [go_sem] <;> rfl) (by simp [go_sem]) ?_
      have hs : chead ps d = (4, ps) := by simp only [chead, hkd, d0, d1, hg0, hg1, Bool.not_true, hoc, hkd, encO, h0, h1, Bool.true_or, Bool.or_true, Bool.false_or, Bool.or_false, Bool.true_and, Bool.and_true, Bool.false_and, Bool.and_false, Bool.not_true, Bool.not_false, Bool.false_eq_true, if_true, if_false]
      rw [hs]
      exact ⟨rfl, (setM_self hck).symm⟩
    · refine awp_skip ?_
      refine awp_seq ?_
      have hlk := fun (s : St) (d : D) (ho : s.σ.objs[om]? = some (.map (mapK ps) (mapV pint ps))) => look_par ho d
      refine awp_regDP tyOk tySz 13 (by kernel_rfl) (by decide) ?_
      refine ul_run 7 (by simp [go_sem, hoc, hkd, encO, hom, hlk] <;> rfl) ?_
      refine ul_fn (by first | (intro _ _ hh; exact hh) | simp [go_sem]) rfl rfl rfl rfl (by simp [go_sem, hoc, hkd, encO, hom, hlk] <;> rfl) call98 ((c_flat_keyOf x0) _ (by exact hgl)) (by simp [go_sem, hoc, hkd, encO, hom, hlk] <;> rfl) (by simp [go_sem, hoc, hkd, encO, hom, hlk]) rfl rfl ?_
      refine ul_run 5 (by simp [go_sem, hoc, hkd, encO, hom, hlk] <;> rfl) ?_
      refine ul_nil ?_
      refine al_run 1 (sh := []) tyOk (by simp [go_sem, hoc, hkd, encO, hom, hlk] <;> rfl) ?_
      refine al_nil ?_
      refine awp_seq ?_
      refine awp_reg ?_
      refine al_run 3 (sh := []) tyOk (by simp [go_sem, hoc, hkd, encO, hom, hlk] <;> rfl) ?_
      refine al_fn rfl rfl rfl (by simp [go_sem, hoc, hkd, encO, hom, hlk] <;> rfl) call46 ((c_flat_Names x1 hx1) _ (by exact hgl)) (by simp [go_sem, hoc, hkd, encO, hom, hlk] <;> rfl) (by simp [go_sem, hoc, hkd, encO, hom, hlk]) rfl rfl ?_
      refine al_run 5 (sh := []) tyOk (by simp [go_sem, hoc, hkd, encO, hom, hlk] <;> rfl) ?_
      refine al_nil ?_
      refine awp_seq ?_
      refine awp_block ?_
      refine awp_seq ?_
      refine awp_reg ?_
      refine al_run 2 (sh := []) tyOk (by simp [go_sem, hoc, hkd, encO, hom, hlk] <;> rfl) ?_
      refine al_splitT 42 (by first | rfl | (simp [go_sem, hoc, hkd, encO, hom, hlk] <;> rfl)) (fun h2 => ?_) (fun h2 => ?_)
      · refine al_skip 2 42 false (by simp [go_sem]) (by simp [go_sem]) rfl rfl ?_
        refine al_run 2 (sh := []) tyOk (by simp [go_sem, hoc, hkd, encO, hom, hlk] <;> rfl) ?_
        refine al_nil ?_
        refine awp_cond (b := true) (by simp [go_sem, hoc, hkd, encO, hom, hlk, h0, h1, h2]) (fun h => ?_) (fun h => ?_)
        rotate_left
        · cases h
        refine awp_seq ?_
        refine awp_region_run (sh := []) tyOk (by simp [go_sem, hoc, hkd, encO, hom, hlk] <;> rfl) ?_
        refine awp_ret ?_
        refine inBlock_ret ?_
        refine then_ret ?_
        refine ends_ret (by simp [go_sem] <;> rfl) (by simp [go_sem]) ?_
        have hs : chead ps d = (4, ps) := by simp only [chead, hkd, d0, d1, hg0, hg1, Bool.not_true, hoc, hkd, encO, hom, hlk, h0, h1, h2, Bool.true_or, Bool.or_true, Bool.false_or, Bool.or_false, Bool.true_and, Bool.and_true, Bool.false_and, Bool.and_false, Bool.not_true, Bool.not_false, Bool.false_eq_true, if_true, if_false]
        rw [hs]
        exact ⟨rfl, (setM_self hck).symm⟩
      · refine al_runG (sh := []) 2 42 false false tyOk (by simp [go_sem]) rfl (by simp [go_sem]) rfl rfl (by simp [go_sem, hoc, hkd, encO, hom, hlk] <;> rfl) ?_
        refine al_run 2 (sh := []) tyOk (by simp [go_sem, hoc, hkd, encO, hom, hlk] <;> rfl) ?_
        refine al_nil ?_
        refine awp_cond (by first | rfl | (simp [go_sem, hoc, hkd, encO, hom, hlk] <;> rfl)) (fun h3 => ?_) (fun h3 => ?_)
        · have hnn : names x1 = none := by simpa using h3
          refine awp_seq ?_
          refine awp_region_run (sh := []) tyOk (by simp [go_sem, hoc, hkd, encO, hom, hlk] <;> rfl) ?_
          refine awp_ret ?_
          refine inBlock_ret ?_
          refine then_ret ?_
          refine ends_ret (by simp [go_sem] <;> rfl) (by simp [go_sem]) ?_
          have hs : chead ps d = (4, ps) := by simp only [chead, hkd, d0, d1, hg0, hg1, Bool.not_true, hoc, hkd, encO, hom, hlk, h0, h1, h2, h3, hnn, Bool.true_or, Bool.or_true, Bool.false_or, Bool.or_false, Bool.true_and, Bool.and_true, Bool.false_and, Bool.and_false, Bool.not_true, Bool.not_false, Bool.false_eq_true, if_true, if_false]
          rw [hs]
          exact ⟨rfl, (setM_self hck).symm⟩
        · obtain ⟨ns, hns⟩ : ∃ ns, names x1 = some ns := Option.isSome_iff_exists.1 (by simpa using h3)
          have hpt := fun (s : St) (d : D) (v : Int) (ho : s.σ.objs[om]? = some (.map (mapK ps) (mapV pint ps))) => put_par ho d v
          refine awp_seq ?_
          refine awp_region_run (sh := []) tyOk (by simp [go_sem, hoc, hkd, encO, hom, hlk, hns, encN] <;> rfl) ?_
          refine awp_cond (by first | rfl | (simp [go_sem, hoc, hkd, encO, hom, hlk, hns, encN] <;> rfl)) (fun h4 => ?_) (fun h4 => ?_)
          · refine awp_seq ?_
            refine awp_region_run (sh := []) tyOk (by simp [go_sem, hoc, hkd, encO, hom, hlk, hns, encN] <;> rfl) ?_
            refine awp_ret ?_
            refine inBlock_ret ?_
            refine then_ret ?_
            refine ends_ret (by simp [go_sem] <;> rfl) (by simp [go_sem]) ?_
            have hs : chead ps d = (3, ps) := by simp only [chead, hkd, d0, d1, hg0, hg1, Bool.not_true, hoc, hkd, encO, hom, hlk, hns, encN, h0, h1, h2, h3, hns, h4, Bool.true_or, Bool.or_true, Bool.false_or, Bool.or_false, Bool.true_and, Bool.and_true, Bool.false_and, Bool.and_false, Bool.not_true, Bool.not_false, Bool.false_eq_true, if_true, if_false]
            rw [hs]
            exact ⟨rfl, (setM_self hck).symm⟩
          · refine awp_skip ?_
            refine awp_seq ?_
            refine awp_regDP tyOk tySz 10 (by kernel_rfl) (by decide) ?_
            refine ul_run 7 (by simp [go_sem, hoc, hkd, encO, hom, hlk, hns, encN, hpt] <;> rfl) ?_
            refine ul_fn (by first | (intro _ _ hh; exact hh) | simp [go_sem]) rfl rfl rfl rfl (by simp [go_sem, hoc, hkd, encO, hom, hlk, hns, encN, hpt] <;> rfl) call98 ((c_flat_keyOf x0) _ (by exact hgl)) (by simp [go_sem, hoc, hkd, encO, hom, hlk, hns, encN, hpt] <;> rfl) (by simp [go_sem, hoc, hkd, encO, hom, hlk, hns, encN, hpt]) rfl rfl ?_
            refine ul_run 2 (by simp [go_sem, hoc, hkd, encO, hom, hlk, hns, encN, hpt] <;> rfl) ?_
            refine ul_nil ?_
            refine al_run 1 (sh := []) tyOk (by simp [go_sem, hoc, hkd, encO, hom, hlk, hns, encN, hpt] <;> rfl) ?_
            refine al_nil ?_
            refine awp_seq ?_
            refine awp_region_run (sh := []) tyOk (by simp [go_sem, hoc, hkd, encO, hom, hlk, hns, encN, hpt] <;> rfl) ?_
            refine awp_ret ?_
            refine ends_ret (by simp [go_sem] <;> rfl) (by simp [go_sem]) ?_
            have hs : chead ps d = (0, kset ps x0 ns.length) := by simp only [chead, hkd, d0, d1, hg0, hg1, Bool.not_true, hoc, hkd, encO, hom, hlk, hns, encN, hpt, h0, h1, h2, h3, hns, h4, Bool.true_or, Bool.or_true, Bool.false_or, Bool.or_false, Bool.true_and, Bool.and_true, Bool.false_and, Bool.and_false, Bool.not_true, Bool.not_false, Bool.false_eq_true, if_true, if_false]
            rw [hs]
            exact ⟨rfl, rfl⟩

end Go.Proofs.YtienmmfjjffjaaaGreatDoor

/- The whole check of a program. -/
namespace Go.Proofs.YtienmmfjjffjaaaGreatDoor
open Go Go.Aw
variable {kr : ResO}
theorem c_head (oc om : Nat) (ps : List (D × Int)) (d : D) (hd : d.size ≤ 1000000000) (σ : Store) (hgl : σ.gl = (GL kr)) (hck : CkAt σ oc om ps) : ACalls Tryz.prog 89 [.ptr oc 0, .pv (enc d)] σ (fun r σ' => r = .pv (.int .i64 (chead ps d).1) ∧ σ' = setM σ om (chead ps d).2) := by
  cases hk : kidsOf d 3 false with
  | none => exact c_head_none oc om ps d hd σ hgl hck hk
  | some l =>
    obtain ⟨x0, x1, x2, rfl, hkk, _⟩ := kidsOf_three hk
    exact c_head_some oc om ps d hd σ hgl hck x0 x1 x2 hk (by have := D.size_kid_lt (d := d) (k := x1) (by rw [hkk]; simp); omega)

set_option maxHeartbeats 1000000 in
theorem c_flat_heads (p : D) (hp : p.size ≤ 1000000000) (σ : Store) (hgl : σ.gl = (GL kr)) : ACalls Tryz.prog 45 [.pv (enc p)] σ (fun r σ' => r = .tuple [.ptr (σ.objs.length + 1) 0, .pv (.int .i64 (heads p).1)] ∧ σ' = withC σ (heads p).2) := by
  have hkl := D.kids_length_lt p
  refine acalls_of tyOk Tryz.func45 rfl (by simp [Tryz.f45]) ?_
  refine awp_seq ?_
  refine awp_region_run (sh := []) tyOk (by simp [go_sem] <;> rfl) ?_
  refine awp_seq ?_
  refine awp_region_run (sh := [11]) tyOk (by simp [go_sem] <;> rfl) ?_
  refine awp_seq ?_
  refine awp_seq ?_
  refine awp_reg ?_
  refine al_run 1 (sh := []) tyOk (by simp [go_sem] <;> rfl) ?_
  refine al_fn rfl rfl rfl (by simp [go_sem] <;> rfl) call72 ((c_datum_Check p hp) _ (by exact hgl)) (by simp [go_sem] <;> rfl) (by simp [go_sem]) rfl rfl ?_
  refine al_run 1 (sh := []) tyOk (by simp [go_sem] <;> rfl) ?_
  refine al_nil ?_
  refine awp_seq ?_
  refine awp_region_run (sh := []) tyOk (by simp [go_sem] <;> rfl) ?_
  refine awp_cond (by first | rfl | (simp [go_sem] <;> rfl)) (fun h0 => ?_) (fun h0 => ?_)
  · refine awp_seq ?_
    refine awp_region_run (sh := []) tyOk (by simp [go_sem] <;> rfl) ?_
    refine awp_ret ?_
    refine then_ret ?_
    refine ends_ret (by simp [go_sem] <;> rfl) (by simp [go_sem]) ?_
    have hs : heads p = (dcheck p, []) := by simp only [heads, h0, Bool.true_or, Bool.or_true, Bool.false_or, Bool.or_false, Bool.true_and, Bool.and_true, Bool.false_and, Bool.and_false, Bool.not_true, Bool.not_false, Bool.false_eq_true, if_true, if_false]
    rw [hs]
    exact ⟨rfl, by simp [withC, mapK, mapV]⟩
  · refine awp_skip ?_
    refine awp_seq ?_
    refine awp_block ?_
    refine awp_seq ?_
    refine awp_reg ?_
    refine al_run 4 (sh := []) tyOk (by simp [go_sem] <;> rfl) ?_
    refine al_splitT 22 (by first | rfl | (simp [go_sem] <;> rfl)) (fun h1 => ?_) (fun h1 => ?_)
    · refine al_skip 4 22 false (by simp [go_sem]) (by simp [go_sem]) rfl rfl ?_
      refine al_run 2 (sh := []) tyOk (by simp [go_sem] <;> rfl) ?_
      refine al_nil ?_
      refine awp_cond (b := true) (by simp [go_sem, h0, h1]) (fun h => ?_) (fun h => ?_)
      rotate_left
      · cases h
      refine awp_seq ?_
      refine awp_region_run (sh := []) tyOk (by simp [go_sem] <;> rfl) ?_
      refine awp_ret ?_
      refine inBlock_ret ?_
      refine then_ret ?_
      refine ends_ret (by simp [go_sem] <;> rfl) (by simp [go_sem]) ?_
      have hs : heads p = (4, []) := by simp only [heads, h0, h1, Bool.true_or, Bool.or_true, Bool.false_or, Bool.or_false, Bool.true_and, Bool.and_true, Bool.false_and, Bool.and_false, Bool.not_true, Bool.not_false, Bool.false_eq_true, if_true, if_false]
      rw [hs]
      exact ⟨rfl, by simp [withC, mapK, mapV]⟩
    · refine al_runG (sh := []) 4 22 false false tyOk (by simp [go_sem]) rfl (by simp [go_sem]) rfl rfl (by simp [go_sem] <;> rfl) ?_
      refine al_run 2 (sh := []) tyOk (by simp [go_sem] <;> rfl) ?_
      refine al_nil ?_
      refine awp_cond (by first | rfl | (simp [go_sem] <;> rfl)) (fun h2 => ?_) (fun h2 => ?_)
      · refine awp_seq ?_
        refine awp_region_run (sh := []) tyOk (by simp [go_sem] <;> rfl) ?_
        refine awp_ret ?_
        refine inBlock_ret ?_
        refine then_ret ?_
        refine ends_ret (by simp [go_sem] <;> rfl) (by simp [go_sem]) ?_
        have hs : heads p = (4, []) := by simp only [heads, h0, h1, h2, Bool.true_or, Bool.or_true, Bool.false_or, Bool.or_false, Bool.true_and, Bool.and_true, Bool.false_and, Bool.and_false, Bool.not_true, Bool.not_false, Bool.false_eq_true, if_true, if_false]
        rw [hs]
        exact ⟨rfl, by simp [withC, mapK, mapV]⟩
      · refine awp_seq ?_
        refine awp_region_run (sh := []) tyOk (by simp [go_sem] <;> rfl) ?_
        refine awp_cond (by first | rfl | (simp [go_sem] <;> rfl)) (fun h3 => ?_) (fun h3 => ?_)
        · refine awp_seq ?_
          refine awp_region_run (sh := []) tyOk (by simp [go_sem] <;> rfl) ?_
          refine awp_ret ?_
          refine inBlock_ret ?_
          refine then_ret ?_
          refine ends_ret (by simp [go_sem] <;> rfl) (by simp [go_sem]) ?_
          have hs : heads p = (3, []) := by simp only [heads, h0, h1, h2, h3, Bool.true_or, Bool.or_true, Bool.false_or, Bool.or_false, Bool.true_and, Bool.and_true, Bool.false_and, Bool.and_false, Bool.not_true, Bool.not_false, Bool.false_eq_true, if_true, if_false]
          rw [hs]
          exact ⟨rfl, by simp [withC, mapK, mapV]⟩
        · refine awp_skip ?_
          refine awp_seq ?_
          refine awp_seq ?_
          refine awp_region_run (sh := []) tyOk (by simp [go_sem] <;> rfl) ?_
          refine awp_block ?_
          refine awp_loop_headK (σ.objs.length + 2) σ.toks.length 1 [2, 3, 4, 36, 37] (fun k : Nat => [(38, .pv (.int .i64 ↑k))]) (fun k => withC σ (hps p.kids k)) (fun k => k ≤ p.kids.length ∧ headsGo [] p.kids = headsGo (hps p.kids k) (p.kids.drop k)) (fun k => p.kids.length - k) 0 (⟨Nat.zero_le _, rfl⟩) ⟨by show withC σ (hps p.kids 0) = _; rw [hps_zero]; simp [withC, mapK, mapV, go_sem], rfl, by simp, by simp, by simp [go_sem], fun ob h => withC_mem h, by simp [go_sem]⟩ ?_
          rintro k ⟨hk, hn⟩
          refine awp_seq ?_
          refine awp_region_run (sh := []) tyOk (by simp [go_sem] <;> rfl) ?_
          refine awp_seq ?_
          refine awp_cond (by first | rfl | (simp [go_sem] <;> rfl)) (fun h4 => ?_) (fun h4 => ?_)
          · have hlt : k < p.kids.length := by simp at h4; omega
            have hw : IntKind.i64.wrap (↑k + 1) = (k : Int) + 1 := wrap_succ (by omega)
            obtain ⟨x, hx, hxm⟩ := get_lt hlt
            have hst := headsGo_step (ps := hps p.kids k) hx
            have hnx := hps_next hx
            refine awp_skip ?_
            refine awp_seq ?_
            refine awp_block ?_
            refine awp_seq ?_
            refine awp_region_run (sh := []) tyOk (by simp [go_sem, hx] <;> rfl) ?_
            refine awp_seq ?_
            refine awp_reg ?_
            refine al_run 2 (sh := []) tyOk (by simp [go_sem, hx] <;> rfl) ?_
            refine al_callW rfl rfl rfl (by simp [go_sem, hx] <;> rfl) call89 (c_head (σ.objs.length + 1) σ.objs.length (hps p.kids k) x (by have := D.size_kid_lt hxm; omega) _ (by exact hgl) (withC_ck _ _)) (by simp [go_sem, hx] <;> rfl) (by simp [go_sem, hx]) rfl rfl ?_
            rintro r σ' ⟨rfl, rfl⟩
            refine al_run 1 (sh := []) tyOk (by simp [go_sem, hx, withC_set, withC_cut2] <;> rfl) ?_
            refine al_nil ?_
            refine awp_seq ?_
            refine awp_region_run (sh := []) tyOk (by simp [go_sem, hx, withC_set, withC_cut2] <;> rfl) ?_
            refine awp_cond (by first | rfl | (simp [go_sem, hx, withC_set, withC_cut2] <;> rfl)) (fun h5 => ?_) (fun h5 => ?_)
            · refine awp_seq ?_
              refine awp_region_run (sh := []) tyOk (by simp [go_sem, hx, withC_set, withC_cut2] <;> rfl) ?_
              refine awp_ret ?_
              refine inBlock_ret ?_
              refine then_ret ?_
              refine then_ret ?_
              refine inBlock_ret ?_
              refine then_ret ?_
              refine ends_ret (by simp [go_sem] <;> rfl) (by simp [go_sem]) ?_
              have hh : heads p = headsGo [] p.kids := by simp only [heads, hx, withC_set, withC_cut2, h0, h1, h2, h3, h4, h5, Bool.true_or, Bool.or_true, Bool.false_or, Bool.or_false, Bool.true_and, Bool.and_true, Bool.false_and, Bool.and_false, Bool.not_true, Bool.not_false, Bool.false_eq_true, if_true, if_false]
              have hs : heads p = chead (hps p.kids k) x := by rw [hh, hn, hst]; simp only [h5, Bool.true_or, Bool.or_true, Bool.false_or, Bool.or_false, Bool.true_and, Bool.and_true, Bool.false_and, Bool.and_false, Bool.not_true, Bool.not_false, Bool.false_eq_true, if_true, if_false]
              rw [hs]
              exact ⟨rfl, rfl⟩
            · refine awp_skip ?_
              refine awp_region_run (sh := []) tyOk (by simp [go_sem, hx, withC_set, withC_cut2] <;> rfl) ?_
              exact next_intro (k + 1) (σ.objs.length + 2) σ.toks.length 1 (⟨hlt, by rw [hn, hst, hnx]; simp only [h0, h1, h2, h3, h4, h5, Bool.true_or, Bool.or_true, Bool.false_or, Bool.or_false, Bool.true_and, Bool.and_true, Bool.false_and, Bool.and_false, Bool.not_true, Bool.not_false, Bool.false_eq_true, if_true, if_false]⟩) (by omega) ⟨by show withC σ _ = (withC σ _).cut _ _; rw [withC_cut2, hnx], rfl, by simp, by simp, by simp [go_sem, hx, withC_set, withC_cut2, hw], fun ob h => withC_mem h, by simp [go_sem]⟩
          · have hke : k = p.kids.length := by simp at h4; omega
            subst hke
            refine awp_exit ?_
            refine then_exit ?_
            refine then_exit ?_
            refine inBlock_hit ?_
            refine awp_seq ?_
            refine awp_region_run (sh := []) tyOk (by simp [go_sem] <;> rfl) ?_
            refine awp_ret ?_
            refine ends_ret (by simp [go_sem] <;> rfl) (by simp [go_sem]) ?_
            have hh : heads p = headsGo [] p.kids := by simp only [heads, h0, h1, h2, h3, Bool.true_or, Bool.or_true, Bool.false_or, Bool.or_false, Bool.true_and, Bool.and_true, Bool.false_and, Bool.and_false, Bool.not_true, Bool.not_false, Bool.false_eq_true, if_true, if_false]
            have hs : heads p = (0, hps p.kids p.kids.length) := by rw [hh, hn, List.drop_length]; rfl
            rw [hs]
            exact ⟨rfl, rfl⟩

set_option maxHeartbeats 1000000 in
theorem c_flat_Check (p : D) (hp : p.size ≤ 900000000) : Pur Tryz.prog (GL kr) 11 [.pv (enc p)] (.pv (.int .i64 (fcheck p))) := by
  have hkl := D.kids_length_lt p
  refine pur_of fun σ hgl => ?_
  refine acalls_of tyOk Tryz.func11 rfl (by simp [Tryz.f11]) ?_
  refine awp_seq ?_
  refine awp_region_run (sh := []) tyOk (by simp [go_sem] <;> rfl) ?_
  refine awp_seq ?_
  refine awp_reg ?_
  refine al_run 1 (sh := []) tyOk (by simp [go_sem] <;> rfl) ?_
  refine al_callW rfl rfl rfl (by simp [go_sem] <;> rfl) call45 (c_flat_heads p (by omega) σ hgl) (by simp [go_sem] <;> rfl) (by simp [go_sem]) rfl rfl ?_
  rintro r σ' ⟨rfl, rfl⟩
  refine al_run 5 (sh := []) tyOk (by simp [go_sem] <;> rfl) ?_
  refine al_nil ?_
  refine awp_seq ?_
  refine awp_seq ?_
  refine awp_region_run (sh := []) tyOk (by simp [go_sem] <;> rfl) ?_
  refine awp_cond (by first | rfl | (simp [go_sem] <;> rfl)) (fun h0 => ?_) (fun h0 => ?_)
  · refine awp_seq ?_
    refine awp_region_run (sh := []) tyOk (by simp [go_sem] <;> rfl) ?_
    refine awp_ret ?_
    refine then_ret ?_
    refine ends_ret (by simp [go_sem] <;> rfl) (by simp [go_sem]) ?_
    have hs : fcheck p = (heads p).1 := by simp only [fcheck, h0, Bool.true_or, Bool.or_true, Bool.false_or, Bool.or_false, Bool.true_and, Bool.and_true, Bool.false_and, Bool.and_false, Bool.not_true, Bool.not_false, Bool.false_eq_true, if_true, if_false]
    exact ⟨by simp [go_sem, hs], withC_cut σ _⟩
  · have hh0 : (heads p).1 = 0 := by simpa using h0
    refine awp_skip ?_
    refine awp_seq ?_
    refine awp_seq ?_
    refine awp_region_run (sh := []) tyOk (by simp [go_sem] <;> rfl) ?_
    refine awp_block ?_
    refine awp_loop_headK (σ.objs.length + 2) σ.toks.length 1 [2, 3, 19, 20] (fun k : Nat => [(21, .pv (.int .i64 ↑k))]) (fun k => withC σ (heads p).2) (fun k => k ≤ p.kids.length ∧ bodies (heads p).2 p.kids = bodies (heads p).2 (p.kids.drop k)) (fun k => p.kids.length - k) 0 (⟨Nat.zero_le _, rfl⟩) ⟨by show withC σ (heads p).2 = (withC σ _).cut _ _; rw [withC_cut2], rfl, by simp, by simp, by simp [go_sem], fun ob h => withC_mem h, by simp [go_sem]⟩ ?_
    rintro k ⟨hk, hn⟩
    refine awp_seq ?_
    refine awp_region_run (sh := []) tyOk (by simp [go_sem] <;> rfl) ?_
    refine awp_seq ?_
    refine awp_cond (by first | rfl | (simp [go_sem] <;> rfl)) (fun h1 => ?_) (fun h1 => ?_)
    · have hlt : k < p.kids.length := by simp at h1; omega
      have hw : IntKind.i64.wrap (↑k + 1) = (k : Int) + 1 := wrap_succ (by omega)
      obtain ⟨x, hx, hxm⟩ := get_lt hlt
      have hst := bodies_step (ps := (heads p).2) hx
      obtain ⟨x0, x1, x2, ns, hkk, hk3, hlab, hns, hn8⟩ := def_ok hh0 hxm
      have hsx := D.size_kid_lt hxm
      have hs1 := D.size_kid_lt (d := x) (k := x1) (by rw [hkk]; simp)
      have hs2 := D.size_kid_lt (d := x) (k := x2) (by rw [hkk]; simp)
      have hd1 : d1 x.kids = x1 := by rw [hkk]; rfl
      have hd2 : d2 x.kids = x2 := by rw [hkk]; rfl
      have hnl : nlist (names x1) = ns := by rw [hns]; rfl
      refine awp_skip ?_
      refine awp_seq ?_
      refine awp_block ?_
      refine awp_seq ?_
      refine awp_region_run (sh := []) tyOk (by simp [go_sem, hx, hkk, hns, encN] <;> rfl) ?_
      refine awp_seq ?_
      refine awp_reg ?_
      refine al_run 4 (sh := []) tyOk (by simp [go_sem, hx, hkk, hns, encN] <;> rfl) ?_
      refine al_fn rfl rfl rfl (by simp [go_sem, hx, hkk, hns, encN] <;> rfl) call46 ((c_flat_Names x1 (by omega)) _ (by exact hgl)) (by simp [go_sem, hx, hkk, hns, encN] <;> rfl) (by simp [go_sem, hx, hkk, hns, encN]) rfl rfl ?_
      refine al_run 5 (sh := []) tyOk (by simp [go_sem, hx, hkk, hns, encN] <;> rfl) ?_
      refine al_nil ?_
      refine awp_seq ?_
      refine awp_reg ?_
      refine al_run 6 (sh := []) tyOk (by simp [go_sem, hx, hkk, hns, encN] <;> rfl) ?_
      refine al_fn rfl rfl rfl (by simp [go_sem, hx, hkk, hns, encN] <;> rfl) call47 (c_expr (σ.objs.length + 1) σ.objs.length (heads p).2 x2 ns _ (by exact hgl) (withC_ck _ _) (by omega)) (by simp [go_sem, hx, hkk, hns, encN] <;> rfl) (by simp [go_sem, hx, hkk, hns, encN]) rfl rfl ?_
      refine al_run 1 (sh := []) tyOk (by simp [go_sem, hx, hkk, hns, encN] <;> rfl) ?_
      refine al_nil ?_
      refine awp_seq ?_
      refine awp_region_run (sh := []) tyOk (by simp [go_sem, hx, hkk, hns, encN] <;> rfl) ?_
      refine awp_cond (by first | rfl | (simp [go_sem, hx, hkk, hns, encN] <;> rfl)) (fun h2 => ?_) (fun h2 => ?_)
      · refine awp_seq ?_
        refine awp_region_run (sh := []) tyOk (by simp [go_sem, hx, hkk, hns, encN] <;> rfl) ?_
        refine awp_ret ?_
        refine inBlock_ret ?_
        refine then_ret ?_
        refine then_ret ?_
        refine inBlock_ret ?_
        refine then_ret ?_
        refine ends_ret (by simp [go_sem] <;> rfl) (by simp [go_sem]) ?_
        have hs : fcheck p = cexpr (heads p).2 ns x2 := by rw [show fcheck p = bodies (heads p).2 p.kids by simp only [fcheck, hx, hkk, hns, encN, h0, h1, h2, Bool.true_or, Bool.or_true, Bool.false_or, Bool.or_false, Bool.true_and, Bool.and_true, Bool.false_and, Bool.and_false, Bool.not_true, Bool.not_false, Bool.false_eq_true, if_true, if_false], hn, hst, hd1, hd2, hnl]; simp only [h2, Bool.true_or, Bool.or_true, Bool.false_or, Bool.or_false, Bool.true_and, Bool.and_true, Bool.false_and, Bool.and_false, Bool.not_true, Bool.not_false, Bool.false_eq_true, if_true, if_false]
        exact ⟨by simp [go_sem, hs], withC_cut σ _⟩
      · refine awp_skip ?_
        refine awp_region_run (sh := []) tyOk (by simp [go_sem, hx, hkk, hns, encN] <;> rfl) ?_
        exact next_intro (k + 1) (σ.objs.length + 2) σ.toks.length 1 (⟨hlt, by rw [hn, hst, hd1, hd2, hnl]; simp only [h0, h1, h2, Bool.true_or, Bool.or_true, Bool.false_or, Bool.or_false, Bool.true_and, Bool.and_true, Bool.false_and, Bool.and_false, Bool.not_true, Bool.not_false, Bool.false_eq_true, if_true, if_false]⟩) (by omega) ⟨by show withC σ _ = (withC σ _).cut _ _; rw [withC_cut2], rfl, by simp, by simp, by simp [go_sem, hx, hkk, hns, encN, hw], fun ob h => withC_mem h, by simp [go_sem]⟩
    · have hke : k = p.kids.length := by simp at h1; omega
      subst hke
      refine awp_exit ?_
      refine then_exit ?_
      refine then_exit ?_
      refine inBlock_hit ?_
      refine awp_seq ?_
      refine awp_region_run (sh := []) tyOk (by simp [go_sem] <;> rfl) ?_
      refine awp_ret ?_
      refine ends_ret (by simp [go_sem] <;> rfl) (by simp [go_sem]) ?_
      have hs : fcheck p = 0 := by rw [show fcheck p = bodies (heads p).2 p.kids by simp only [fcheck, h0, Bool.true_or, Bool.or_true, Bool.false_or, Bool.or_false, Bool.true_and, Bool.and_true, Bool.false_and, Bool.and_false, Bool.not_true, Bool.not_false, Bool.false_eq_true, if_true, if_false], hn, List.drop_length]; rfl
      exact ⟨by simp [go_sem, hs], withC_cut σ _⟩

end Go.Proofs.YtienmmfjjffjaaaGreatDoor

/- What is called. -/
namespace Go.Proofs.YtienmmfjjffjaaaGreatDoor
open Go Go.Aw
variable {kr : ResO}
theorem look_seen {s : St} {om : Nat} {m : List (D × Bool)} (ho : s.σ.objs[om]? = some (.map (mapK m) (mapV pbool m))) (d : D) :
    lookAV ty s 99 (.map om) (.pv (keyPV d)) false = some (.pv (.bool (seenB m d))) := by
  rw [look_map (f := pbool) rfl rfl rfl rfl rfl ho]
  unfold seenB
  cases kget m d <;> rfl
theorem put_seen {s : St} {om : Nat} {m : List (D × Bool)} (ho : s.σ.objs[om]? = some (.map (mapK m) (mapV pbool m))) (d : D) (v : Bool) :
    putAV ty s 99 (.map om) (.pv (keyPV d)) (.pv (.bool v)) = some { s.σ with objs := s.σ.objs.set om (.map (mapK (kset m d v)) (mapV pbool (kset m d v))) } :=
  put_map (f := pbool) rfl rfl rfl rfl ho d v rfl

set_option maxHeartbeats 1000000 in
theorem c_flat_calls (d : D) : ∀ (out : List D) (seen : List (D × Bool)) (σ : Store) (om kt : Nat) (hgl : σ.gl = (GL kr)) (hok : okE d = true) (hcm : CMAt σ om kt 24 (out, seen)) (hb : out.length + d.size ≤ 1000000000), ACalls Tryz.prog 80 [.pv (enc d), .acc (out.map enc) kt, .map om] σ (fun r σ' => r = .acc ((callsD d (out, seen)).1.map enc) kt ∧ σ' = setCM σ om kt (callsD d (out, seen))) := by
  induction d using D.ind with
  | _ kind num text kids ih =>
  generalize hD : D.mk kind num text kids = d at *
  have hk : d.kids = kids := by rw [← hD]; rfl
  clear hD
  subst hk
  have hkl := D.kids_length_lt d
  intro out seen σ om kt hgl hok hcm hb
  have hob := hcm.ob
  have htk := hcm.tk
  simp only at hob htk
  have hol := (List.getElem?_eq_some_iff.1 hob).1
  have hkt := (List.getElem?_eq_some_iff.1 htk).1
  have hds := d.size_pos
  have hpl := parts_len d
  have hbb : (out.length + 1) * 56 ≤ 140737488355328 := by omega
  have hlk := fun (s : St) (d : D) (ho : s.σ.objs[om]? = some (.map (mapK seen) (mapV pbool seen))) => look_seen ho d
  have hpt := fun (s : St) (d : D) (v : Bool) (ho : s.σ.objs[om]? = some (.map (mapK seen) (mapV pbool seen))) => put_seen ho d v
  refine acalls_of tyOk Tryz.func80 rfl (by simp [Tryz.f80]) ?_
  refine awp_seq ?_
  refine awp_region_run (sh := []) tyOk (by simp [go_sem, hob, hlk, hpt] <;> rfl) ?_
  refine awp_seq ?_
  refine awp_seq ?_
  refine awp_reg ?_
  refine al_run 1 (sh := []) tyOk (by simp [go_sem, hob, hlk, hpt] <;> rfl) ?_
  refine al_fn rfl rfl rfl (by simp [go_sem, hob, hlk, hpt] <;> rfl) call114 ((c_flat_IsCall d (okE_ne hok)) _ (by exact hgl)) (by simp [go_sem, hob, hlk, hpt] <;> rfl) (by simp [go_sem, hob, hlk, hpt]) rfl rfl ?_
  refine al_run 1 (sh := []) tyOk (by simp [go_sem, hob, hlk, hpt] <;> rfl) ?_
  refine al_splitT 11 (by first | rfl | (simp [go_sem, hob, hlk, hpt] <;> rfl)) (fun h0 => ?_) (fun h0 => ?_)
  · have hk3 := isCall_iff.1 h0
    have h2l := okE_two hok hk3.1 (.inr hk3.2)
    obtain ⟨x1, hx1, hx1m⟩ := get_lt (l := d.kids) (k := 1) (by omega)
    have hd1 : d1 d.kids = x1 := getD_of hx1
    have hx0 : ∃ x0, d.kids[0]? = some x0 := ⟨_, List.getElem?_eq_getElem (by omega)⟩
    refine al_runG (sh := []) 5 11 true true tyOk (by simp [go_sem]) rfl (by simp [go_sem]) rfl rfl (by simp [go_sem, hob, hlk, hpt, hx1, htk, hbb] <;> rfl) ?_
    refine al_fnG 11 true true (by simp [go_sem]) rfl (by simp [go_sem]) rfl rfl (by simp [go_sem, hob, hlk, hpt, hx1, htk, hbb] <;> rfl) call98 ((c_flat_keyOf x1) _ (by exact hgl)) (by simp [go_sem, hob, hlk, hpt, hx1, htk, hbb] <;> rfl) (by simp [go_sem, hob, hlk, hpt, hx1, htk, hbb]) rfl rfl ?_
    refine al_runG (sh := []) 2 11 true true tyOk (by simp [go_sem]) rfl (by simp [go_sem]) rfl rfl (by simp [go_sem, hob, hlk, hpt, hx1, htk, hbb] <;> rfl) ?_
    refine al_run 1 (sh := []) tyOk (by simp [go_sem, hob, hlk, hpt, hx1, htk, hbb] <;> rfl) ?_
    refine al_nil ?_
    refine awp_cond (by first | rfl | (simp [go_sem, hob, hlk, hpt, hx1, htk, hbb] <;> rfl)) (fun h1 => ?_) (fun h1 => ?_)
    · have hsn : seenB seen x1 = false := by simpa using h1
      have hcs : cst d (out, seen) 0 = (out ++ [x1], kset seen x1 true) := by rw [cst_zero]; exact callStep_yes h0 hd1 hsn
      refine awp_seq ?_
      refine awp_reg ?_
      refine al_run 5 (sh := []) tyOk (by simp [go_sem, hob, hlk, hpt, hx1, htk, hbb] <;> rfl) ?_
      refine al_fn rfl rfl rfl (by simp [go_sem, hob, hlk, hpt, hx1, htk, hbb] <;> rfl) call98 ((c_flat_keyOf x1) _ (by exact hgl)) (by simp [go_sem, hob, hlk, hpt, hx1, htk, hbb] <;> rfl) (by simp [go_sem, hob, hlk, hpt, hx1, htk, hbb]) rfl rfl ?_
      refine al_run 1 (sh := []) tyOk (by simp [go_sem, hob, hlk, hpt, hx1, htk, hbb] <;> rfl) ?_
      refine al_nil ?_
      refine awp_region_run (sh := []) tyOk (by simp [go_sem, hob, hlk, hpt, hx1, htk, hbb] <;> rfl) ?_
      refine awp_seq ?_
      refine awp_seq ?_
      refine awp_reg ?_
      refine al_run 1 (sh := []) tyOk (by simp [go_sem, hob, hlk, hpt, hx1, htk, hbb] <;> rfl) ?_
      refine al_fn rfl rfl rfl (by simp [go_sem, hob, hlk, hpt, hx1, htk, hbb] <;> rfl) call96 ((c_flat_Parts d (okE_ne hok) (okE_two hok)) _ (by exact hgl)) (by simp [go_sem, hob, hlk, hpt, hx1, htk, hbb] <;> rfl) (by simp [go_sem, hob, hlk, hpt, hx1, htk, hbb]) rfl rfl ?_
      refine al_run 2 (sh := []) tyOk (by simp [go_sem, hob, hlk, hpt, hx1, htk, hbb] <;> rfl) ?_
      refine al_nil ?_
      refine awp_block ?_
      refine awp_loop_headK σ.objs.length σ.toks.length 1 [2, 6, 35, 36] (fun k : Nat => [(1, .acc ((cst d (out, seen) k).1.map enc) kt), (37, .pv (.int .i64 ↑k))]) (fun k => setCM σ om kt (cst d (out, seen) k)) (fun k => k ≤ (parts d).length) (fun k => (parts d).length - k) 0 (Nat.zero_le _) ⟨by show setCM σ om kt (cst d (out, seen) 0) = _; rw [hcs]; first | (rw [setCM_self hcm]; simp [go_sem]) | simp [setCM, go_sem, List.take_of_length_le], rfl, by simp, by simp, by simp [go_sem, hob, hlk, hpt, hx1, htk, hbb, hcs, hkt, hol], fun ob h => setCM_mem h _ _ _, by simp [go_sem]⟩ ?_
      intro k hk
      refine awp_seq ?_
      refine awp_region_run (sh := []) tyOk (by simp [go_sem, hob, hlk, hpt, hx1, htk, hbb] <;> rfl) ?_
      refine awp_seq ?_
      refine awp_cond (by first | rfl | (simp [go_sem, hob, hlk, hpt, hx1, htk, hbb] <;> rfl)) (fun h2 => ?_) (fun h2 => ?_)
      · have hlt : k < (parts d).length := by simp at h2; omega
        have hw : IntKind.i64.wrap (↑k + 1) = (k : Int) + 1 := wrap_succ (by omega)
        obtain ⟨x, hx, hxm⟩ := get_lt hlt
        have hcn := cst_next (st := (out, seen)) hx
        have hcl := cst_len (st := (out, seen)) hx
        simp only at hcl
        refine awp_skip ?_
        refine awp_seq ?_
        refine awp_block ?_
        refine awp_seq ?_
        refine awp_region_run (sh := []) tyOk (by simp [go_sem, hob, hlk, hpt, hx1, htk, hbb, hx] <;> rfl) ?_
        refine awp_reg ?_
        refine al_run 3 (sh := []) tyOk (by simp [go_sem, hob, hlk, hpt, hx1, htk, hbb, hx] <;> rfl) ?_
        refine al_callW rfl rfl rfl (by simp [go_sem, hob, hlk, hpt, hx1, htk, hbb, hx] <;> rfl) call80 (ih x (parts_mem hxm) (cst d (out, seen) k).1 (cst d (out, seen) k).2 _ om kt (by exact hgl) (okE_parts hok x hxm) (setCM_at hcm) (by omega)) (by simp [go_sem, hob, hlk, hpt, hx1, htk, hbb, hx] <;> rfl) (by simp [go_sem, hob, hlk, hpt, hx1, htk, hbb, hx]) rfl rfl ?_
        rintro r σ' ⟨rfl, rfl⟩
        refine al_run 1 (sh := []) tyOk (by simp [go_sem, hob, hlk, hpt, hx1, htk, hbb, hx, setCM_setCM] <;> rfl) ?_
        refine al_nil ?_
        refine awp_region_run (sh := []) tyOk (by simp [go_sem, hob, hlk, hpt, hx1, htk, hbb, hx, setCM_setCM] <;> rfl) ?_
        exact next_intro (k + 1) σ.objs.length σ.toks.length 1 (hlt) (by omega) ⟨by show setCM σ om kt _ = (setCM σ om kt _).cut _ _; rw [setCM_cut, hcn], rfl, by simp, by simp, by simp [go_sem, hob, hlk, hpt, hx1, htk, hbb, hx, setCM_setCM, hw, hcn, hkt, hol, setCM_no, setCM_nt], fun ob h => setCM_mem h _ _ _, by simp [go_sem]⟩
      · have hke : k = (parts d).length := by simp at h2; omega
        subst hke
        have hca := cst_all (d := d) (st := (out, seen))
        refine awp_exit ?_
        refine then_exit ?_
        refine then_exit ?_
        refine inBlock_hit ?_
        refine awp_seq ?_
        refine awp_region_run (sh := []) tyOk (by simp [go_sem, hob, hlk, hpt, hx1, htk, hbb, hca] <;> rfl) ?_
        refine awp_ret ?_
        refine ends_ret (by simp [go_sem] <;> rfl) (by simp [go_sem]) ?_
        exact ⟨by simp [go_sem, hca], by simp [go_sem, hca]⟩
    · have hsn : seenB seen x1 = true := by simpa using h1
      have hcs : cst d (out, seen) 0 = (out, seen) := by rw [cst_zero]; exact callStep_seen hd1 hsn
      refine awp_skip ?_
      refine awp_seq ?_
      refine awp_seq ?_
      refine awp_reg ?_
      refine al_run 1 (sh := []) tyOk (by simp [go_sem, hob, hlk, hpt, hx1, htk, hbb] <;> rfl) ?_
      refine al_fn rfl rfl rfl (by simp [go_sem, hob, hlk, hpt, hx1, htk, hbb] <;> rfl) call96 ((c_flat_Parts d (okE_ne hok) (okE_two hok)) _ (by exact hgl)) (by simp [go_sem, hob, hlk, hpt, hx1, htk, hbb] <;> rfl) (by simp [go_sem, hob, hlk, hpt, hx1, htk, hbb]) rfl rfl ?_
      refine al_run 2 (sh := []) tyOk (by simp [go_sem, hob, hlk, hpt, hx1, htk, hbb] <;> rfl) ?_
      refine al_nil ?_
      refine awp_block ?_
      refine awp_loop_headK σ.objs.length σ.toks.length 1 [2, 6, 35, 36] (fun k : Nat => [(1, .acc ((cst d (out, seen) k).1.map enc) kt), (37, .pv (.int .i64 ↑k))]) (fun k => setCM σ om kt (cst d (out, seen) k)) (fun k => k ≤ (parts d).length) (fun k => (parts d).length - k) 0 (Nat.zero_le _) ⟨by show setCM σ om kt (cst d (out, seen) 0) = _; rw [hcs]; first | (rw [setCM_self hcm]; simp [go_sem]) | simp [setCM, go_sem, List.take_of_length_le], rfl, by simp, by simp, by simp [go_sem, hob, hlk, hpt, hx1, htk, hbb, hcs, hkt, hol], fun ob h => setCM_mem h _ _ _, by simp [go_sem]⟩ ?_
      intro k hk
      refine awp_seq ?_
      refine awp_region_run (sh := []) tyOk (by simp [go_sem, hob, hlk, hpt, hx1, htk, hbb] <;> rfl) ?_
      refine awp_seq ?_
      refine awp_cond (by first | rfl | (simp [go_sem, hob, hlk, hpt, hx1, htk, hbb] <;> rfl)) (fun h3 => ?_) (fun h3 => ?_)
      · have hlt : k < (parts d).length := by simp at h3; omega
        have hw : IntKind.i64.wrap (↑k + 1) = (k : Int) + 1 := wrap_succ (by omega)
        obtain ⟨x, hx, hxm⟩ := get_lt hlt
        have hcn := cst_next (st := (out, seen)) hx
        have hcl := cst_len (st := (out, seen)) hx
        simp only at hcl
        refine awp_skip ?_
        refine awp_seq ?_
        refine awp_block ?_
        refine awp_seq ?_
        refine awp_region_run (sh := []) tyOk (by simp [go_sem, hob, hlk, hpt, hx1, htk, hbb, hx] <;> rfl) ?_
        refine awp_reg ?_
        refine al_run 3 (sh := []) tyOk (by simp [go_sem, hob, hlk, hpt, hx1, htk, hbb, hx] <;> rfl) ?_
        refine al_callW rfl rfl rfl (by simp [go_sem, hob, hlk, hpt, hx1, htk, hbb, hx] <;> rfl) call80 (ih x (parts_mem hxm) (cst d (out, seen) k).1 (cst d (out, seen) k).2 _ om kt (by exact hgl) (okE_parts hok x hxm) (setCM_at hcm) (by omega)) (by simp [go_sem, hob, hlk, hpt, hx1, htk, hbb, hx] <;> rfl) (by simp [go_sem, hob, hlk, hpt, hx1, htk, hbb, hx]) rfl rfl ?_
        rintro r σ' ⟨rfl, rfl⟩
        refine al_run 1 (sh := []) tyOk (by simp [go_sem, hob, hlk, hpt, hx1, htk, hbb, hx, setCM_setCM] <;> rfl) ?_
        refine al_nil ?_
        refine awp_region_run (sh := []) tyOk (by simp [go_sem, hob, hlk, hpt, hx1, htk, hbb, hx, setCM_setCM] <;> rfl) ?_
        exact next_intro (k + 1) σ.objs.length σ.toks.length 1 (hlt) (by omega) ⟨by show setCM σ om kt _ = (setCM σ om kt _).cut _ _; rw [setCM_cut, hcn], rfl, by simp, by simp, by simp [go_sem, hob, hlk, hpt, hx1, htk, hbb, hx, setCM_setCM, hw, hcn, hkt, hol, setCM_no, setCM_nt], fun ob h => setCM_mem h _ _ _, by simp [go_sem]⟩
      · have hke : k = (parts d).length := by simp at h3; omega
        subst hke
        have hca := cst_all (d := d) (st := (out, seen))
        refine awp_exit ?_
        refine then_exit ?_
        refine then_exit ?_
        refine inBlock_hit ?_
        refine awp_seq ?_
        refine awp_region_run (sh := []) tyOk (by simp [go_sem, hob, hlk, hpt, hx1, htk, hbb, hca] <;> rfl) ?_
        refine awp_ret ?_
        refine ends_ret (by simp [go_sem] <;> rfl) (by simp [go_sem]) ?_
        exact ⟨by simp [go_sem, hca], by simp [go_sem, hca]⟩
  · have hcs : cst d (out, seen) 0 = (out, seen) := by rw [cst_zero]; exact callStep_no h0
    refine al_skip 8 11 true (by simp [go_sem]) (by simp [go_sem]) rfl rfl ?_
    refine al_run 1 (sh := []) tyOk (by simp [go_sem, hob, hlk, hpt, htk] <;> rfl) ?_
    refine al_nil ?_
    refine awp_cond (b := false) (by simp [go_sem, hob, hlk, hpt, htk, h0]) (fun h => ?_) (fun h => ?_)
    · cases h
    refine awp_skip ?_
    refine awp_seq ?_
    refine awp_seq ?_
    refine awp_reg ?_
    refine al_run 1 (sh := []) tyOk (by simp [go_sem, hob, hlk, hpt, htk] <;> rfl) ?_
    refine al_fn rfl rfl rfl (by simp [go_sem, hob, hlk, hpt, htk] <;> rfl) call96 ((c_flat_Parts d (okE_ne hok) (okE_two hok)) _ (by exact hgl)) (by simp [go_sem, hob, hlk, hpt, htk] <;> rfl) (by simp [go_sem, hob, hlk, hpt, htk]) rfl rfl ?_
    refine al_run 2 (sh := []) tyOk (by simp [go_sem, hob, hlk, hpt, htk] <;> rfl) ?_
    refine al_nil ?_
    refine awp_block ?_
    refine awp_loop_headK σ.objs.length σ.toks.length 1 [2, 6, 35, 36] (fun k : Nat => [(1, .acc ((cst d (out, seen) k).1.map enc) kt), (37, .pv (.int .i64 ↑k))]) (fun k => setCM σ om kt (cst d (out, seen) k)) (fun k => k ≤ (parts d).length) (fun k => (parts d).length - k) 0 (Nat.zero_le _) ⟨by show setCM σ om kt (cst d (out, seen) 0) = _; rw [hcs]; first | (rw [setCM_self hcm]; simp [go_sem]) | simp [setCM, go_sem, List.take_of_length_le], rfl, by simp, by simp, by simp [go_sem, hob, hlk, hpt, htk, hcs, hkt, hol], fun ob h => setCM_mem h _ _ _, by simp [go_sem]⟩ ?_
    intro k hk
    refine awp_seq ?_
    refine awp_region_run (sh := []) tyOk (by simp [go_sem, hob, hlk, hpt, htk] <;> rfl) ?_
    refine awp_seq ?_
    refine awp_cond (by first | rfl | (simp [go_sem, hob, hlk, hpt, htk] <;> rfl)) (fun h4 => ?_) (fun h4 => ?_)
    · have hlt : k < (parts d).length := by simp at h4; omega
      have hw : IntKind.i64.wrap (↑k + 1) = (k : Int) + 1 := wrap_succ (by omega)
      obtain ⟨x, hx, hxm⟩ := get_lt hlt
      have hcn := cst_next (st := (out, seen)) hx
      have hcl := cst_len (st := (out, seen)) hx
      simp only at hcl
      refine awp_skip ?_
      refine awp_seq ?_
      refine awp_block ?_
      refine awp_seq ?_
      refine awp_region_run (sh := []) tyOk (by simp [go_sem, hob, hlk, hpt, htk, hx] <;> rfl) ?_
      refine awp_reg ?_
      refine al_run 3 (sh := []) tyOk (by simp [go_sem, hob, hlk, hpt, htk, hx] <;> rfl) ?_
      refine al_callW rfl rfl rfl (by simp [go_sem, hob, hlk, hpt, htk, hx] <;> rfl) call80 (ih x (parts_mem hxm) (cst d (out, seen) k).1 (cst d (out, seen) k).2 _ om kt (by exact hgl) (okE_parts hok x hxm) (setCM_at hcm) (by omega)) (by simp [go_sem, hob, hlk, hpt, htk, hx] <;> rfl) (by simp [go_sem, hob, hlk, hpt, htk, hx]) rfl rfl ?_
      rintro r σ' ⟨rfl, rfl⟩
      refine al_run 1 (sh := []) tyOk (by simp [go_sem, hob, hlk, hpt, htk, hx, setCM_setCM] <;> rfl) ?_
      refine al_nil ?_
      refine awp_region_run (sh := []) tyOk (by simp [go_sem, hob, hlk, hpt, htk, hx, setCM_setCM] <;> rfl) ?_
      exact next_intro (k + 1) σ.objs.length σ.toks.length 1 (hlt) (by omega) ⟨by show setCM σ om kt _ = (setCM σ om kt _).cut _ _; rw [setCM_cut, hcn], rfl, by simp, by simp, by simp [go_sem, hob, hlk, hpt, htk, hx, setCM_setCM, hw, hcn, hkt, hol, setCM_no, setCM_nt], fun ob h => setCM_mem h _ _ _, by simp [go_sem]⟩
    · have hke : k = (parts d).length := by simp at h4; omega
      subst hke
      have hca := cst_all (d := d) (st := (out, seen))
      refine awp_exit ?_
      refine then_exit ?_
      refine then_exit ?_
      refine inBlock_hit ?_
      refine awp_seq ?_
      refine awp_region_run (sh := []) tyOk (by simp [go_sem, hob, hlk, hpt, htk, hca] <;> rfl) ?_
      refine awp_ret ?_
      refine ends_ret (by simp [go_sem] <;> rfl) (by simp [go_sem]) ?_
      exact ⟨by simp [go_sem, hca], by simp [go_sem, hca]⟩

theorem put_def {s : St} {o : Nat} {m : List (D × D)} (ho : s.σ.objs[o]? = some (.map (mapK m) (mapV enc m))) (d v : D) :
    putAV ty s 120 (.map o) (.pv (keyPV d)) (.pv (enc v)) = some { s.σ with objs := s.σ.objs.set o (.map (mapK (kset m d v)) (mapV enc (kset m d v))) } :=
  put_map (f := enc) rfl rfl rfl rfl ho d v (by simp only [toPV, atomToPV, Option.map_some, nrm_enc])
theorem look_def {s : St} {o : Nat} {m : List (D × D)} (ho : s.σ.objs[o]? = some (.map (mapK m) (mapV enc m))) (d v : D) (hv : kget m d = some v) :
    lookAV ty s 120 (.map o) (.pv (keyPV d)) false = some (.pv (enc v)) := by
  rw [look_map (f := enc) rfl rfl rfl rfl rfl ho, hv]; rfl

set_option maxHeartbeats 1000000 in
theorem c_flat_defs (p : D) (hp : p.size ≤ 1000000000) (hkn : ∀ x, x ∈ p.kids → x.kids ≠ []) (σ : Store) (hgl : σ.gl = (GL kr)) : ACalls Tryz.prog 102 [.pv (enc p)] σ (fun r σ' => r = .map σ.objs.length ∧ σ' = withM σ (defsL p.kids)) := by
  have hkl := D.kids_length_lt p
  have hmg := fun (m : List (D × D)) => withM_get (σ := σ) (m := m)
  refine acalls_of tyOk Tryz.func102 rfl (by simp [Tryz.f102]) ?_
  refine awp_seq ?_
  refine awp_region_run (sh := []) tyOk (by simp [go_sem] <;> rfl) ?_
  refine awp_seq ?_
  refine awp_region_run (sh := []) tyOk (by simp [go_sem] <;> rfl) ?_
  refine awp_seq ?_
  refine awp_seq ?_
  refine awp_region_run (sh := []) tyOk (by simp [go_sem] <;> rfl) ?_
  refine awp_block ?_
  refine awp_loop_headK (σ.objs.length + 1) σ.toks.length 1 [2, 3, 8, 9] (fun k : Nat => [(10, .pv (.int .i64 ↑k))]) (fun k => withM σ (defsK p.kids k)) (fun k => k ≤ p.kids.length) (fun k => p.kids.length - k) 0 (Nat.zero_le _) ⟨by show withM σ (defsK p.kids 0) = _; rw [defsK_zero]; simp [withM, mapK, mapV, go_sem, List.take_of_length_le], rfl, by simp, by simp, by simp [go_sem], fun ob h => withM_mem h _ _ _, by simp [go_sem]⟩ ?_
  intro k hk
  refine awp_seq ?_
  refine awp_region_run (sh := []) tyOk (by simp [go_sem] <;> rfl) ?_
  refine awp_seq ?_
  refine awp_cond (by first | rfl | (simp [go_sem] <;> rfl)) (fun h0 => ?_) (fun h0 => ?_)
  · have hlt : k < p.kids.length := by simp at h0; omega
    have hw : IntKind.i64.wrap (↑k + 1) = (k : Int) + 1 := wrap_succ (by omega)
    obtain ⟨x, hx, hxm⟩ := get_lt hlt
    obtain ⟨x0, xr, hxk⟩ := kids_cons (hkn x hxm)
    have hxh := head_cons hxk
    have hx0 : x.kids[0]? = some x0 := by rw [hxk]; rfl
    have hdn := defsK_next hx
    have hpt := fun (s : St) (d v : D) (ho : s.σ.objs[σ.objs.length]? = some (.map (mapK (defsK p.kids k)) (mapV enc (defsK p.kids k)))) => put_def ho d v
    refine awp_skip ?_
    refine awp_seq ?_
    refine awp_block ?_
    refine awp_seq ?_
    refine awp_region_run (sh := []) tyOk (by simp [go_sem, hx, hx0, hpt, hmg, withM_set] <;> rfl) ?_
    refine awp_regDC tyOk tySz 7 (by kernel_rfl) (by decide) ?_
    refine ul_run 5 (by simp [go_sem, hx, hx0, hpt, hmg, withM_set] <;> rfl) ?_
    refine ul_fn (by first | (intro _ _ hh; exact hh) | simp [go_sem]) rfl rfl rfl rfl (by simp [go_sem, hx, hx0, hpt, hmg, withM_set] <;> rfl) call98 ((c_flat_keyOf x0) _ (by exact hgl)) (by simp [go_sem, hx, hx0, hpt, hmg, withM_set] <;> rfl) (by simp [go_sem, hx, hx0, hpt, hmg, withM_set]) rfl rfl ?_
    refine ul_run 1 (by simp [go_sem, hx, hx0, hpt, hmg, withM_set] <;> rfl) ?_
    refine ul_nil ?_
    refine al_run 1 (sh := []) tyOk (by simp [go_sem, hx, hx0, hpt, hmg, withM_set] <;> rfl) ?_
    refine al_nil ?_
    refine awp_region_run (sh := []) tyOk (by simp [go_sem, hx, hx0, hpt, hmg, withM_set] <;> rfl) ?_
    exact next_intro (k + 1) (σ.objs.length + 1) σ.toks.length 1 (hlt) (by omega) ⟨by show withM σ _ = Store.cut _ _ _; rw [hdn, hxh]; first | exact withM_cut1.symm | simp [withM, go_sem, List.take_of_length_le], rfl, by simp, by simp, by simp [go_sem, hx, hx0, hpt, hmg, withM_set, hw], fun ob h => withM_mem h _ _ _, by simp [go_sem]⟩
  · have hke : k = p.kids.length := by simp at h0; omega
    subst hke
    refine awp_exit ?_
    refine then_exit ?_
    refine then_exit ?_
    refine inBlock_hit ?_
    refine awp_seq ?_
    refine awp_region_run (sh := []) tyOk (by simp [go_sem] <;> rfl) ?_
    refine awp_ret ?_
    refine ends_ret (by simp [go_sem] <;> rfl) (by simp [go_sem]) ?_
    exact ⟨by simp [go_sem], by simp [go_sem, defsK_all]⟩

end Go.Proofs.YtienmmfjjffjaaaGreatDoor

/- What is reached. -/
namespace Go.Proofs.YtienmmfjjffjaaaGreatDoor
open Go Go.Aw
variable {kr : ResO}
theorem c_calls_nil (d : D) (σ : Store) (om : Nat) (hgl : σ.gl = (GL kr)) (hok : okE d = true) (hom : σ.objs[om]? = some (.map [] [])) (hb : d.size ≤ 1000000000) :
    ACalls Tryz.prog 80 [.pv (enc d), .pv .nils, .map om] σ (fun r σ' => r = .pv (.slice ((callsOf d).map enc)) ∧ σ' = { σ with objs := σ.objs.set om (.map (mapK (callsD d ([], [])).2) (mapV pbool (callsD d ([], [])).2)) }) := by
  have h := c_flat_calls d [] [] { σ with toks := σ.toks ++ [⟨0, 24, 4⟩] } om σ.toks.length hgl hok ⟨hom, by simp⟩ (by simpa using hb)
  refine (ACalls.adoptArg (pre := [.pv (enc d)]) (post := [.map om]) h).less ?_
  rintro _ _ ⟨rfl, rfl⟩
  refine ⟨σ.objs.length, σ.toks.length, _, (WV.pv rfl : WV _ _ _ _ (.pv (.slice ((callsOf d).map enc)))), Nat.le_refl _, Nat.le_refl _, fun ob hob => ?_, rfl, ?_⟩
  · exact setCM_mem (List.mem_of_mem_take hob) _ _ _
  · have hn : σ.objs.length = (σ.objs.set om (.map (mapK (callsD d ([], [])).2) (mapV pbool (callsD d ([], [])).2))).length := by simp
    simp only [setCM, Store.cut, Store.tok]
    rw [List.take_of_length_le (by simp), modify_app, List.take_append_of_le_length (Nat.le_refl _), List.take_length]

set_option maxHeartbeats 1000000 in
theorem c_flat_reach (p : D) (R : Right p) : Pur Tryz.prog (GL kr) 62 [.pv (enc p)] (.pv (.slice ((reach p).map enc))) := by
  refine pur_of fun σ hgl => ?_
  have hsz := R.sz
  have hkl := D.kids_length_lt p
  obtain ⟨p0, pr, hpk⟩ := kids_cons R.ne
  have hp0 : p.kids[0]? = some p0 := by rw [hpk]; rfl
  have hph := head_cons hpk
  have hp0m : p0 ∈ p.kids := List.mem_of_getElem? hp0
  obtain ⟨q0, qr, hqk⟩ := kids_cons (R.kids_ne hp0m)
  have hq0 : p0.kids[0]? = some q0 := by rw [hqk]; rfl
  have hqh := head_cons hqk
  have hr0 : rst p 0 = ([p0], [(q0, true)]) := by show ([p.head], [(p.head.head, true)]) = _; rw [hph, hqh]
  have hmg := fun (m : List (D × D)) => withM_get (σ := σ) (m := m)
  have hpt0 := fun (s : St) (d : D) (v : Bool) (ho : s.σ.objs[σ.objs.length + 1]? = some (.map [] [])) => put_seen (m := []) ho d v
  have hmk : mapK [(q0, true)] = [keyPV q0] := rfl
  have hmv : mapV pbool [(q0, true)] = [.bool true] := rfl
  refine acalls_of tyOk Tryz.func62 rfl (by simp [Tryz.f62]) ?_
  refine awp_seq ?_
  refine awp_region_run (sh := []) tyOk (by simp [go_sem] <;> rfl) ?_
  refine awp_seq ?_
  refine awp_reg ?_
  refine al_run 1 (sh := []) tyOk (by simp [go_sem] <;> rfl) ?_
  refine al_callW rfl rfl rfl (by simp [go_sem] <;> rfl) call102 (c_flat_defs p (by omega) (fun x hx => R.kids_ne hx) σ hgl) (by simp [go_sem] <;> rfl) (by simp [go_sem]) rfl rfl ?_
  rintro r σ' ⟨rfl, rfl⟩
  refine al_run 1 (sh := []) tyOk (by simp [go_sem] <;> rfl) ?_
  refine al_nil ?_
  refine awp_seq ?_
  refine awp_region_run (sh := []) tyOk (by simp [go_sem, hp0] <;> rfl) ?_
  refine awp_seq ?_
  refine awp_reg ?_
  refine al_run 8 (sh := []) tyOk (by simp [go_sem, hp0, hq0, withM, hpt0] <;> rfl) ?_
  refine al_fn rfl rfl rfl (by simp [go_sem, hp0, hq0, withM, hpt0] <;> rfl) call98 ((c_flat_keyOf q0) _ (by exact hgl)) (by simp [go_sem, hp0, hq0, withM, hpt0] <;> rfl) (by simp [go_sem, hp0, hq0, withM, hpt0]) rfl rfl ?_
  refine al_run 3 (sh := []) tyOk (by simp [go_sem, hp0, hq0, withM, hpt0] <;> rfl) ?_
  refine al_nil ?_
  refine awp_seq ?_
  refine awp_seq ?_
  refine awp_region_run (sh := []) tyOk (by simp [go_sem, hp0, hq0, withM, hpt0] <;> rfl) ?_
  refine awp_adopt' 4 24 4 (by simp [go_sem] <;> rfl) ?_
  refine awp_block ?_
  refine awp_loop_headK (σ.objs.length + 2) (σ.toks.length + 1) 1 [2, 3, 5] (fun k : Nat => [(4, .acc ((rst p k).1.map enc) σ.toks.length), (6, .pv (.int .i64 ↑k))]) (fun k => withR σ (defsL p.kids) 24 (rst p k)) (fun k => k ≤ (rst p k).1.length) (fun k => p.kids.length - k) 0 (Nat.zero_le _) ⟨by show withR σ (defsL p.kids) 24 (rst p 0) = _; rw [hr0]; simp [withR, hmk, hmv, go_sem, List.take_of_length_le, kset, pbool], rfl, by simp, by simp, by simp [go_sem, hp0, hq0, withM, hpt0, hr0], fun ob h => withR_mem h _ _ _, by simp [go_sem]⟩ ?_
  intro k hk
  refine awp_seq ?_
  refine awp_seq ?_
  refine awp_region_run (sh := []) tyOk (by simp [go_sem, hp0, hq0, withM, hpt0] <;> rfl) ?_
  refine awp_cond (by first | rfl | (simp [go_sem, hp0, hq0, withM, hpt0] <;> rfl)) (fun h0 => ?_) (fun h0 => ?_)
  · have hlt : k < (rst p k).1.length := by simpa using h0
    have hkl2 := (rst_inv R k).len
    have hw : IntKind.i64.wrap (↑k + 1) = (k : Int) + 1 := wrap_succ (by omega)
    obtain ⟨x, hx, hxm⟩ := get_lt hlt
    have hxp := (rst_inv R k).mem x hxm
    obtain ⟨x0, x1, x2, ns, hkk, _⟩ := R.def hxp
    have hx2 : x.kids[2]? = some x2 := by rw [hkk]; rfl
    have hd2 : d2 x.kids = x2 := by rw [hkk]; rfl
    have hok := R.ok hxp
    rw [hd2] at hok
    have hsx := D.size_kid_lt hxp
    have hsx2 := D.size_kid_lt (d := x) (k := x2) (by rw [hkk]; simp)
    have hnx := rst_next hx
    rw [hd2] at hnx
    have hcl : (callsOf x2).length ≤ x2.size := by have := callsD_len x2 ([], []); simp only [List.length_nil, Nat.zero_add] at this; exact this
    have hkn := fun f hf => R.known (f := f) hxp (by rw [hd2]; exact hf)
    refine awp_skip ?_
    refine awp_seq ?_
    refine awp_block ?_
    refine awp_seq ?_
    refine awp_reg ?_
    refine al_run 8 (sh := []) tyOk (by simp [go_sem, hp0, hq0, withM, hpt0, hx, hx2, withR_no] <;> rfl) ?_
    refine al_callW rfl rfl rfl (by simp [go_sem, hp0, hq0, withM, hpt0, hx, hx2, withR_no] <;> rfl) call80 (c_calls_nil x2 _ (σ.objs.length + 2) (by exact hgl) hok (by simp [withR]) (by omega)) (by simp [go_sem, hp0, hq0, withM, hpt0, hx, hx2, withR_no] <;> rfl) (by simp [go_sem, hp0, hq0, withM, hpt0, hx, hx2, withR_no]) rfl rfl ?_
    rintro r σ' ⟨rfl, rfl⟩
    refine al_run 2 (sh := []) tyOk (by simp [go_sem, hp0, hq0, withM, hpt0, hx, hx2, withR_no] <;> rfl) ?_
    refine al_nil ?_
    refine awp_block ?_
    refine awp_loop_headK (σ.objs.length + 2) (σ.toks.length + 1) 1 [2, 3, 5, 6, 40, 41] (fun j : Nat => [(4, .acc ((rin p (rst p k) (callsOf x2) j).1.map enc) σ.toks.length), (42, .pv (.int .i64 ↑j))]) (fun j => withR σ (defsL p.kids) 24 (rin p (rst p k) (callsOf x2) j)) (fun j => j ≤ (callsOf x2).length) (fun j => (callsOf x2).length - j) 0 (Nat.zero_le _) ⟨by show withR σ (defsL p.kids) 24 (rin p (rst p k) (callsOf x2) 0) = Store.cut _ _ _; rw [rin_zero]; simp [withR, go_sem, List.take_of_length_le], rfl, by simp, by simp, by simp [go_sem, hp0, hq0, withM, hpt0, hx, hx2, rin_zero, withR_nt], fun ob h => withR_mem h _ _ _, by simp [go_sem]⟩ ?_
    intro j hk
    refine awp_seq ?_
    refine awp_region_run (sh := []) tyOk (by simp [go_sem, hp0, hq0, withM, hpt0, hx, hx2] <;> rfl) ?_
    refine awp_seq ?_
    refine awp_cond (by first | rfl | (simp [go_sem, hp0, hq0, withM, hpt0, hx, hx2] <;> rfl)) (fun h1 => ?_) (fun h1 => ?_)
    · have hlt : j < (callsOf x2).length := by simp at h1; omega
      have hw : IntKind.i64.wrap (↑j + 1) = (j : Int) + 1 := wrap_succ (by omega)
      obtain ⟨y, hy, hym⟩ := get_lt hlt
      obtain ⟨e, he, hqe, hge⟩ := hkn y hym
      have hri := (rin_inv (rst_inv R k) hkn j).len
      have hg0 := withR_get0 (σ := σ) (m := defsL p.kids) (e := 24) (st := (rin p (rst p k) (callsOf x2) j))
      have hg1 := withR_get1 (σ := σ) (m := defsL p.kids) (e := 24) (st := (rin p (rst p k) (callsOf x2) j))
      have htk := withR_tok (σ := σ) (m := defsL p.kids) (e := 24) (st := (rin p (rst p k) (callsOf x2) j))
      have hbb : ((rin p (rst p k) (callsOf x2) j).1.length + 1) * 56 ≤ 140737488355328 := by omega
      have hlk := fun (s : St) (d : D) (ho : s.σ.objs[σ.objs.length + 1]? = some (.map (mapK (rin p (rst p k) (callsOf x2) j).2) (mapV pbool (rin p (rst p k) (callsOf x2) j).2))) => look_seen ho d
      have hpt := fun (s : St) (d : D) (v : Bool) (ho : s.σ.objs[σ.objs.length + 1]? = some (.map (mapK (rin p (rst p k) (callsOf x2) j).2) (mapV pbool (rin p (rst p k) (callsOf x2) j).2))) => put_seen ho d v
      have hld := fun (s : St) (ho : s.σ.objs[σ.objs.length]? = some (.map (mapK (defsL p.kids)) (mapV enc (defsL p.kids)))) => look_def ho y e hge
      refine awp_skip ?_
      refine awp_seq ?_
      refine awp_block ?_
      refine awp_seq ?_
      refine awp_region_run (sh := []) tyOk (by simp [go_sem, hp0, hq0, withM, hpt0, hx, hx2, hy, hg0, hg1, htk, hlk, hpt, hld, hbb] <;> rfl) ?_
      refine awp_seq ?_
      refine awp_reg ?_
      refine al_run 2 (sh := []) tyOk (by simp [go_sem, hp0, hq0, withM, hpt0, hx, hx2, hy, hg0, hg1, htk, hlk, hpt, hld, hbb] <;> rfl) ?_
      refine al_fn rfl rfl rfl (by simp [go_sem, hp0, hq0, withM, hpt0, hx, hx2, hy, hg0, hg1, htk, hlk, hpt, hld, hbb] <;> rfl) call98 ((c_flat_keyOf y) _ (by exact hgl)) (by simp [go_sem, hp0, hq0, withM, hpt0, hx, hx2, hy, hg0, hg1, htk, hlk, hpt, hld, hbb] <;> rfl) (by simp [go_sem, hp0, hq0, withM, hpt0, hx, hx2, hy, hg0, hg1, htk, hlk, hpt, hld, hbb]) rfl rfl ?_
      refine al_run 2 (sh := []) tyOk (by simp [go_sem, hp0, hq0, withM, hpt0, hx, hx2, hy, hg0, hg1, htk, hlk, hpt, hld, hbb] <;> rfl) ?_
      refine al_nil ?_
      refine awp_cond (by first | rfl | (simp [go_sem, hp0, hq0, withM, hpt0, hx, hx2, hy, hg0, hg1, htk, hlk, hpt, hld, hbb] <;> rfl)) (fun h2 => ?_) (fun h2 => ?_)
      · have hrn : rin p (rst p k) (callsOf x2) (j + 1) = ((rin p (rst p k) (callsOf x2) j).1 ++ [e], kset (rin p (rst p k) (callsOf x2) j).2 y true) := by rw [rin_next hy]; exact reachStep_new (by simpa using h2) hge
        refine awp_seq ?_
        refine awp_reg ?_
        refine al_run 2 (sh := []) tyOk (by simp [go_sem, hp0, hq0, withM, hpt0, hx, hx2, hy, hg0, hg1, htk, hlk, hpt, hld, hbb] <;> rfl) ?_
        refine al_fn rfl rfl rfl (by simp [go_sem, hp0, hq0, withM, hpt0, hx, hx2, hy, hg0, hg1, htk, hlk, hpt, hld, hbb] <;> rfl) call98 ((c_flat_keyOf y) _ (by exact hgl)) (by simp [go_sem, hp0, hq0, withM, hpt0, hx, hx2, hy, hg0, hg1, htk, hlk, hpt, hld, hbb] <;> rfl) (by simp [go_sem, hp0, hq0, withM, hpt0, hx, hx2, hy, hg0, hg1, htk, hlk, hpt, hld, hbb]) rfl rfl ?_
        refine al_run 1 (sh := []) tyOk (by simp [go_sem, hp0, hq0, withM, hpt0, hx, hx2, hy, hg0, hg1, htk, hlk, hpt, hld, hbb] <;> rfl) ?_
        refine al_nil ?_
        refine awp_reg ?_
        refine al_run 3 (sh := []) tyOk (by simp [go_sem, hp0, hq0, withM, hpt0, hx, hx2, hy, hg0, hg1, htk, hlk, hpt, hld, hbb] <;> rfl) ?_
        refine al_fn rfl rfl rfl (by simp [go_sem, hp0, hq0, withM, hpt0, hx, hx2, hy, hg0, hg1, htk, hlk, hpt, hld, hbb] <;> rfl) call98 ((c_flat_keyOf y) _ (by exact hgl)) (by simp [go_sem, hp0, hq0, withM, hpt0, hx, hx2, hy, hg0, hg1, htk, hlk, hpt, hld, hbb] <;> rfl) (by simp [go_sem, hp0, hq0, withM, hpt0, hx, hx2, hy, hg0, hg1, htk, hlk, hpt, hld, hbb]) rfl rfl ?_
        refine al_run 4 (sh := []) tyOk (by simp [go_sem, hp0, hq0, withM, hpt0, hx, hx2, hy, hg0, hg1, htk, hlk, hpt, hld, hbb] <;> rfl) ?_
        refine al_nil ?_
        refine awp_region_run (sh := []) tyOk (by simp [go_sem, hp0, hq0, withM, hpt0, hx, hx2, hy, hg0, hg1, htk, hlk, hpt, hld, hbb] <;> rfl) ?_
        exact next_intro (j + 1) (σ.objs.length + 2) (σ.toks.length + 1) 1 (hlt) (by omega) ⟨by show withR σ (defsL p.kids) 24 (rin p (rst p k) (callsOf x2) (j + 1)) = Store.cut _ _ _; rw [hrn]; simp [withR, go_sem, List.take_of_length_le], rfl, by simp, by simp, by simp [go_sem, hp0, hq0, withM, hpt0, hx, hx2, hy, hg0, hg1, htk, hlk, hpt, hld, hbb, hw, hrn, withR_nt], fun ob h => withR_mem h _ _ _, by simp [go_sem]⟩
      · have hrn : rin p (rst p k) (callsOf x2) (j + 1) = (rin p (rst p k) (callsOf x2) j) := by rw [rin_next hy]; exact reachStep_old (by simpa using h2)
        refine awp_skip ?_
        refine awp_region_run (sh := []) tyOk (by simp [go_sem, hp0, hq0, withM, hpt0, hx, hx2, hy, hg0, hg1, htk, hlk, hpt, hld, hbb] <;> rfl) ?_
        exact next_intro (j + 1) (σ.objs.length + 2) (σ.toks.length + 1) 1 (hlt) (by omega) ⟨by show withR σ (defsL p.kids) 24 (rin p (rst p k) (callsOf x2) (j + 1)) = Store.cut _ _ _; rw [hrn]; simp [withR, go_sem, List.take_of_length_le], rfl, by simp, by simp, by simp [go_sem, hp0, hq0, withM, hpt0, hx, hx2, hy, hg0, hg1, htk, hlk, hpt, hld, hbb, hw, hrn, withR_nt], fun ob h => withR_mem h _ _ _, by simp [go_sem]⟩
    · have hke : j = (callsOf x2).length := by simp at h1; omega
      subst hke
      have hout : rst p (k + 1) = rin p (rst p k) (callsOf x2) (callsOf x2).length := by rw [hnx, rin_all]
      refine awp_exit ?_
      refine then_exit ?_
      refine then_exit ?_
      refine inBlock_hit ?_
      refine awp_region_run (sh := []) tyOk (by simp [go_sem, hp0, hq0, withM, hpt0, hx, hx2] <;> rfl) ?_
      exact next_intro (k + 1) (σ.objs.length + 2) (σ.toks.length + 1) 1 (by have := rst_len hx; omega) (by have := (rst_inv R k).len; omega) ⟨by show withR σ (defsL p.kids) 24 (rst p (k + 1)) = Store.cut _ _ _; rw [hout]; exact withR_cut.symm, rfl, by simp, by simp, by simp [go_sem, hp0, hq0, withM, hpt0, hx, hx2, hw, hout], fun ob h => withR_mem h _ _ _, by simp [go_sem]⟩
  · have hke : (rst p k).1.length ≤ k := by simpa using h0
    have hfin := reach_done hke (by have := (rst_inv R k).len; omega)
    refine awp_exit ?_
    refine then_exit ?_
    refine then_exit ?_
    refine inBlock_hit ?_
    refine awp_seq ?_
    refine awp_region_run (sh := []) tyOk (by simp [go_sem, hp0, hq0, withM, hpt0] <;> rfl) ?_
    refine awp_ret ?_
    refine ends_ret (by simp [go_sem] <;> rfl) (by simp [go_sem]) ?_
    exact ⟨by simp [go_sem, hfin], withR_cut0⟩

end Go.Proofs.YtienmmfjjffjaaaGreatDoor

/- Other labels and names. -/
namespace Go.Proofs.YtienmmfjjffjaaaGreatDoor
open Go Go.Aw
variable {kr : ResO}
set_option maxHeartbeats 1000000 in
theorem c_flat_renamer_expr (O : List AObj) (ro : Nat) (fl fn : FuncId) (cl cn : List AV) (bare : Bool) (lab nm : D → D) (hro : O[ro]? = some (renBox fl fn cl cn bare)) (HL : RenAt Tryz.prog (GL kr) O fl cl lab) (HN : RenAt Tryz.prog (GL kr) O fn cn nm) (d : D) : ∀ σ : Store, σ.gl = (GL kr) → σ.objs = O → okE d = true → d.size ≤ 1000000000 → PurAt Tryz.prog σ 122 [.ptr ro 0, .pv (enc d)] (.pv (enc (rexpr lab nm bare d))) := by
  induction d using D.ind with
  | _ kind num text kids ih =>
  generalize hD : D.mk kind num text kids = d at *
  have hk : d.kids = kids := by rw [← hD]; rfl
  clear hD
  subst hk
  have hkl := D.kids_length_lt d
  intro σ hgl hO hok hd
  have hor := (List.getElem?_eq_some_iff.1 hro).1
  have hpl := parts_len d
  refine purAt_of ?_
  refine acalls_of tyOk Tryz.func122 rfl (by simp [Tryz.f122]) ?_
  refine awp_seq ?_
  refine awp_region_run (sh := []) tyOk (by simp [go_sem, hO, hro] <;> rfl) ?_
  refine awp_seq ?_
  refine awp_block ?_
  refine awp_seq ?_
  refine awp_region_run (sh := []) tyOk (by simp [go_sem, hO, hro] <;> rfl) ?_
  refine awp_cond (by first | rfl | (simp [go_sem, hO, hro] <;> rfl)) (fun h0 => ?_) (fun h0 => ?_)
  · refine awp_seq ?_
    refine awp_region_run (sh := []) tyOk (by simp [go_sem, hO, hro] <;> rfl) ?_
    refine awp_ret ?_
    refine inBlock_ret ?_
    refine then_ret ?_
    refine ends_ret (by simp [go_sem] <;> rfl) (by simp [go_sem]) ?_
    exact ⟨by simp [go_sem, rexpr_num h0], by subst hO; simp [go_sem]⟩
  · refine awp_seq ?_
    refine awp_region_run (sh := []) tyOk (by simp [go_sem, hO, hro] <;> rfl) ?_
    refine awp_cond (by first | rfl | (simp [go_sem, hO, hro] <;> rfl)) (fun h1 => ?_) (fun h1 => ?_)
    · refine awp_seq ?_
      refine awp_regDP tyOk tySz 5 (by kernel_rfl) (by decide) ?_
      refine ul_run 5 (by simp [go_sem, hO, hro] <;> rfl) ?_
      refine ul_nil ?_
      refine al_fn rfl rfl rfl (by simp [go_sem, hO, hro] <;> rfl) HN.1 (HN.2.2 _ (by exact hgl) (by first | exact hO | rfl) d hd) (by simp [go_sem, hO, hro] <;> rfl) (by simp [go_sem, hO, hro]) (by simp [go_sem, HN.2.1]) rfl ?_
      refine al_run 1 (sh := []) tyOk (by simp [go_sem, hO, hro] <;> rfl) ?_
      refine al_nil ?_
      refine awp_ret ?_
      refine inBlock_ret ?_
      refine then_ret ?_
      refine ends_ret (by simp [go_sem] <;> rfl) (by simp [go_sem]) ?_
      exact ⟨by simp [go_sem, rexpr_sym h0 h1], by subst hO; simp [go_sem]⟩
    · have hk3 : d.kind = 3 := by rcases okE_kind hok with h | h | h; exact (nomatch (show (d.kind == 1) = true by rw [h]; rfl).symm.trans h0); exact (nomatch (show (d.kind == 2) = true by rw [h]; rfl).symm.trans h1); exact h
      have hx0 : ∃ x0, d.kids[0]? = some x0 := by obtain ⟨x0, r, e⟩ := kids_cons (okE_ne hok hk3); exact ⟨x0, by rw [e]; rfl⟩
      obtain ⟨x0, hx0⟩ := hx0
      have hh := D.head_of hx0
      have hx0m := List.mem_of_getElem? hx0
      have hs0 := D.size_kid_lt hx0m
      refine awp_skip ?_
      refine awp_seq ?_
      refine awp_region_run (sh := []) tyOk (by simp [go_sem, hO, hro, hx0] <;> rfl) ?_
      refine awp_seq ?_
      refine awp_seq ?_
      refine awp_region_run (sh := []) tyOk (by simp [go_sem, hO, hro, hx0] <;> rfl) ?_
      refine awp_block ?_
      refine awp_seq ?_
      refine awp_region_run (sh := []) tyOk (by simp [go_sem, hO, hro, hx0] <;> rfl) ?_
      refine awp_cond (by first | rfl | (simp [go_sem, hO, hro, hx0] <;> rfl)) (fun h2 => ?_) (fun h2 => ?_)
      · refine awp_seq ?_
        refine awp_reg ?_
        refine al_run 1 (sh := []) tyOk (by simp [go_sem, hO, hro, hx0] <;> rfl) ?_
        refine al_fn rfl rfl rfl (by simp [go_sem, hO, hro, hx0] <;> rfl) call48 ((c_own d hd) _ (by exact hgl)) (by simp [go_sem, hO, hro, hx0] <;> rfl) (by simp [go_sem, hO, hro, hx0]) rfl rfl ?_
        refine al_run 1 (sh := []) tyOk (by simp [go_sem, hO, hro, hx0] <;> rfl) ?_
        refine al_nil ?_
        refine awp_ret ?_
        refine inBlock_ret ?_
        refine then_ret ?_
        refine ends_ret (by simp [go_sem] <;> rfl) (by simp [go_sem]) ?_
        exact ⟨by simp [go_sem, rexpr_quote h0 h1 (by rw [hh]; exact h2)], by subst hO; simp [go_sem]⟩
      · refine awp_seq ?_
        refine awp_region_run (sh := []) tyOk (by simp [go_sem, hO, hro, hx0] <;> rfl) ?_
        refine awp_cond (by first | rfl | (simp [go_sem, hO, hro, hx0] <;> rfl)) (fun h3 => ?_) (fun h3 => ?_)
        · have h2l := okE_two hok hk3 (.inl (by rw [hh]; exact of_decide_eq_true h3))
          obtain ⟨x1, hx1, hx1m⟩ := get_lt (l := d.kids) (k := 1) (by omega)
          have hd1 : d1 d.kids = x1 := getD_of hx1
          have hs1 := D.size_kid_lt hx1m
          obtain ⟨pre, hpre⟩ : ∃ pre, pre = [x0, nm x1] := ⟨_, rfl⟩
          have hsp := rexpr_let (lab := lab) (nm := nm) (bare := bare) h0 h1 (by rw [hh]; exact h2) (by rw [hh]; exact h3)
          rw [hh, hd1, ← hpre] at hsp
          refine awp_regDP tyOk tySz 13 (by kernel_rfl) (by decide) ?_
          refine ul_run 12 (by simp [go_sem, hO, hro, hx0, hx1] <;> rfl) ?_
          refine ul_fn (by first | (intro _ _ hh; exact hh) | simp [go_sem]) rfl rfl rfl rfl (by simp [go_sem, hO, hro, hx0, hx1] <;> rfl) HN.1 (HN.2.2 _ (by exact hgl) (by first | exact hO | rfl) x1 (by omega)) (by simp [go_sem, hO, hro, hx0, hx1] <;> rfl) (by simp [go_sem, hO, hro, hx0, hx1]) (by simp [go_sem, HN.2.1]) rfl ?_
          refine ul_nil ?_
          refine al_run 2 (sh := []) tyOk (by simp [go_sem, hO, hro, hx0, hx1] <;> rfl) ?_
          refine al_nil ?_
          refine awp_seq ?_
          refine awp_seq ?_
          refine awp_reg ?_
          refine al_run 1 (sh := []) tyOk (by simp [go_sem, hO, hro, hx0, hx1] <;> rfl) ?_
          refine al_fn rfl rfl rfl (by simp [go_sem, hO, hro, hx0, hx1] <;> rfl) call96 ((c_flat_Parts d (okE_ne hok) (okE_two hok)) _ (by exact hgl)) (by simp [go_sem, hO, hro, hx0, hx1] <;> rfl) (by simp [go_sem, hO, hro, hx0, hx1]) rfl rfl ?_
          refine al_run 2 (sh := []) tyOk (by simp [go_sem, hO, hro, hx0, hx1] <;> rfl) ?_
          refine al_nil ?_
          refine awp_adopt' 5 24 4 (by simp [go_sem] <;> rfl) ?_
          refine awp_block ?_
          refine awp_loop_headK σ.objs.length (σ.toks.length + 1) 2 [0, 4, 76, 77] (fun k : Nat => [(5, .acc ((outK pre (parts d) (rexpr lab nm bare) k).map enc) σ.toks.length), (78, .pv (.int .i64 ↑k))]) (fun k => { σ with toks := σ.toks ++ [⟨pre.length + k, 24, 4⟩] }) (fun k => k ≤ (parts d).length) (fun k => (parts d).length - k) 0 (Nat.zero_le _) ⟨by simp [go_sem, hpre, hO], rfl, by simp, by simp, by simp [go_sem, hO, hro, hx0, hx1, hpre, outK_zero, hor], fun ob h => .inl (by simpa [go_sem, hO, hro, hx0, hx1, hpre, outK_zero, hor] using h), by simp [go_sem]⟩ ?_
          intro k hk
          refine awp_seq ?_
          refine awp_region_run (sh := []) tyOk (by simp [go_sem, hO, hro, hx0, hx1] <;> rfl) ?_
          refine awp_seq ?_
          refine awp_cond (by first | rfl | (simp [go_sem, hO, hro, hx0, hx1] <;> rfl)) (fun h4 => ?_) (fun h4 => ?_)
          · have hlt : k < (parts d).length := by simp at h4; omega
            have hw : IntKind.i64.wrap (↑k + 1) = (k : Int) + 1 := wrap_succ (by omega)
            obtain ⟨x, hx, hxm⟩ := get_lt hlt
            have hon := outK_next (pre := pre) (h := rexpr lab nm bare) hx
            have hol := outK_len (pre := pre) (h := rexpr lab nm bare) hk
            have hpr : pre.length ≤ 2 := by rw [hpre]; simp
            have hbb : (pre.length + k + 1) * 56 ≤ 140737488355328 := by omega
            refine awp_skip ?_
            refine awp_seq ?_
            refine awp_block ?_
            refine awp_seq ?_
            refine awp_region_run (sh := []) tyOk (by simp [go_sem, hO, hro, hx0, hx1, hx, hol, hbb] <;> rfl) ?_
            refine awp_reg ?_
            refine al_run 3 (sh := []) tyOk (by simp [go_sem, hO, hro, hx0, hx1, hx, hol, hbb] <;> rfl) ?_
            refine al_fn rfl rfl rfl (by simp [go_sem, hO, hro, hx0, hx1, hx, hol, hbb] <;> rfl) call122 (ih x (parts_mem hxm) _ (by exact hgl) (by first | exact hO | rfl) (okE_parts hok x hxm) (by have := D.size_kid_lt (parts_mem hxm); omega)) (by simp [go_sem, hO, hro, hx0, hx1, hx, hol, hbb] <;> rfl) (by simp [go_sem, hO, hro, hx0, hx1, hx, hol, hbb]) rfl rfl ?_
            refine al_run 3 (sh := []) tyOk (by simp [go_sem, hO, hro, hx0, hx1, hx, hol, hbb] <;> rfl) ?_
            refine al_nil ?_
            refine awp_region_run (sh := []) tyOk (by simp [go_sem, hO, hro, hx0, hx1, hx, hol, hbb] <;> rfl) ?_
            exact next_intro (k + 1) σ.objs.length (σ.toks.length + 1) 2 (hlt) (by omega) ⟨by simp [go_sem, hO, hro, hx0, hx1, hx, hol, hbb, hw, hon, hor, Nat.add_assoc], rfl, by simp, by simp, by simp [go_sem, hO, hro, hx0, hx1, hx, hol, hbb, hw, hon, hor, Nat.add_assoc], fun ob h => .inl (by simpa [go_sem, hO, hro, hx0, hx1, hx, hol, hbb, hw, hon, hor, Nat.add_assoc] using h), by simp [go_sem]⟩
          · have hke : k = (parts d).length := by simp at h4; omega
            subst hke
            refine awp_exit ?_
            refine then_exit ?_
            refine then_exit ?_
            refine inBlock_hit ?_
            refine awp_seq ?_
            refine awp_reg ?_
            refine al_run 1 (sh := []) tyOk (by simp [go_sem, hO, hro, hx0, hx1, outK_all] <;> rfl) ?_
            refine al_fn rfl rfl rfl (by simp [go_sem, hO, hro, hx0, hx1, outK_all] <;> rfl) call53 ((c_flat_List (pre ++ (parts d).map (rexpr lab nm bare))) _ (by exact hgl)) (by simp [go_sem, hO, hro, hx0, hx1, outK_all] <;> rfl) (by simp [go_sem, hO, hro, hx0, hx1, outK_all]) rfl rfl ?_
            refine al_run 1 (sh := []) tyOk (by simp [go_sem, hO, hro, hx0, hx1, outK_all] <;> rfl) ?_
            refine al_nil ?_
            refine awp_ret ?_
            refine ends_ret (by simp [go_sem] <;> rfl) (by simp [go_sem]) ?_
            exact ⟨by simp [go_sem, hsp], by subst hO; simp [go_sem]⟩
        · refine awp_seq ?_
          refine awp_region_run (sh := []) tyOk (by simp [go_sem, hO, hro, hx0] <;> rfl) ?_
          refine awp_cond (by first | rfl | (simp [go_sem, hO, hro, hx0] <;> rfl)) (fun h5 => ?_) (fun h5 => ?_)
          · have h2l := okE_two hok hk3 (.inr (by rw [hh]; exact of_decide_eq_true h5))
            obtain ⟨x1, hx1, hx1m⟩ := get_lt (l := d.kids) (k := 1) (by omega)
            have hd1 : d1 d.kids = x1 := getD_of hx1
            have hs1 := D.size_kid_lt hx1m
            have hsp := rexpr_call (lab := lab) (nm := nm) (bare := bare) h0 h1 (by rw [hh]; exact h2) (by rw [hh]; exact h3) (by rw [hh]; exact h5)
            refine awp_seq ?_
            refine awp_regDP tyOk tySz 13 (by kernel_rfl) (by decide) ?_
            refine ul_run 12 (by simp [go_sem, hO, hro, hx0, hx1] <;> rfl) ?_
            refine ul_fn (by first | (intro _ _ hh; exact hh) | simp [go_sem]) rfl rfl rfl rfl (by simp [go_sem, hO, hro, hx0, hx1] <;> rfl) HL.1 (HL.2.2 _ (by exact hgl) (by first | exact hO | rfl) x1 (by omega)) (by simp [go_sem, hO, hro, hx0, hx1] <;> rfl) (by simp [go_sem, hO, hro, hx0, hx1]) (by simp [go_sem, HL.2.1]) rfl ?_
            refine ul_nil ?_
            refine al_run 2 (sh := []) tyOk (by simp [go_sem, hO, hro, hx0, hx1] <;> rfl) ?_
            refine al_nil ?_
            refine awp_seq ?_
            refine awp_region_run (sh := []) tyOk (by simp [go_sem, hO, hro, hx0, hx1] <;> rfl) ?_
            refine awp_cond (by first | rfl | (simp [go_sem, hO, hro, hx0, hx1] <;> rfl)) (fun h6 => ?_) (fun h6 => ?_)
            · obtain ⟨pre, hpre⟩ : ∃ pre, pre = [lab x1] := ⟨_, rfl⟩
              rw [if_pos h6, hd1, ← hpre] at hsp
              refine awp_region_run (sh := []) tyOk (by simp [go_sem, hO, hro, hx0, hx1] <;> rfl) ?_
              refine awp_seq ?_
              refine awp_seq ?_
              refine awp_reg ?_
              refine al_run 1 (sh := []) tyOk (by simp [go_sem, hO, hro, hx0, hx1] <;> rfl) ?_
              refine al_fn rfl rfl rfl (by simp [go_sem, hO, hro, hx0, hx1] <;> rfl) call96 ((c_flat_Parts d (okE_ne hok) (okE_two hok)) _ (by exact hgl)) (by simp [go_sem, hO, hro, hx0, hx1] <;> rfl) (by simp [go_sem, hO, hro, hx0, hx1]) rfl rfl ?_
              refine al_run 2 (sh := []) tyOk (by simp [go_sem, hO, hro, hx0, hx1] <;> rfl) ?_
              refine al_nil ?_
              refine awp_adopt' 5 24 4 (by simp [go_sem] <;> rfl) ?_
              refine awp_block ?_
              refine awp_loop_headK σ.objs.length (σ.toks.length + 1) 2 [0, 4, 76, 77] (fun k : Nat => [(5, .acc ((outK pre (parts d) (rexpr lab nm bare) k).map enc) σ.toks.length), (78, .pv (.int .i64 ↑k))]) (fun k => { σ with toks := σ.toks ++ [⟨pre.length + k, 24, 4⟩] }) (fun k => k ≤ (parts d).length) (fun k => (parts d).length - k) 0 (Nat.zero_le _) ⟨by simp [go_sem, hpre, hO], rfl, by simp, by simp, by simp [go_sem, hO, hro, hx0, hx1, hpre, outK_zero, hor], fun ob h => .inl (by simpa [go_sem, hO, hro, hx0, hx1, hpre, outK_zero, hor] using h), by simp [go_sem]⟩ ?_
              intro k hk
              refine awp_seq ?_
              refine awp_region_run (sh := []) tyOk (by simp [go_sem, hO, hro, hx0, hx1] <;> rfl) ?_
              refine awp_seq ?_
              refine awp_cond (by first | rfl | (simp [go_sem, hO, hro, hx0, hx1] <;> rfl)) (fun h7 => ?_) (fun h7 => ?_)
              · have hlt : k < (parts d).length := by simp at h7; omega
                have hw : IntKind.i64.wrap (↑k + 1) = (k : Int) + 1 := wrap_succ (by omega)
                obtain ⟨x, hx, hxm⟩ := get_lt hlt
                have hon := outK_next (pre := pre) (h := rexpr lab nm bare) hx
                have hol := outK_len (pre := pre) (h := rexpr lab nm bare) hk
                have hpr : pre.length ≤ 2 := by rw [hpre]; simp
                have hbb : (pre.length + k + 1) * 56 ≤ 140737488355328 := by omega
                refine awp_skip ?_
                refine awp_seq ?_
                refine awp_block ?_
                refine awp_seq ?_
                refine awp_region_run (sh := []) tyOk (by simp [go_sem, hO, hro, hx0, hx1, hx, hol, hbb] <;> rfl) ?_
                refine awp_reg ?_
                refine al_run 3 (sh := []) tyOk (by simp [go_sem, hO, hro, hx0, hx1, hx, hol, hbb] <;> rfl) ?_
                refine al_fn rfl rfl rfl (by simp [go_sem, hO, hro, hx0, hx1, hx, hol, hbb] <;> rfl) call122 (ih x (parts_mem hxm) _ (by exact hgl) (by first | exact hO | rfl) (okE_parts hok x hxm) (by have := D.size_kid_lt (parts_mem hxm); omega)) (by simp [go_sem, hO, hro, hx0, hx1, hx, hol, hbb] <;> rfl) (by simp [go_sem, hO, hro, hx0, hx1, hx, hol, hbb]) rfl rfl ?_
                refine al_run 3 (sh := []) tyOk (by simp [go_sem, hO, hro, hx0, hx1, hx, hol, hbb] <;> rfl) ?_
                refine al_nil ?_
                refine awp_region_run (sh := []) tyOk (by simp [go_sem, hO, hro, hx0, hx1, hx, hol, hbb] <;> rfl) ?_
                exact next_intro (k + 1) σ.objs.length (σ.toks.length + 1) 2 (hlt) (by omega) ⟨by simp [go_sem, hO, hro, hx0, hx1, hx, hol, hbb, hw, hon, hor, Nat.add_assoc], rfl, by simp, by simp, by simp [go_sem, hO, hro, hx0, hx1, hx, hol, hbb, hw, hon, hor, Nat.add_assoc], fun ob h => .inl (by simpa [go_sem, hO, hro, hx0, hx1, hx, hol, hbb, hw, hon, hor, Nat.add_assoc] using h), by simp [go_sem]⟩
              · have hke : k = (parts d).length := by simp at h7; omega
                subst hke
                refine awp_exit ?_
                refine then_exit ?_
                refine then_exit ?_
                refine inBlock_hit ?_
                refine awp_seq ?_
                refine awp_reg ?_
                refine al_run 1 (sh := []) tyOk (by simp [go_sem, hO, hro, hx0, hx1, outK_all] <;> rfl) ?_
                refine al_fn rfl rfl rfl (by simp [go_sem, hO, hro, hx0, hx1, outK_all] <;> rfl) call53 ((c_flat_List (pre ++ (parts d).map (rexpr lab nm bare))) _ (by exact hgl)) (by simp [go_sem, hO, hro, hx0, hx1, outK_all] <;> rfl) (by simp [go_sem, hO, hro, hx0, hx1, outK_all]) rfl rfl ?_
                refine al_run 1 (sh := []) tyOk (by simp [go_sem, hO, hro, hx0, hx1, outK_all] <;> rfl) ?_
                refine al_nil ?_
                refine awp_ret ?_
                refine ends_ret (by simp [go_sem] <;> rfl) (by simp [go_sem]) ?_
                exact ⟨by simp [go_sem, hsp], by subst hO; simp [go_sem]⟩
            · obtain ⟨pre, hpre⟩ : ∃ pre, pre = [x0, lab x1] := ⟨_, rfl⟩
              rw [if_neg (by rw [h6]; decide), hd1, hh, ← hpre] at hsp
              refine awp_skip ?_
              refine awp_seq ?_
              refine awp_seq ?_
              refine awp_reg ?_
              refine al_run 1 (sh := []) tyOk (by simp [go_sem, hO, hro, hx0, hx1] <;> rfl) ?_
              refine al_fn rfl rfl rfl (by simp [go_sem, hO, hro, hx0, hx1] <;> rfl) call96 ((c_flat_Parts d (okE_ne hok) (okE_two hok)) _ (by exact hgl)) (by simp [go_sem, hO, hro, hx0, hx1] <;> rfl) (by simp [go_sem, hO, hro, hx0, hx1]) rfl rfl ?_
              refine al_run 2 (sh := []) tyOk (by simp [go_sem, hO, hro, hx0, hx1] <;> rfl) ?_
              refine al_nil ?_
              refine awp_adopt' 5 24 4 (by simp [go_sem] <;> rfl) ?_
              refine awp_block ?_
              refine awp_loop_headK σ.objs.length (σ.toks.length + 1) 2 [0, 4, 76, 77] (fun k : Nat => [(5, .acc ((outK pre (parts d) (rexpr lab nm bare) k).map enc) σ.toks.length), (78, .pv (.int .i64 ↑k))]) (fun k => { σ with toks := σ.toks ++ [⟨pre.length + k, 24, 4⟩] }) (fun k => k ≤ (parts d).length) (fun k => (parts d).length - k) 0 (Nat.zero_le _) ⟨by simp [go_sem, hpre, hO], rfl, by simp, by simp, by simp [go_sem, hO, hro, hx0, hx1, hpre, outK_zero, hor], fun ob h => .inl (by simpa [go_sem, hO, hro, hx0, hx1, hpre, outK_zero, hor] using h), by simp [go_sem]⟩ ?_
              intro k hk
              refine awp_seq ?_
              refine awp_region_run (sh := []) tyOk (by simp [go_sem, hO, hro, hx0, hx1] <;> rfl) ?_
              refine awp_seq ?_
              refine awp_cond (by first | rfl | (simp [go_sem, hO, hro, hx0, hx1] <;> rfl)) (fun h8 => ?_) (fun h8 => ?_)
              · have hlt : k < (parts d).length := by simp at h8; omega
                have hw : IntKind.i64.wrap (↑k + 1) = (k : Int) + 1 := wrap_succ (by omega)
                obtain ⟨x, hx, hxm⟩ := get_lt hlt
                have hon := outK_next (pre := pre) (h := rexpr lab nm bare) hx
                have hol := outK_len (pre := pre) (h := rexpr lab nm bare) hk
                have hpr : pre.length ≤ 2 := by rw [hpre]; simp
                have hbb : (pre.length + k + 1) * 56 ≤ 140737488355328 := by omega
                refine awp_skip ?_
                refine awp_seq ?_
                refine awp_block ?_
                refine awp_seq ?_
                refine awp_region_run (sh := []) tyOk (by simp [go_sem, hO, hro, hx0, hx1, hx, hol, hbb] <;> rfl) ?_
                refine awp_reg ?_
                refine al_run 3 (sh := []) tyOk (by simp [go_sem, hO, hro, hx0, hx1, hx, hol, hbb] <;> rfl) ?_
                refine al_fn rfl rfl rfl (by simp [go_sem, hO, hro, hx0, hx1, hx, hol, hbb] <;> rfl) call122 (ih x (parts_mem hxm) _ (by exact hgl) (by first | exact hO | rfl) (okE_parts hok x hxm) (by have := D.size_kid_lt (parts_mem hxm); omega)) (by simp [go_sem, hO, hro, hx0, hx1, hx, hol, hbb] <;> rfl) (by simp [go_sem, hO, hro, hx0, hx1, hx, hol, hbb]) rfl rfl ?_
                refine al_run 3 (sh := []) tyOk (by simp [go_sem, hO, hro, hx0, hx1, hx, hol, hbb] <;> rfl) ?_
                refine al_nil ?_
                refine awp_region_run (sh := []) tyOk (by simp [go_sem, hO, hro, hx0, hx1, hx, hol, hbb] <;> rfl) ?_
                exact next_intro (k + 1) σ.objs.length (σ.toks.length + 1) 2 (hlt) (by omega) ⟨by simp [go_sem, hO, hro, hx0, hx1, hx, hol, hbb, hw, hon, hor, Nat.add_assoc], rfl, by simp, by simp, by simp [go_sem, hO, hro, hx0, hx1, hx, hol, hbb, hw, hon, hor, Nat.add_assoc], fun ob h => .inl (by simpa [go_sem, hO, hro, hx0, hx1, hx, hol, hbb, hw, hon, hor, Nat.add_assoc] using h), by simp [go_sem]⟩
              · have hke : k = (parts d).length := by simp at h8; omega
                subst hke
                refine awp_exit ?_
                refine then_exit ?_
                refine then_exit ?_
                refine inBlock_hit ?_
                refine awp_seq ?_
                refine awp_reg ?_
                refine al_run 1 (sh := []) tyOk (by simp [go_sem, hO, hro, hx0, hx1, outK_all] <;> rfl) ?_
                refine al_fn rfl rfl rfl (by simp [go_sem, hO, hro, hx0, hx1, outK_all] <;> rfl) call53 ((c_flat_List (pre ++ (parts d).map (rexpr lab nm bare))) _ (by exact hgl)) (by simp [go_sem, hO, hro, hx0, hx1, outK_all] <;> rfl) (by simp [go_sem, hO, hro, hx0, hx1, outK_all]) rfl rfl ?_
                refine al_run 1 (sh := []) tyOk (by simp [go_sem, hO, hro, hx0, hx1, outK_all] <;> rfl) ?_
                refine al_nil ?_
                refine awp_ret ?_
                refine ends_ret (by simp [go_sem] <;> rfl) (by simp [go_sem]) ?_
                exact ⟨by simp [go_sem, hsp], by subst hO; simp [go_sem]⟩
          · obtain ⟨pre, hpre⟩ : ∃ pre, pre = [x0] := ⟨_, rfl⟩
            have hsp := rexpr_other (lab := lab) (nm := nm) (bare := bare) h0 h1 (by rw [hh]; exact h2) (by rw [hh]; exact h3) (by rw [hh]; exact h5)
            rw [hh, ← hpre] at hsp
            refine awp_region_run (sh := []) tyOk (by simp [go_sem, hO, hro, hx0] <;> rfl) ?_
            refine awp_seq ?_
            refine awp_seq ?_
            refine awp_reg ?_
            refine al_run 1 (sh := []) tyOk (by simp [go_sem, hO, hro, hx0] <;> rfl) ?_
            refine al_fn rfl rfl rfl (by simp [go_sem, hO, hro, hx0] <;> rfl) call96 ((c_flat_Parts d (okE_ne hok) (okE_two hok)) _ (by exact hgl)) (by simp [go_sem, hO, hro, hx0] <;> rfl) (by simp [go_sem, hO, hro, hx0]) rfl rfl ?_
            refine al_run 2 (sh := []) tyOk (by simp [go_sem, hO, hro, hx0] <;> rfl) ?_
            refine al_nil ?_
            refine awp_adopt' 5 24 4 (by simp [go_sem] <;> rfl) ?_
            refine awp_block ?_
            refine awp_loop_headK σ.objs.length (σ.toks.length + 1) 2 [0, 4, 76, 77] (fun k : Nat => [(5, .acc ((outK pre (parts d) (rexpr lab nm bare) k).map enc) σ.toks.length), (78, .pv (.int .i64 ↑k))]) (fun k => { σ with toks := σ.toks ++ [⟨pre.length + k, 24, 4⟩] }) (fun k => k ≤ (parts d).length) (fun k => (parts d).length - k) 0 (Nat.zero_le _) ⟨by simp [go_sem, hpre, hO], rfl, by simp, by simp, by simp [go_sem, hO, hro, hx0, hpre, outK_zero, hor], fun ob h => .inl (by simpa [go_sem, hO, hro, hx0, hpre, outK_zero, hor] using h), by simp [go_sem]⟩ ?_
            intro k hk
            refine awp_seq ?_
            refine awp_region_run (sh := []) tyOk (by simp [go_sem, hO, hro, hx0] <;> rfl) ?_
            refine awp_seq ?_
            refine awp_cond (by first | rfl | (simp [go_sem, hO, hro, hx0] <;> rfl)) (fun h9 => ?_) (fun h9 => ?_)
            · have hlt : k < (parts d).length := by simp at h9; omega
              have hw : IntKind.i64.wrap (↑k + 1) = (k : Int) + 1 := wrap_succ (by omega)
              obtain ⟨x, hx, hxm⟩ := get_lt hlt
              have hon := outK_next (pre := pre) (h := rexpr lab nm bare) hx
              have hol := outK_len (pre := pre) (h := rexpr lab nm bare) hk
              have hpr : pre.length ≤ 2 := by rw [hpre]; simp
              have hbb : (pre.length + k + 1) * 56 ≤ 140737488355328 := by omega
              refine awp_skip ?_
              refine awp_seq ?_
              refine awp_block ?_
              refine awp_seq ?_
              refine awp_region_run (sh := []) tyOk (by simp [go_sem, hO, hro, hx0, hx, hol, hbb] <;> rfl) ?_
              refine awp_reg ?_
              refine al_run 3 (sh := []) tyOk (by simp [go_sem, hO, hro, hx0, hx, hol, hbb] <;> rfl) ?_
              refine al_fn rfl rfl rfl (by simp [go_sem, hO, hro, hx0, hx, hol, hbb] <;> rfl) call122 (ih x (parts_mem hxm) _ (by exact hgl) (by first | exact hO | rfl) (okE_parts hok x hxm) (by have := D.size_kid_lt (parts_mem hxm); omega)) (by simp [go_sem, hO, hro, hx0, hx, hol, hbb] <;> rfl) (by simp [go_sem, hO, hro, hx0, hx, hol, hbb]) rfl rfl ?_
              refine al_run 3 (sh := []) tyOk (by simp [go_sem, hO, hro, hx0, hx, hol, hbb] <;> rfl) ?_
              refine al_nil ?_
              refine awp_region_run (sh := []) tyOk (by simp [go_sem, hO, hro, hx0, hx, hol, hbb] <;> rfl) ?_
              exact next_intro (k + 1) σ.objs.length (σ.toks.length + 1) 2 (hlt) (by omega) ⟨by simp [go_sem, hO, hro, hx0, hx, hol, hbb, hw, hon, hor, Nat.add_assoc], rfl, by simp, by simp, by simp [go_sem, hO, hro, hx0, hx, hol, hbb, hw, hon, hor, Nat.add_assoc], fun ob h => .inl (by simpa [go_sem, hO, hro, hx0, hx, hol, hbb, hw, hon, hor, Nat.add_assoc] using h), by simp [go_sem]⟩
            · have hke : k = (parts d).length := by simp at h9; omega
              subst hke
              refine awp_exit ?_
              refine then_exit ?_
              refine then_exit ?_
              refine inBlock_hit ?_
              refine awp_seq ?_
              refine awp_reg ?_
              refine al_run 1 (sh := []) tyOk (by simp [go_sem, hO, hro, hx0, outK_all] <;> rfl) ?_
              refine al_fn rfl rfl rfl (by simp [go_sem, hO, hro, hx0, outK_all] <;> rfl) call53 ((c_flat_List (pre ++ (parts d).map (rexpr lab nm bare))) _ (by exact hgl)) (by simp [go_sem, hO, hro, hx0, outK_all] <;> rfl) (by simp [go_sem, hO, hro, hx0, outK_all]) rfl rfl ?_
              refine al_run 1 (sh := []) tyOk (by simp [go_sem, hO, hro, hx0, outK_all] <;> rfl) ?_
              refine al_nil ?_
              refine awp_ret ?_
              refine ends_ret (by simp [go_sem] <;> rfl) (by simp [go_sem]) ?_
              exact ⟨by simp [go_sem, hsp], by subst hO; simp [go_sem]⟩

end Go.Proofs.YtienmmfjjffjaaaGreatDoor

/- Canonical forms. -/
namespace Go.Proofs.YtienmmfjjffjaaaGreatDoor
open Go Go.Aw
variable {kr : ResO}
theorem look_par0 {s : St} {om : Nat} {ps : List (D × Int)} (ho : s.σ.objs[om]? = some (.map (mapK ps) (mapV pint ps))) (d : D) :
    lookAV ty s 106 (.map om) (.pv (keyPV d)) false = some (.pv (.int .i64 (kpar ps d).1)) := by
  rw [look_map (f := pint) rfl rfl rfl rfl rfl ho]
  unfold kpar
  cases kget ps d <;> rfl

set_option maxHeartbeats 1000000 in
theorem c_canon_1 (O : List AObj) (ol oa om : Nat) (fl : FuncId) (cl : List AV) (at_ : List (D × Int)) (label : Int → D) (h0 : O[ol]? = some (.box [.func (.func fl) cl])) (h1 : O[oa]? = some (.box [.map om])) (h2 : O[om]? = some (.map (mapK at_) (mapV pint at_))) (HB : LabAt Tryz.prog (GL kr) O fl cl label) (d : D) (σ : Store) (hgl : σ.gl = (GL kr)) (hO : σ.objs = O) : PurAt Tryz.prog σ 99 [.pv (enc d), .ptr ol 0, .ptr oa 0] (.pv (enc (label (kpar at_ d).1))) := by
  have hlk := fun (s : St) (d : D) (ho : s.σ.objs[om]? = some (.map (mapK at_) (mapV pint at_))) => look_par0 ho d
  refine purAt_of ?_
  refine acalls_of tyOk Tryz.func99 rfl (by simp [Tryz.f99]) ?_
  refine awp_seq ?_
  refine awp_region_run (sh := []) tyOk (by simp [go_sem, hO, h0, h1, h2, hlk] <;> rfl) ?_
  refine awp_seq ?_
  refine awp_regDP tyOk tySz 5 (by kernel_rfl) (by decide) ?_
  refine ul_run 3 (by simp [go_sem, hO, h0, h1, h2, hlk] <;> rfl) ?_
  refine ul_fn (by first | (intro _ _ hh; exact hh) | simp [go_sem]) rfl rfl rfl rfl (by simp [go_sem, hO, h0, h1, h2, hlk] <;> rfl) call98 ((c_flat_keyOf d) _ (by exact hgl)) (by simp [go_sem, hO, h0, h1, h2, hlk] <;> rfl) (by simp [go_sem, hO, h0, h1, h2, hlk]) rfl rfl ?_
  refine ul_run 1 (by simp [go_sem, hO, h0, h1, h2, hlk] <;> rfl) ?_
  refine ul_nil ?_
  refine al_fn rfl rfl rfl (by simp [go_sem, hO, h0, h1, h2, hlk] <;> rfl) HB.1 (HB.2.2 _ (by exact hgl) (by first | exact hO | rfl) (kpar at_ d).1) (by simp [go_sem, hO, h0, h1, h2, hlk] <;> rfl) (by simp [go_sem, hO, h0, h1, h2, hlk]) (by simp [go_sem, HB.2.1]) rfl ?_
  refine al_run 1 (sh := []) tyOk (by simp [go_sem, hO, h0, h1, h2, hlk] <;> rfl) ?_
  refine al_nil ?_
  refine awp_ret ?_
  refine ends_ret (by simp [go_sem] <;> rfl) (by simp [go_sem]) ?_
  exact ⟨by simp [go_sem], by subst hO; simp [go_sem]⟩

set_option maxHeartbeats 1000000 in
theorem c_def (O : List AObj) (ro : Nat) (fl fn : FuncId) (cl cn : List AV) (bare : Bool) (lab nm : D → D) (hro : O[ro]? = some (renBox fl fn cl cn bare)) (HL : RenAt Tryz.prog (GL kr) O fl cl lab) (HN : RenAt Tryz.prog (GL kr) O fn cn nm) (d x0 x1 x2 : D) (hk3 : d.kids = [x0, x1, x2]) (hok : okE x2 = true) (hd : d.size ≤ 1000000000) (σ : Store) (hgl : σ.gl = (GL kr)) (hO : σ.objs = O) : PurAt Tryz.prog σ 100 [.ptr ro 0, .pv (enc d)] (.pv (enc (rdef lab nm bare d))) := by
  have hor := (List.getElem?_eq_some_iff.1 hro).1
  have hx0 : d.kids[0]? = some x0 := by rw [hk3]; rfl
  have hx1 : d.kids[1]? = some x1 := by rw [hk3]; rfl
  have hx2 : d.kids[2]? = some x2 := by rw [hk3]; rfl
  have hs0 := D.size_kid_lt (List.mem_of_getElem? hx0)
  have hs1 := D.size_kid_lt (List.mem_of_getElem? hx1)
  have hs2 := D.size_kid_lt (List.mem_of_getElem? hx2)
  have hkl := D.kids_length_lt x1
  have hkd := D.kids_length_lt d
  have hsp : rdef lab nm bare d = dlist [lab x0, dlist (x1.kids.map nm), rexpr lab nm bare x2] := by unfold rdef; rw [head_cons hk3, hk3]; rfl
  refine purAt_of ?_
  refine acalls_of tyOk Tryz.func100 rfl (by simp [Tryz.f100]) ?_
  refine awp_seq ?_
  refine awp_region_run (sh := []) tyOk (by simp [go_sem, hO, hro, hx0, hx1, hx2] <;> rfl) ?_
  refine awp_seq ?_
  refine awp_region_run (sh := []) tyOk (by simp [go_sem, hO, hro, hx0, hx1, hx2] <;> rfl) ?_
  refine awp_seq ?_
  refine awp_seq ?_
  refine awp_region_run (sh := []) tyOk (by simp [go_sem, hO, hro, hx0, hx1, hx2] <;> rfl) ?_
  refine awp_adopt' 5 24 4 (by simp [go_sem] <;> rfl) ?_
  refine awp_block ?_
  refine awp_loop_headK σ.objs.length (σ.toks.length + 1) 2 [0, 3, 4, 12, 13] (fun k : Nat => [(5, .acc ((outK [] x1.kids nm k).map enc) σ.toks.length), (14, .pv (.int .i64 ↑k))]) (fun k => { σ with toks := σ.toks ++ [⟨k, 24, 4⟩] }) (fun k => k ≤ x1.kids.length) (fun k => x1.kids.length - k) 0 (Nat.zero_le _) ⟨by simp [go_sem, hO], rfl, by simp, by simp, by simp [go_sem, hO, hro, hx0, hx1, hx2, outK_zero, hor], fun ob h => .inl (by simpa [go_sem, hO, hro, hx0, hx1, hx2, outK_zero, hor] using h), by simp [go_sem]⟩ ?_
  intro k hk
  refine awp_seq ?_
  refine awp_region_run (sh := []) tyOk (by simp [go_sem, hO, hro, hx0, hx1, hx2] <;> rfl) ?_
  refine awp_seq ?_
  refine awp_cond (by first | rfl | (simp [go_sem, hO, hro, hx0, hx1, hx2] <;> rfl)) (fun h0 => ?_) (fun h0 => ?_)
  · have hlt : k < x1.kids.length := by simp at h0; omega
    have hw : IntKind.i64.wrap (↑k + 1) = (k : Int) + 1 := wrap_succ (by omega)
    obtain ⟨x, hx, hxm⟩ := get_lt hlt
    have hon := outK_next (pre := []) (h := nm) hx
    have hol := outK_len (pre := []) (h := nm) hk
    rw [List.length_nil, Nat.zero_add] at hol
    have hbb : (k + 1) * 56 ≤ 140737488355328 := by omega
    refine awp_skip ?_
    refine awp_seq ?_
    refine awp_block ?_
    refine awp_seq ?_
    refine awp_region_run (sh := []) tyOk (by simp [go_sem, hO, hro, hx0, hx1, hx2, hx, hol, hbb] <;> rfl) ?_
    refine awp_regDP tyOk tySz 8 (by kernel_rfl) (by decide) ?_
    refine ul_run 6 (by simp [go_sem, hO, hro, hx0, hx1, hx2, hx, hol, hbb] <;> rfl) ?_
    refine ul_fn (by first | (intro _ _ hh; exact hh) | simp [go_sem]) rfl rfl rfl rfl (by simp [go_sem, hO, hro, hx0, hx1, hx2, hx, hol, hbb] <;> rfl) HN.1 (HN.2.2 _ (by exact hgl) (by first | exact hO | rfl) x (by have := D.size_kid_lt hxm; omega)) (by simp [go_sem, hO, hro, hx0, hx1, hx2, hx, hol, hbb] <;> rfl) (by simp [go_sem, hO, hro, hx0, hx1, hx2, hx, hol, hbb]) (by simp [go_sem, HN.2.1]) rfl ?_
    refine ul_run 1 (by simp [go_sem, hO, hro, hx0, hx1, hx2, hx, hol, hbb] <;> rfl) ?_
    refine ul_nil ?_
    refine al_run 2 (sh := []) tyOk (by simp [go_sem, hO, hro, hx0, hx1, hx2, hx, hol, hbb] <;> rfl) ?_
    refine al_nil ?_
    refine awp_region_run (sh := []) tyOk (by simp [go_sem, hO, hro, hx0, hx1, hx2, hx, hol, hbb] <;> rfl) ?_
    exact next_intro (k + 1) σ.objs.length (σ.toks.length + 1) 2 (hlt) (by omega) ⟨by simp [go_sem, hO, hro, hx0, hx1, hx2, hx, hol, hbb, hw, hon, hor], rfl, by simp, by simp, by simp [go_sem, hO, hro, hx0, hx1, hx2, hx, hol, hbb, hw, hon, hor], fun ob h => .inl (by simpa [go_sem, hO, hro, hx0, hx1, hx2, hx, hol, hbb, hw, hon, hor] using h), by simp [go_sem]⟩
  · have hke : k = x1.kids.length := by simp at h0; omega
    subst hke
    refine awp_exit ?_
    refine then_exit ?_
    refine then_exit ?_
    refine inBlock_hit ?_
    refine awp_seq ?_
    refine awp_regDP tyOk tySz 16 (by kernel_rfl) (by decide) ?_
    refine ul_run 8 (by simp [go_sem, hO, hro, hx0, hx1, hx2, outK_all] <;> rfl) ?_
    refine ul_fn (by first | (intro _ _ hh; exact hh) | simp [go_sem]) rfl rfl rfl rfl (by simp [go_sem, hO, hro, hx0, hx1, hx2, outK_all] <;> rfl) HL.1 (HL.2.2 _ (by exact hgl) (by first | exact hO | rfl) x0 (by omega)) (by simp [go_sem, hO, hro, hx0, hx1, hx2, outK_all] <;> rfl) (by simp [go_sem, hO, hro, hx0, hx1, hx2, outK_all]) (by simp [go_sem, HL.2.1]) rfl ?_
    refine ul_run 1 (by simp [go_sem, hO, hro, hx0, hx1, hx2, outK_all] <;> rfl) ?_
    refine ul_fn (by first | (intro _ _ hh; exact hh) | simp [go_sem]) rfl rfl rfl rfl (by simp [go_sem, hO, hro, hx0, hx1, hx2, outK_all] <;> rfl) call53 ((c_flat_List (x1.kids.map nm)) _ (by exact hgl)) (by simp [go_sem, hO, hro, hx0, hx1, hx2, outK_all] <;> rfl) (by simp [go_sem, hO, hro, hx0, hx1, hx2, outK_all]) rfl rfl ?_
    refine ul_run 5 (by simp [go_sem, hO, hro, hx0, hx1, hx2, outK_all] <;> rfl) ?_
    refine ul_nil ?_
    refine al_fn rfl rfl rfl (by simp [go_sem, hO, hro, hx0, hx1, hx2, outK_all] <;> rfl) call122 (c_flat_renamer_expr O ro fl fn cl cn bare lab nm hro HL HN x2 _ (by exact hgl) (by first | exact hO | rfl) hok (by omega)) (by simp [go_sem, hO, hro, hx0, hx1, hx2, outK_all] <;> rfl) (by simp [go_sem, hO, hro, hx0, hx1, hx2, outK_all]) rfl rfl ?_
    refine al_run 1 (sh := []) tyOk (by simp [go_sem, hO, hro, hx0, hx1, hx2, outK_all] <;> rfl) ?_
    refine al_fn rfl rfl rfl (by simp [go_sem, hO, hro, hx0, hx1, hx2, outK_all] <;> rfl) call53 ((c_flat_List [lab x0, dlist (x1.kids.map nm), rexpr lab nm bare x2]) _ (by exact hgl)) (by simp [go_sem, hO, hro, hx0, hx1, hx2, outK_all] <;> rfl) (by simp [go_sem, hO, hro, hx0, hx1, hx2, outK_all]) rfl rfl ?_
    refine al_run 1 (sh := []) tyOk (by simp [go_sem, hO, hro, hx0, hx1, hx2, outK_all] <;> rfl) ?_
    refine al_nil ?_
    refine awp_ret ?_
    refine ends_ret (by simp [go_sem] <;> rfl) (by simp [go_sem]) ?_
    exact ⟨by simp [go_sem, hsp], by subst hO; simp [go_sem]⟩

set_option maxHeartbeats 1000000 in
theorem c_canon (p : D) (R : Right p) (fl fn : FuncId) (bare : Bool) (label : Int → D) (nm : D → D) (hlab : ∀ O, LabAt Tryz.prog (GL kr) O fl [] label) (hnm : ∀ O, RenAt Tryz.prog (GL kr) O fn [] nm) : Pur Tryz.prog (GL kr) 54 [.pv (enc p), .func (.func fl) [], .func (.func fn) [], .pv (.bool bare)] (.pv (.slice ((canonL (reach p) label nm bare).map enc))) := by
  refine pur_of fun σ hgl => ?_
  have hsz := R.sz
  have hkl := D.kids_length_lt p
  have hrl : (reach p).length ≤ p.kids.length := (rst_inv R _).len
  have hrm : ∀ x, x ∈ reach p → x ∈ p.kids := (rst_inv R _).mem
  refine acalls_of tyOk Tryz.func54 rfl (by simp [Tryz.f54]) ?_
  refine awp_seq ?_
  refine awp_region_run (sh := [5]) tyOk (by simp [go_sem] <;> rfl) ?_
  refine awp_seq ?_
  refine awp_reg ?_
  refine al_run 1 (sh := []) tyOk (by simp [go_sem] <;> rfl) ?_
  refine al_fn rfl rfl rfl (by simp [go_sem] <;> rfl) call62 ((c_flat_reach p R) _ (by exact hgl)) (by simp [go_sem] <;> rfl) (by simp [go_sem]) rfl rfl ?_
  refine al_run 1 (sh := []) tyOk (by simp [go_sem] <;> rfl) ?_
  refine al_nil ?_
  refine awp_seq ?_
  refine awp_region_run (sh := [10]) tyOk (by simp [go_sem] <;> rfl) ?_
  refine awp_seq ?_
  refine awp_seq ?_
  refine awp_region_run (sh := []) tyOk (by simp [go_sem] <;> rfl) ?_
  refine awp_block ?_
  refine awp_loop_headK (σ.objs.length + 3) σ.toks.length 1 [2, 3, 5, 8, 9, 10, 20, 21] (fun k : Nat => [(22, .pv (.int .i64 ↑k))]) (fun k => withA σ fl (atK (reach p) k)) (fun k => k ≤ (reach p).length) (fun k => (reach p).length - k) 0 (Nat.zero_le _) ⟨by show withA σ fl (atK (reach p) 0) = _; rw [atK_zero]; simp [withA, mapK, mapV, go_sem, List.take_of_length_le], rfl, by simp, by simp, by simp [go_sem], fun ob h => withA_mem h, by simp [go_sem]⟩ ?_
  intro k hk
  refine awp_seq ?_
  refine awp_region_run (sh := []) tyOk (by simp [go_sem] <;> rfl) ?_
  refine awp_seq ?_
  refine awp_cond (by first | rfl | (simp [go_sem] <;> rfl)) (fun h0 => ?_) (fun h0 => ?_)
  · have hlt : k < (reach p).length := by simp at h0; omega
    have hw : IntKind.i64.wrap (↑k + 1) = (k : Int) + 1 := wrap_succ (by omega)
    obtain ⟨x, hx, hxm⟩ := get_lt hlt
    have hxp := hrm x hxm
    obtain ⟨x0, x1, x2, ns, hkk, _⟩ := R.def hxp
    have hx0 : x.kids[0]? = some x0 := by rw [hkk]; rfl
    have hsx := D.size_kid_lt hxp
    have hat := atK_next hx
    rw [head_cons hkk] at hat
    have hg2 := withA_get2 (σ := σ) (fl := fl) (ps := atK (reach p) k)
    have hg1 := withA_get1 (σ := σ) (fl := fl) (ps := atK (reach p) k)
    have hpt := fun (s : St) (d : D) (v : Int) (ho : s.σ.objs[σ.objs.length + 1]? = some (.map (mapK (atK (reach p) k)) (mapV pint (atK (reach p) k)))) => put_par ho d v
    refine awp_skip ?_
    refine awp_seq ?_
    refine awp_block ?_
    refine awp_seq ?_
    refine awp_region_run (sh := []) tyOk (by simp [go_sem, hx, hx0, hg1, hg2, hpt] <;> rfl) ?_
    refine awp_regDP tyOk tySz 7 (by kernel_rfl) (by decide) ?_
    refine ul_run 5 (by simp [go_sem, hx, hx0, hg1, hg2, hpt] <;> rfl) ?_
    refine ul_fn (by first | (intro _ _ hh; exact hh) | simp [go_sem]) rfl rfl rfl rfl (by simp [go_sem, hx, hx0, hg1, hg2, hpt] <;> rfl) call98 ((c_flat_keyOf x0) _ (by exact hgl)) (by simp [go_sem, hx, hx0, hg1, hg2, hpt] <;> rfl) (by simp [go_sem, hx, hx0, hg1, hg2, hpt]) rfl rfl ?_
    refine ul_run 1 (by simp [go_sem, hx, hx0, hg1, hg2, hpt] <;> rfl) ?_
    refine ul_nil ?_
    refine al_run 1 (sh := []) tyOk (by simp [go_sem, hx, hx0, hg1, hg2, hpt] <;> rfl) ?_
    refine al_nil ?_
    refine awp_region_run (sh := []) tyOk (by simp [go_sem, hx, hx0, hg1, hg2, hpt] <;> rfl) ?_
    exact next_intro (k + 1) (σ.objs.length + 3) σ.toks.length 1 (hlt) (by omega) ⟨by show withA σ fl (atK (reach p) (k + 1)) = Store.cut _ _ _; rw [hat]; simp [withA, go_sem, List.take_of_length_le], rfl, by simp, by simp, by simp [go_sem, hx, hx0, hg1, hg2, hpt, hw], fun ob h => withA_mem h, by simp [go_sem]⟩
  · have hke : k = (reach p).length := by simp at h0; omega
    subst hke
    have haa := atK_all (l := reach p)
    refine awp_exit ?_
    refine then_exit ?_
    refine then_exit ?_
    refine inBlock_hit ?_
    refine awp_seq ?_
    refine awp_region_run (sh := [39]) tyOk (by simp [go_sem, haa, withA_no, withA_toks] <;> rfl) ?_
    refine awp_seq ?_
    refine awp_region_run (sh := []) tyOk (by simp [go_sem, haa, withA_no, withA_toks] <;> rfl) ?_
    refine awp_seq ?_
    refine awp_seq ?_
    refine awp_region_run (sh := []) tyOk (by simp [go_sem, haa, withA_no, withA_toks] <;> rfl) ?_
    refine awp_adopt' 14 24 4 (by simp [go_sem] <;> rfl) ?_
    have HB : RenAt Tryz.prog (GL kr) (withB σ 99 fl fn (atL (reach p)) bare).objs 99 [.ptr σ.objs.length 0, .ptr (σ.objs.length + 2) 0] (fun f => label (kpar (atL (reach p)) f).1) := ⟨call99, rfl, fun σ2 hgl2 hO2 x hx => c_canon_1 _ σ.objs.length (σ.objs.length + 2) (σ.objs.length + 1) fl [] (atL (reach p)) label withB_get0 withB_get2 withB_get1 (hlab _) x σ2 hgl2 hO2⟩
    refine awp_block ?_
    refine awp_loop_headK (σ.objs.length + 4) (σ.toks.length + 1) 1 [8, 13, 40, 41] (fun k : Nat => [(14, .acc ((outK [] (reach p) (rdef (fun f => label (kpar (atL (reach p)) f).1) nm bare) k).map enc) σ.toks.length), (42, .pv (.int .i64 ↑k))]) (fun k => { withB σ 99 fl fn (atL (reach p)) bare with toks := σ.toks ++ [⟨k, 24, 4⟩] }) (fun k => k ≤ (reach p).length) (fun k => (reach p).length - k) 0 (Nat.zero_le _) ⟨by show ({ withB σ 99 fl fn (atL (reach p)) bare with toks := _ } : Store) = _; simp [withB, withA, go_sem, haa, List.take_of_length_le], rfl, by simp, by simp, by simp [go_sem, haa, withA_no, withA_toks, outK_zero, withA_toks], fun ob h => withB_mem h, by simp [go_sem]⟩ ?_
    intro k hk
    refine awp_seq ?_
    refine awp_region_run (sh := []) tyOk (by simp [go_sem, haa, withA_no, withA_toks] <;> rfl) ?_
    refine awp_seq ?_
    refine awp_cond (by first | rfl | (simp [go_sem, haa, withA_no, withA_toks] <;> rfl)) (fun h1 => ?_) (fun h1 => ?_)
    · have hlt : k < (reach p).length := by simp at h1; omega
      have hw : IntKind.i64.wrap (↑k + 1) = (k : Int) + 1 := wrap_succ (by omega)
      obtain ⟨x, hx, hxm⟩ := get_lt hlt
      have hxp := hrm x hxm
      obtain ⟨x0, x1, x2, ns, hkk, _⟩ := R.def hxp
      have hok := R.ok hxp
      rw [show d2 x.kids = x2 by rw [hkk]; rfl] at hok
      have hsx := D.size_kid_lt hxp
      have hon := outK_next (pre := []) (h := rdef (fun f => label (kpar (atL (reach p)) f).1) nm bare) hx
      have hol := outK_len (pre := []) (h := rdef (fun f => label (kpar (atL (reach p)) f).1) nm bare) hk
      rw [List.length_nil, Nat.zero_add] at hol
      have hbb : (k + 1) * 56 ≤ 140737488355328 := by omega
      refine awp_skip ?_
      refine awp_seq ?_
      refine awp_block ?_
      refine awp_seq ?_
      refine awp_region_run (sh := []) tyOk (by simp [go_sem, haa, withA_no, withA_toks, hx, hol, hbb] <;> rfl) ?_
      refine awp_reg ?_
      refine al_run 3 (sh := []) tyOk (by simp [go_sem, haa, withA_no, withA_toks, hx, hol, hbb] <;> rfl) ?_
      refine al_fn rfl rfl rfl (by simp [go_sem, haa, withA_no, withA_toks, hx, hol, hbb] <;> rfl) call100 (c_def (withB σ 99 fl fn (atL (reach p)) bare).objs (σ.objs.length + 3) 99 fn [.ptr σ.objs.length 0, .ptr (σ.objs.length + 2) 0] [] bare (fun f => label (kpar (atL (reach p)) f).1) nm withB_get3 HB (hnm _) x x0 x1 x2 hkk hok (by omega) _ (by exact hgl) rfl) (by simp [go_sem, haa, withA_no, withA_toks, hx, hol, hbb] <;> rfl) (by simp [go_sem, haa, withA_no, withA_toks, hx, hol, hbb]) rfl rfl ?_
      refine al_run 3 (sh := []) tyOk (by simp [go_sem, haa, withA_no, withA_toks, hx, hol, hbb] <;> rfl) ?_
      refine al_nil ?_
      refine awp_region_run (sh := []) tyOk (by simp [go_sem, haa, withA_no, withA_toks, hx, hol, hbb] <;> rfl) ?_
      exact next_intro (k + 1) (σ.objs.length + 4) (σ.toks.length + 1) 1 (hlt) (by omega) ⟨by simp [go_sem, withB_take, withB_toks], rfl, by simp, by simp, by simp [go_sem, haa, withA_no, withA_toks, hx, hol, hbb, hw, hon, withB_toks], fun ob h => withB_mem h, by simp [go_sem]⟩
    · have hke : k = (reach p).length := by simp at h1; omega
      subst hke
      refine awp_exit ?_
      refine then_exit ?_
      refine then_exit ?_
      refine inBlock_hit ?_
      refine awp_seq ?_
      refine awp_region_run (sh := []) tyOk (by simp [go_sem, haa, withA_no, withA_toks, outK_all] <;> rfl) ?_
      refine awp_ret ?_
      refine ends_ret (by simp [go_sem] <;> rfl) (by simp [go_sem]) ?_
      exact ⟨by simp [go_sem, canonL, outK_all], by simp [go_sem, withB_take0, withB_gl, withB_toks]⟩

end Go.Proofs.YtienmmfjjffjaaaGreatDoor

/- Canon, Size, Reach. -/
namespace Go.Proofs.YtienmmfjjffjaaaGreatDoor
open Go Go.Aw
variable {kr : ResO}
set_option maxHeartbeats 1000000 in
theorem c_flat_Canon (p : D) (hp : p.size ≤ 900000000) : Pur Tryz.prog (GL kr) 21 [.pv (enc p)] (.tuple [.pv (enc (fcanon p).1), .pv (.int .i64 (fcanon p).2)]) := by
  refine pur_of fun σ hgl => ?_
  refine acalls_of tyOk Tryz.func21 rfl (by simp [Tryz.f21]) ?_
  refine awp_seq ?_
  refine awp_region_run (sh := []) tyOk (by simp [go_sem] <;> rfl) ?_
  refine awp_seq ?_
  refine awp_seq ?_
  refine awp_reg ?_
  refine al_run 1 (sh := []) tyOk (by simp [go_sem] <;> rfl) ?_
  refine al_fn rfl rfl rfl (by simp [go_sem] <;> rfl) call11 ((c_flat_Check p hp) _ (by exact hgl)) (by simp [go_sem] <;> rfl) (by simp [go_sem]) rfl rfl ?_
  refine al_run 1 (sh := []) tyOk (by simp [go_sem] <;> rfl) ?_
  refine al_nil ?_
  refine awp_seq ?_
  refine awp_region_run (sh := []) tyOk (by simp [go_sem] <;> rfl) ?_
  refine awp_cond (by first | rfl | (simp [go_sem] <;> rfl)) (fun h0 => ?_) (fun h0 => ?_)
  · refine awp_seq ?_
    refine awp_region_run (sh := []) tyOk (by simp [go_sem] <;> rfl) ?_
    refine awp_ret ?_
    refine then_ret ?_
    refine ends_ret (by simp [go_sem] <;> rfl) (by simp [go_sem]) ?_
    exact ⟨by simp only [fcanon, enc_none, h0, Bool.true_or, Bool.or_true, Bool.false_or, Bool.or_false, Bool.true_and, Bool.and_true, Bool.false_and, Bool.and_false, Bool.not_true, Bool.not_false, Bool.false_eq_true, if_true, if_false]; simp [go_sem], by simp [go_sem]⟩
  · have R : Right p := ⟨by simpa using h0, hp⟩
    refine awp_skip ?_
    refine awp_seq ?_
    refine awp_reg ?_
    refine al_run 1 (sh := []) tyOk (by simp [go_sem] <;> rfl) ?_
    refine al_fn rfl rfl rfl (by simp [go_sem] <;> rfl) call54 ((c_canon p R 55 57 false dnum id (fun O => ⟨call55, rfl, fun σ hgl _ n => c_flat_Canon_1 n σ hgl⟩) (fun O => ⟨call57, rfl, fun σ hgl _ x _ => c_flat_Canon_2 x σ hgl⟩)) _ (by exact hgl)) (by simp [go_sem] <;> rfl) (by simp [go_sem]) rfl rfl ?_
    refine al_fn rfl rfl rfl (by simp [go_sem] <;> rfl) call53 ((c_flat_List (canonL (reach p) dnum id false)) _ (by exact hgl)) (by simp [go_sem] <;> rfl) (by simp [go_sem]) rfl rfl ?_
    refine al_run 2 (sh := []) tyOk (by simp [go_sem] <;> rfl) ?_
    refine al_nil ?_
    refine awp_ret ?_
    refine ends_ret (by simp [go_sem] <;> rfl) (by simp [go_sem]) ?_
    exact ⟨by simp only [fcanon, canonD, h0, Bool.true_or, Bool.or_true, Bool.false_or, Bool.or_false, Bool.true_and, Bool.and_true, Bool.false_and, Bool.and_false, Bool.not_true, Bool.not_false, Bool.false_eq_true, if_true, if_false]; simp [go_sem], by simp [go_sem]⟩

set_option maxHeartbeats 1000000 in
theorem c_size (d : D) : ∀ σ : Store, σ.gl = (GL kr) → okE d = true → d.size ≤ 1000000000 → PurAt Tryz.prog σ 50 [.pv (enc d)] (.pv (.int .i64 (fsize d))) := by
  induction d using D.ind with
  | _ kind num text kids ih =>
  generalize hD : D.mk kind num text kids = d at *
  have hk : d.kids = kids := by rw [← hD]; rfl
  clear hD
  subst hk
  have hkl := D.kids_length_lt d
  intro σ hgl hok hd
  have hpl := parts_len d
  have hsl := fsize_le d
  have hsp := sizes_parts d
  refine purAt_of ?_
  refine acalls_of tyOk Tryz.func50 rfl (by simp [Tryz.f50]) ?_
  refine awp_seq ?_
  refine awp_region_run (sh := []) tyOk (by simp [go_sem] <;> rfl) ?_
  refine awp_seq ?_
  refine awp_region_run (sh := []) tyOk (by simp [go_sem] <;> rfl) ?_
  refine awp_seq ?_
  refine awp_seq ?_
  refine awp_reg ?_
  refine al_run 1 (sh := []) tyOk (by simp [go_sem] <;> rfl) ?_
  refine al_fn rfl rfl rfl (by simp [go_sem] <;> rfl) call96 ((c_flat_Parts d (okE_ne hok) (okE_two hok)) _ (by exact hgl)) (by simp [go_sem] <;> rfl) (by simp [go_sem]) rfl rfl ?_
  refine al_run 2 (sh := []) tyOk (by simp [go_sem] <;> rfl) ?_
  refine al_nil ?_
  refine awp_block ?_
  refine awp_loop_headK σ.objs.length σ.toks.length 1 [2, 7, 8] (fun k : Nat => [(3, .pv (.int .i64 (1 + ((sumTo fsize (parts d) k : Nat) : Int)))), (9, .pv (.int .i64 ↑k))]) (fun k => σ) (fun k => k ≤ (parts d).length) (fun k => (parts d).length - k) 0 (Nat.zero_le _) ⟨by simp [go_sem, sumTo_zero], rfl, by simp, by simp, by simp [go_sem, sumTo_zero], fun ob h => .inl (by simpa [go_sem, sumTo_zero] using h), by simp [go_sem]⟩ ?_
  intro k hk
  refine awp_seq ?_
  refine awp_region_run (sh := []) tyOk (by simp [go_sem] <;> rfl) ?_
  refine awp_seq ?_
  refine awp_cond (by first | rfl | (simp [go_sem] <;> rfl)) (fun h0 => ?_) (fun h0 => ?_)
  · have hlt : k < (parts d).length := by simp at h0; omega
    have hw : IntKind.i64.wrap (↑k + 1) = (k : Int) + 1 := wrap_succ (by omega)
    obtain ⟨x, hx, hxm⟩ := get_lt hlt
    have hsn := sumTo_next (f := fsize) hx
    have hs1 := sumTo_le (f := fsize) (l := parts d) (k := k) (fun x _ => fsize_le x)
    have hs2 := sumTo_le (f := fsize) (l := parts d) (k := k + 1) (fun x _ => fsize_le x)
    have hwa : IntKind.i64.wrap (1 + ((sumTo fsize (parts d) k : Nat) : Int) + (fsize x : Int)) = 1 + ((sumTo fsize (parts d) (k + 1) : Nat) : Int) := by rw [wrap_id (by omega) (by omega)]; omega
    refine awp_skip ?_
    refine awp_seq ?_
    refine awp_block ?_
    refine awp_seq ?_
    refine awp_region_run (sh := []) tyOk (by simp [go_sem, hx, hwa] <;> rfl) ?_
    refine awp_reg ?_
    refine al_run 2 (sh := []) tyOk (by simp [go_sem, hx, hwa] <;> rfl) ?_
    refine al_fn rfl rfl rfl (by simp [go_sem, hx, hwa] <;> rfl) call50 (ih x (parts_mem hxm) _ (by exact hgl) (okE_parts hok x hxm) (by have := D.size_kid_lt (parts_mem hxm); omega)) (by simp [go_sem, hx, hwa] <;> rfl) (by simp [go_sem, hx, hwa]) rfl rfl ?_
    refine al_run 2 (sh := []) tyOk (by simp [go_sem, hx, hwa] <;> rfl) ?_
    refine al_nil ?_
    refine awp_region_run (sh := []) tyOk (by simp [go_sem, hx, hwa] <;> rfl) ?_
    exact next_intro (k + 1) σ.objs.length σ.toks.length 1 (hlt) (by omega) ⟨by simp [go_sem, hx, hwa, hw], rfl, by simp, by simp, by simp [go_sem, hx, hwa, hw], fun ob h => .inl (by simpa [go_sem, hx, hwa, hw] using h), by simp [go_sem]⟩
  · have hke : k = (parts d).length := by simp at h0; omega
    subst hke
    have hsa := sumTo_all (f := fsize) (l := parts d)
    have hse := fsize_eq d
    rw [← hsa] at hse
    refine awp_exit ?_
    refine then_exit ?_
    refine then_exit ?_
    refine inBlock_hit ?_
    refine awp_seq ?_
    refine awp_region_run (sh := []) tyOk (by simp [go_sem] <;> rfl) ?_
    refine awp_ret ?_
    refine ends_ret (by simp [go_sem] <;> rfl) (by simp [go_sem]) ?_
    exact ⟨by rw [hse]; simp [go_sem], by simp [go_sem]⟩

set_option maxHeartbeats 1000000 in
theorem c_flat_Size (p : D) (hp : p.size ≤ 900000000) : Pur Tryz.prog (GL kr) 14 [.pv (enc p)] (.tuple [.pv (.int .i64 (fSize p).1), .pv (.int .i64 (fSize p).2)]) := by
  have hkl := D.kids_length_lt p
  have hsk := sizes_kids p
  refine pur_of fun σ hgl => ?_
  refine acalls_of tyOk Tryz.func14 rfl (by simp [Tryz.f14]) ?_
  refine awp_seq ?_
  refine awp_region_run (sh := []) tyOk (by simp [go_sem] <;> rfl) ?_
  refine awp_seq ?_
  refine awp_seq ?_
  refine awp_reg ?_
  refine al_run 1 (sh := []) tyOk (by simp [go_sem] <;> rfl) ?_
  refine al_fn rfl rfl rfl (by simp [go_sem] <;> rfl) call11 ((c_flat_Check p hp) _ (by exact hgl)) (by simp [go_sem] <;> rfl) (by simp [go_sem]) rfl rfl ?_
  refine al_run 1 (sh := []) tyOk (by simp [go_sem] <;> rfl) ?_
  refine al_nil ?_
  refine awp_seq ?_
  refine awp_region_run (sh := []) tyOk (by simp [go_sem] <;> rfl) ?_
  refine awp_cond (by first | rfl | (simp [go_sem] <;> rfl)) (fun h0 => ?_) (fun h0 => ?_)
  · refine awp_seq ?_
    refine awp_region_run (sh := []) tyOk (by simp [go_sem] <;> rfl) ?_
    refine awp_ret ?_
    refine then_ret ?_
    refine ends_ret (by simp [go_sem] <;> rfl) (by simp [go_sem]) ?_
    exact ⟨by simp only [fSize, h0, Bool.true_or, Bool.or_true, Bool.false_or, Bool.or_false, Bool.true_and, Bool.and_true, Bool.false_and, Bool.and_false, Bool.not_true, Bool.not_false, Bool.false_eq_true, if_true, if_false]; simp [go_sem], by simp [go_sem]⟩
  · have R : Right p := ⟨by simpa using h0, hp⟩
    refine awp_skip ?_
    refine awp_seq ?_
    refine awp_region_run (sh := []) tyOk (by simp [go_sem] <;> rfl) ?_
    refine awp_seq ?_
    refine awp_seq ?_
    refine awp_region_run (sh := []) tyOk (by simp [go_sem] <;> rfl) ?_
    refine awp_block ?_
    refine awp_loop_headK σ.objs.length σ.toks.length 1 [2, 3, 14, 15] (fun k : Nat => [(5, .pv (.int .i64 ((sumTo bsize p.kids k : Nat) : Int))), (16, .pv (.int .i64 ↑k))]) (fun k => σ) (fun k => k ≤ p.kids.length) (fun k => p.kids.length - k) 0 (Nat.zero_le _) ⟨by simp [go_sem, sumTo_zero], rfl, by simp, by simp, by simp [go_sem, sumTo_zero], fun ob h => .inl (by simpa [go_sem, sumTo_zero] using h), by simp [go_sem]⟩ ?_
    intro k hk
    refine awp_seq ?_
    refine awp_region_run (sh := []) tyOk (by simp [go_sem] <;> rfl) ?_
    refine awp_seq ?_
    refine awp_cond (by first | rfl | (simp [go_sem] <;> rfl)) (fun h1 => ?_) (fun h1 => ?_)
    · have hlt : k < p.kids.length := by simp at h1; omega
      have hw : IntKind.i64.wrap (↑k + 1) = (k : Int) + 1 := wrap_succ (by omega)
      obtain ⟨x, hx, hxm⟩ := get_lt hlt
      obtain ⟨x0, x1, x2, ns, hkk, _⟩ := R.def hxm
      have hok := R.ok hxm
      have hd2 : d2 x.kids = x2 := by rw [hkk]; rfl
      rw [hd2] at hok
      have hx2 : x.kids[2]? = some x2 := by rw [hkk]; rfl
      have hsx := D.size_kid_lt hxm
      have hsx2 := D.size_kid_lt (List.mem_of_getElem? hx2)
      have hsn := sumTo_next (f := bsize) hx
      rw [show bsize x = fsize x2 by unfold bsize; rw [hd2]] at hsn
      have hs2 := sumTo_le (f := bsize) (l := p.kids) (k := k + 1) (fun x hx => R.bsize_le hx)
      have hwa : IntKind.i64.wrap (((sumTo bsize p.kids k : Nat) : Int) + (fsize x2 : Int)) = ((sumTo bsize p.kids (k + 1) : Nat) : Int) := by rw [wrap_add (by omega), ← hsn]
      refine awp_skip ?_
      refine awp_seq ?_
      refine awp_block ?_
      refine awp_seq ?_
      refine awp_region_run (sh := []) tyOk (by simp [go_sem, hx, hx2, hwa] <;> rfl) ?_
      refine awp_reg ?_
      refine al_run 5 (sh := []) tyOk (by simp [go_sem, hx, hx2, hwa] <;> rfl) ?_
      refine al_fn rfl rfl rfl (by simp [go_sem, hx, hx2, hwa] <;> rfl) call50 (c_size x2 _ (by exact hgl) hok (by omega)) (by simp [go_sem, hx, hx2, hwa] <;> rfl) (by simp [go_sem, hx, hx2, hwa]) rfl rfl ?_
      refine al_run 2 (sh := []) tyOk (by simp [go_sem, hx, hx2, hwa] <;> rfl) ?_
      refine al_nil ?_
      refine awp_region_run (sh := []) tyOk (by simp [go_sem, hx, hx2, hwa] <;> rfl) ?_
      exact next_intro (k + 1) σ.objs.length σ.toks.length 1 (hlt) (by omega) ⟨by simp [go_sem, hx, hx2, hwa, hw], rfl, by simp, by simp, by simp [go_sem, hx, hx2, hwa, hw], fun ob h => .inl (by simpa [go_sem, hx, hx2, hwa, hw] using h), by simp [go_sem]⟩
    · have hke : k = p.kids.length := by simp at h1; omega
      subst hke
      have hsa := sumTo_all (f := bsize) (l := p.kids)
      refine awp_exit ?_
      refine then_exit ?_
      refine then_exit ?_
      refine inBlock_hit ?_
      refine awp_seq ?_
      refine awp_region_run (sh := []) tyOk (by simp [go_sem] <;> rfl) ?_
      refine awp_ret ?_
      refine ends_ret (by simp [go_sem] <;> rfl) (by simp [go_sem]) ?_
      have hs : fSize p = (((sumTo bsize p.kids p.kids.length : Nat) : Int), 0) := by simp only [fSize, h0, Bool.true_or, Bool.or_true, Bool.false_or, Bool.or_false, Bool.true_and, Bool.and_true, Bool.false_and, Bool.and_false, Bool.not_true, Bool.not_false, Bool.false_eq_true, if_true, if_false]; rw [hsa]
      exact ⟨by simp [go_sem, hs], by simp [go_sem]⟩

set_option maxHeartbeats 1000000 in
theorem c_flat_Reach (p : D) (hp : p.size ≤ 900000000) : Pur Tryz.prog (GL kr) 25 [.pv (enc p)] (.tuple [.pv (.slice ((fReach p).1.map enc)), .pv (.int .i64 (fReach p).2)]) := by
  have hkl := D.kids_length_lt p
  refine pur_of fun σ hgl => ?_
  refine acalls_of tyOk Tryz.func25 rfl (by simp [Tryz.f25]) ?_
  refine awp_seq ?_
  refine awp_region_run (sh := []) tyOk (by simp [go_sem] <;> rfl) ?_
  refine awp_seq ?_
  refine awp_seq ?_
  refine awp_reg ?_
  refine al_run 1 (sh := []) tyOk (by simp [go_sem] <;> rfl) ?_
  refine al_fn rfl rfl rfl (by simp [go_sem] <;> rfl) call11 ((c_flat_Check p hp) _ (by exact hgl)) (by simp [go_sem] <;> rfl) (by simp [go_sem]) rfl rfl ?_
  refine al_run 1 (sh := []) tyOk (by simp [go_sem] <;> rfl) ?_
  refine al_nil ?_
  refine awp_seq ?_
  refine awp_region_run (sh := []) tyOk (by simp [go_sem] <;> rfl) ?_
  refine awp_cond (by first | rfl | (simp [go_sem] <;> rfl)) (fun h0 => ?_) (fun h0 => ?_)
  · refine awp_seq ?_
    refine awp_region_run (sh := []) tyOk (by simp [go_sem] <;> rfl) ?_
    refine awp_ret ?_
    refine then_ret ?_
    refine ends_ret (by simp [go_sem] <;> rfl) (by simp [go_sem]) ?_
    exact ⟨by simp only [fReach, h0, Bool.true_or, Bool.or_true, Bool.false_or, Bool.or_false, Bool.true_and, Bool.and_true, Bool.false_and, Bool.and_false, Bool.not_true, Bool.not_false, Bool.false_eq_true, if_true, if_false]; simp [go_sem], by simp [go_sem]⟩
  · have R : Right p := ⟨by simpa using h0, hp⟩
    have hrl : (reach p).length ≤ p.kids.length := (rst_inv R _).len
    have hrm : ∀ x, x ∈ reach p → x ∈ p.kids := (rst_inv R _).mem
    refine awp_skip ?_
    refine awp_seq ?_
    refine awp_region_run (sh := []) tyOk (by simp [go_sem] <;> rfl) ?_
    refine awp_seq ?_
    refine awp_seq ?_
    refine awp_reg ?_
    refine al_run 1 (sh := []) tyOk (by simp [go_sem] <;> rfl) ?_
    refine al_fn rfl rfl rfl (by simp [go_sem] <;> rfl) call62 ((c_flat_reach p R) _ (by exact hgl)) (by simp [go_sem] <;> rfl) (by simp [go_sem]) rfl rfl ?_
    refine al_run 2 (sh := []) tyOk (by simp [go_sem] <;> rfl) ?_
    refine al_nil ?_
    refine awp_adopt' 5 24 4 (by simp [go_sem] <;> rfl) ?_
    refine awp_block ?_
    refine awp_loop_headK σ.objs.length (σ.toks.length + 1) 1 [2, 3, 14, 15] (fun k : Nat => [(5, .acc ((outK [] (reach p) D.head k).map enc) σ.toks.length), (16, .pv (.int .i64 ↑k))]) (fun k => { σ with toks := σ.toks ++ [⟨k, 24, 4⟩] }) (fun k => k ≤ (reach p).length) (fun k => (reach p).length - k) 0 (Nat.zero_le _) ⟨by simp [go_sem, outK_zero], rfl, by simp, by simp, by simp [go_sem, outK_zero], fun ob h => .inl (by simpa [go_sem, outK_zero] using h), by simp [go_sem]⟩ ?_
    intro k hk
    refine awp_seq ?_
    refine awp_region_run (sh := []) tyOk (by simp [go_sem] <;> rfl) ?_
    refine awp_seq ?_
    refine awp_cond (by first | rfl | (simp [go_sem] <;> rfl)) (fun h1 => ?_) (fun h1 => ?_)
    · have hlt : k < (reach p).length := by simp at h1; omega
      have hw : IntKind.i64.wrap (↑k + 1) = (k : Int) + 1 := wrap_succ (by omega)
      obtain ⟨x, hx, hxm⟩ := get_lt hlt
      have hxp := hrm x hxm
      obtain ⟨x0, x1, x2, ns, hkk, _⟩ := R.def hxp
      have hx0 : x.kids[0]? = some x0 := by rw [hkk]; rfl
      have hsx := D.size_kid_lt hxp
      have hsx0 := D.size_kid_lt (List.mem_of_getElem? hx0)
      have hon := outK_next (pre := []) (h := D.head) hx
      rw [head_cons hkk] at hon
      have hol := outK_len (pre := []) (h := D.head) hk
      rw [List.length_nil, Nat.zero_add] at hol
      have hbb : (k + 1) * 56 ≤ 140737488355328 := by omega
      refine awp_skip ?_
      refine awp_seq ?_
      refine awp_block ?_
      refine awp_seq ?_
      refine awp_region_run (sh := []) tyOk (by simp [go_sem, hx, hx0, hol, hbb] <;> rfl) ?_
      refine awp_reg ?_
      refine al_run 5 (sh := []) tyOk (by simp [go_sem, hx, hx0, hol, hbb] <;> rfl) ?_
      refine al_fn rfl rfl rfl (by simp [go_sem, hx, hx0, hol, hbb] <;> rfl) call48 ((c_own x0 (by omega)) _ (by exact hgl)) (by simp [go_sem, hx, hx0, hol, hbb] <;> rfl) (by simp [go_sem, hx, hx0, hol, hbb]) rfl rfl ?_
      refine al_run 3 (sh := []) tyOk (by simp [go_sem, hx, hx0, hol, hbb] <;> rfl) ?_
      refine al_nil ?_
      refine awp_region_run (sh := []) tyOk (by simp [go_sem, hx, hx0, hol, hbb] <;> rfl) ?_
      exact next_intro (k + 1) σ.objs.length (σ.toks.length + 1) 1 (hlt) (by omega) ⟨by simp [go_sem, hx, hx0, hol, hbb, hw, hon], rfl, by simp, by simp, by simp [go_sem, hx, hx0, hol, hbb, hw, hon], fun ob h => .inl (by simpa [go_sem, hx, hx0, hol, hbb, hw, hon] using h), by simp [go_sem]⟩
    · have hke : k = (reach p).length := by simp at h1; omega
      subst hke
      refine awp_exit ?_
      refine then_exit ?_
      refine then_exit ?_
      refine inBlock_hit ?_
      refine awp_seq ?_
      refine awp_region_run (sh := []) tyOk (by simp [go_sem, outK_all] <;> rfl) ?_
      refine awp_ret ?_
      refine ends_ret (by simp [go_sem] <;> rfl) (by simp [go_sem]) ?_
      have hs : fReach p = ((reach p).map D.head, 0) := by simp only [fReach, outK_all, h0, Bool.true_or, Bool.or_true, Bool.false_or, Bool.or_false, Bool.true_and, Bool.and_true, Bool.false_and, Bool.and_false, Bool.not_true, Bool.not_false, Bool.false_eq_true, if_true, if_false]
      exact ⟨by simp [go_sem, hs], by simp [go_sem]⟩

end Go.Proofs.YtienmmfjjffjaaaGreatDoor

/- Join. -/
namespace Go.Proofs.YtienmmfjjffjaaaGreatDoor
open Go Go.Aw
variable {kr : ResO}
set_option maxHeartbeats 1000000 in
theorem c_flat_Join (p q : D) (hp : p.size ≤ 400000000) (hq : q.size ≤ 400000000) : Pur Tryz.prog (GL kr) 33 [.pv (enc p), .pv (enc q)] (.tuple [.pv (enc (fjoin p q).1), .pv (.int .i64 (fjoin p q).2)]) := by
  have hkp := D.kids_length_lt p
  have hkq := D.kids_length_lt q
  refine pur_of fun σ hgl => ?_
  refine acalls_of tyOk Tryz.func33 rfl (by simp [Tryz.f33]) ?_
  refine awp_seq ?_
  refine awp_region_run (sh := []) tyOk (by simp [go_sem] <;> rfl) ?_
  refine awp_seq ?_
  refine awp_seq ?_
  refine awp_region_run (sh := []) tyOk (by simp [go_sem] <;> rfl) ?_
  refine awp_block ?_
  refine awp_loop_headK σ.objs.length σ.toks.length 3 [2, 3, 4, 5, 17] (fun k : Nat => [(18, .pv (.int .i64 ↑k))]) (fun k => σ) (fun k => k ≤ 2 ∧ (0 < k → fcheck p = 0) ∧ (1 < k → fcheck q = 0)) (fun k => 2 - k) 0 (⟨by omega, by omega, by omega⟩) ⟨by simp [go_sem], rfl, by simp, by simp, by simp [go_sem], fun ob h => .inl (by simpa [go_sem] using h), by simp [go_sem]⟩ ?_
  rintro k ⟨hk, hc0, hc1⟩
  refine awp_seq ?_
  refine awp_region_run (sh := []) tyOk (by simp [go_sem] <;> rfl) ?_
  refine awp_seq ?_
  refine awp_cond (by first | rfl | (simp [go_sem] <;> rfl)) (fun h0 => ?_) (fun h0 => ?_)
  · have hlt : k < 2 := by simp at h0; omega
    have hw : IntKind.i64.wrap (↑k + 1) = (k : Int) + 1 := wrap_succ (by omega)
    have hk2 : (↑k : Int) < 2 := by omega
    have hk4 : k * 4 ≤ 4 := by omega
    have hk8 : 4 ≤ 8 - k * 4 := by omega
    have hpt := pq_take (p := p) (q := q) hlt
    refine awp_skip ?_
    refine awp_seq ?_
    refine awp_block ?_
    refine awp_seq ?_
    refine awp_region_run (sh := []) tyOk (by simp [go_sem, hk2, hk4, hk8, hpt] <;> rfl) ?_
    refine awp_seq ?_
    refine awp_reg ?_
    refine al_run 1 (sh := []) tyOk (by simp [go_sem, hk2, hk4, hk8, hpt] <;> rfl) ?_
    refine al_fn rfl rfl rfl (by simp [go_sem, hk2, hk4, hk8, hpt] <;> rfl) call11 ((c_flat_Check (pq p q k) (by unfold pq; split <;> omega)) _ (by exact hgl)) (by simp [go_sem, hk2, hk4, hk8, hpt] <;> rfl) (by simp [go_sem, hk2, hk4, hk8, hpt]) rfl rfl ?_
    refine al_run 1 (sh := []) tyOk (by simp [go_sem, hk2, hk4, hk8, hpt] <;> rfl) ?_
    refine al_nil ?_
    refine awp_seq ?_
    refine awp_region_run (sh := []) tyOk (by simp [go_sem, hk2, hk4, hk8, hpt] <;> rfl) ?_
    refine awp_cond (by first | rfl | (simp [go_sem, hk2, hk4, hk8, hpt] <;> rfl)) (fun h1 => ?_) (fun h1 => ?_)
    · refine awp_seq ?_
      refine awp_region_run (sh := []) tyOk (by simp [go_sem, hk2, hk4, hk8, hpt] <;> rfl) ?_
      refine awp_ret ?_
      refine inBlock_ret ?_
      refine then_ret ?_
      refine then_ret ?_
      refine inBlock_ret ?_
      refine then_ret ?_
      refine ends_ret (by simp [go_sem] <;> rfl) (by simp [go_sem]) ?_
      have hs := fjoin_err hlt hc0 h1
      exact ⟨by rw [hs]; simp [go_sem, enc_none], by simp [go_sem]⟩
    · refine awp_skip ?_
      refine awp_region_run (sh := []) tyOk (by simp [go_sem, hk2, hk4, hk8, hpt] <;> rfl) ?_
      exact next_intro (k + 1) σ.objs.length σ.toks.length 3 (join_inv hlt hc0 h1) (by omega) ⟨by simp [go_sem, hk2, hk4, hk8, hpt, hw], rfl, by simp, by simp, by simp [go_sem, hk2, hk4, hk8, hpt, hw], fun ob h => .inl (by simpa [go_sem, hk2, hk4, hk8, hpt, hw] using h), by simp [go_sem]⟩
  · have hke : k = 2 := by simp at h0; omega
    subst hke
    have Rp : Right p := ⟨hc0 (by omega), by omega⟩
    have Rq : Right q := ⟨hc1 (by omega), by omega⟩
    refine awp_exit ?_
    refine then_exit ?_
    refine then_exit ?_
    refine inBlock_hit ?_
    refine awp_seq ?_
    refine awp_reg ?_
    refine al_run 1 (sh := [9]) tyOk (by simp [go_sem] <;> rfl) ?_
    refine al_callW rfl rfl rfl (by simp [go_sem] <;> rfl) call48 (c_own_acc p (by omega) _ hgl) (by simp [go_sem] <;> rfl) (by simp [go_sem]) rfl rfl ?_
    rintro r σ' ⟨rfl, rfl⟩
    refine al_run 2 (sh := [9]) tyOk (by simp [go_sem] <;> rfl) ?_
    refine al_nil ?_
    refine awp_seq ?_
    refine awp_region_run (sh := []) tyOk (by simp [go_sem] <;> rfl) ?_
    refine awp_seq ?_
    refine awp_seq ?_
    refine awp_region_run (sh := []) tyOk (by simp [go_sem] <;> rfl) ?_
    refine awp_block ?_
    refine awp_loop_headK (σ.objs.length + 1) (σ.toks.length + 1) 3 [2, 4, 5, 9, 31, 32] (fun k : Nat => [(10, .pv (.bool (joinK p q.kids k).2)), (33, .pv (.int .i64 ↑k))]) (fun k => withJ σ 24 p ((joinK p q.kids k).1)) (fun k => k ≤ q.kids.length) (fun k => q.kids.length - k) 0 (Nat.zero_le _) ⟨by show withJ σ 24 p ((joinK p q.kids 0).1) = _; rw [joinK_zero]; simp [withJ, go_sem, List.take_of_length_le], rfl, by simp, by simp, by simp [go_sem, joinK_zero], fun ob h => withJ_mem h, by simp [go_sem]⟩ ?_
    intro k hk
    refine awp_seq ?_
    refine awp_region_run (sh := []) tyOk (by simp [go_sem] <;> rfl) ?_
    refine awp_seq ?_
    refine awp_cond (by first | rfl | (simp [go_sem] <;> rfl)) (fun h2 => ?_) (fun h2 => ?_)
    · have hlt : k < q.kids.length := by simp at h2; omega
      have hw : IntKind.i64.wrap (↑k + 1) = (k : Int) + 1 := wrap_succ (by omega)
      obtain ⟨x, hx, hxm⟩ := get_lt hlt
      have hxs := D.size_kid_lt hxm
      obtain ⟨x0, x1, x2, ns, hkk, _⟩ := Rq.def hxm
      have hx0 : x.kids[0]? = some x0 := by rw [hkk]; rfl
      have hx1 : x.kids[1]? = some x1 := by rw [hkk]; rfl
      have hxh := head_cons hkk
      have hxd : d1 x.kids = x1 := by rw [hkk]; rfl
      have hjl := joinK_len (p := p) hk
      have hbb : ((joinK p q.kids k).1.length + 1) * 56 ≤ 140737488355328 := by omega
      have hg := withJ_get (σ := σ) (e := 24) (p := p) (l := (joinK p q.kids k).1)
      have htk := withJ_tok (σ := σ) (e := 24) (p := p) (l := (joinK p q.kids k).1)
      refine awp_skip ?_
      refine awp_seq ?_
      refine awp_block ?_
      refine awp_seq ?_
      refine awp_region_run (sh := []) tyOk (by simp [go_sem, hx, hx0, hx1] <;> rfl) ?_
      refine awp_seq ?_
      refine awp_regDC tyOk tySz 11 (by kernel_rfl) (by decide) ?_
      refine ul_run 5 (by simp [go_sem, hx, hx0, hx1] <;> rfl) ?_
      refine ul_fn (by first | (intro _ _ hh; exact hh) | simp [go_sem]) rfl rfl rfl rfl (by simp [go_sem, hx, hx0, hx1] <;> rfl) call78 ((c_flat_find p x0 (by omega) (fun x hx => Rp.kids_ne hx)) _ (by exact hgl)) (by simp [go_sem, hx, hx0, hx1] <;> rfl) (by simp [go_sem, hx, hx0, hx1]) rfl rfl ?_
      refine ul_run 5 (by simp [go_sem, hx, hx0, hx1] <;> rfl) ?_
      refine ul_nil ?_
      refine al_run 1 (sh := []) tyOk (by simp [go_sem, hx, hx0, hx1] <;> rfl) ?_
      refine al_nil ?_
      refine awp_block ?_
      refine awp_seq ?_
      refine awp_region_run (sh := []) tyOk (by simp [go_sem, hx, hx0, hx1] <;> rfl) ?_
      refine awp_cond (by first | rfl | (simp [go_sem, hx, hx0, hx1] <;> rfl)) (fun h3 => ?_) (fun h3 => ?_)
      · have hfd : (findD p.kids x0).2 = false := by simpa using h3
        have hjj : (joinK p q.kids (k + 1)) = ((joinK p q.kids k).1 ++ [x], (joinK p q.kids k).2) := by rw [joinK_next hx]; exact joinStep_new (by rw [hxh]; exact hfd)
        refine awp_regDP tyOk tySz 5 (by kernel_rfl) (by decide) ?_
        refine ul_run 3 (by simp [go_sem, hx, hx0, hx1, hg, htk, hbb] <;> rfl) ?_
        refine ul_fn (by first | (intro _ _ hh; exact hh) | simp [go_sem]) rfl rfl rfl rfl (by simp [go_sem, hx, hx0, hx1, hg, htk, hbb] <;> rfl) call48 ((c_own x (by omega)) _ (by exact hgl)) (by simp [go_sem, hx, hx0, hx1, hg, htk, hbb] <;> rfl) (by simp [go_sem, hx, hx0, hx1, hg, htk, hbb]) rfl rfl ?_
        refine ul_run 1 (by simp [go_sem, hx, hx0, hx1, hg, htk, hbb] <;> rfl) ?_
        refine ul_nil ?_
        refine al_run 3 (sh := []) tyOk (by simp [go_sem, hx, hx0, hx1, hg, htk, hbb] <;> rfl) ?_
        refine al_nil ?_
        refine awp_region_run (sh := []) tyOk (by simp [go_sem, hx, hx0, hx1, hg, htk, hbb] <;> rfl) ?_
        exact next_intro (k + 1) (σ.objs.length + 1) (σ.toks.length + 1) 3 (hlt) (by omega) ⟨by show withJ σ 24 p ((joinK p q.kids (k + 1)).1) = Store.cut _ _ _; rw [hjj]; simp [withJ, go_sem, List.take_of_length_le], rfl, by simp, by simp, by simp [go_sem, hx, hx0, hx1, hg, htk, hbb, hw, hjj], fun ob h => withJ_mem h, by simp [go_sem]⟩
      · have hfd : (findD p.kids x0).2 = true := by simpa using h3
        obtain ⟨y0, y1, y2, ms, hyk, _⟩ := Rp.def (findD_mem hfd)
        have hy1 : (findD p.kids x0).1.kids[1]? = some y1 := by rw [hyk]; rfl
        have hyd : d1 (findD p.kids x0).1.kids = y1 := by rw [hyk]; rfl
        refine awp_seq ?_
        refine awp_regDP tyOk tySz 12 (by kernel_rfl) (by decide) ?_
        refine ul_run 12 (by simp [go_sem, hx, hx0, hx1, hy1] <;> rfl) ?_
        refine ul_nil ?_
        refine al_run 2 (sh := []) tyOk (by simp [go_sem, hx, hx0, hx1, hy1] <;> rfl) ?_
        refine al_nil ?_
        refine awp_cond (by first | rfl | (simp [go_sem, hx, hx0, hx1, hy1] <;> rfl)) (fun h4 => ?_) (fun h4 => ?_)
        · have hjj : (joinK p q.kids (k + 1)) = ((joinK p q.kids k).1, true) := by rw [joinK_next hx]; exact joinStep_apart (by rw [hxh]; exact hfd) (by rw [hxh, hyd, hxd]; exact h4)
          refine awp_region_run (sh := []) tyOk (by simp [go_sem, hx, hx0, hx1, hy1] <;> rfl) ?_
          refine awp_region_run (sh := []) tyOk (by simp [go_sem, hx, hx0, hx1, hy1] <;> rfl) ?_
          exact next_intro (k + 1) (σ.objs.length + 1) (σ.toks.length + 1) 3 (hlt) (by omega) ⟨by show withJ σ 24 p ((joinK p q.kids (k + 1)).1) = Store.cut _ _ _; rw [hjj]; simp [withJ, go_sem, List.take_of_length_le], rfl, by simp, by simp, by simp [go_sem, hx, hx0, hx1, hy1, hw, hjj], fun ob h => withJ_mem h, by simp [go_sem]⟩
        · have hjj : (joinK p q.kids (k + 1)) = (joinK p q.kids k) := by rw [joinK_next hx]; exact joinStep_same (by rw [hxh]; exact hfd) (by rw [hxh, hyd, hxd]; exact h4)
          refine awp_skip ?_
          refine awp_region_run (sh := []) tyOk (by simp [go_sem, hx, hx0, hx1, hy1] <;> rfl) ?_
          exact next_intro (k + 1) (σ.objs.length + 1) (σ.toks.length + 1) 3 (hlt) (by omega) ⟨by show withJ σ 24 p ((joinK p q.kids (k + 1)).1) = Store.cut _ _ _; rw [hjj]; simp [withJ, go_sem, List.take_of_length_le], rfl, by simp, by simp, by simp [go_sem, hx, hx0, hx1, hy1, hw, hjj], fun ob h => withJ_mem h, by simp [go_sem]⟩
    · have hke : k = q.kids.length := by simp at h2; omega
      subst hke
      have hja := joinK_all (p := p) (q := q)
      obtain ⟨z, hz⟩ : ∃ z, z = joinD p q := ⟨_, rfl⟩
      have hze : enc z = .agg [.int .i64 p.kind, .int .i64 p.num, .str p.text, .slice ((joinL p q).1.map enc)] := by rw [hz]; exact joinD_enc p q
      have hzs : z.size ≤ 1000000000 := by rw [hz]; have := joinD_size p q; omega
      have hgz := withJ_get (σ := σ) (e := 24) (p := p) (l := (joinL p q).1)
      refine awp_exit ?_
      refine then_exit ?_
      refine then_exit ?_
      refine inBlock_hit ?_
      refine awp_seq ?_
      refine awp_block ?_
      refine awp_seq ?_
      refine awp_reg ?_
      refine al_run 5 (sh := []) tyOk (by simp [go_sem, hja, hgz, hze] <;> rfl) ?_
      refine al_splitT 76 (by first | rfl | (simp [go_sem, hja, hgz, hze] <;> rfl)) (fun h5 => ?_) (fun h5 => ?_)
      · refine al_skip 3 76 false (by simp [go_sem]) (by simp [go_sem]) rfl rfl ?_
        refine al_run 2 (sh := []) tyOk (by simp [go_sem, hja, hgz, hze] <;> rfl) ?_
        refine al_nil ?_
        refine awp_cond (b := true) (by simp [go_sem, hja, hgz, hze, h5]) (fun h => ?_) (fun h => ?_)
        rotate_left
        · cases h
        refine awp_seq ?_
        refine awp_region_run (sh := []) tyOk (by simp [go_sem, hja, hgz, hze] <;> rfl) ?_
        refine awp_ret ?_
        refine inBlock_ret ?_
        refine then_ret ?_
        refine ends_ret (by simp [go_sem, hze, hgz] <;> rfl) (by simp [go_sem]) ?_
        have hs : fjoin p q = (dnone, 3) := by rw [fjoin_ok Rp.chk Rq.chk, ← hz]; simp only [Bool.not_true, hja, hgz, hze, h5, Bool.true_or, Bool.or_true, Bool.false_or, Bool.or_false, Bool.true_and, Bool.and_true, Bool.false_and, Bool.and_false, Bool.not_true, Bool.not_false, Bool.false_eq_true, if_true, if_false]
        exact ⟨by rw [hs]; simp [go_sem, hze, enc_none], withJ_cut0⟩
      · refine al_runG (sh := []) 1 76 false false tyOk (by simp [go_sem]) rfl (by simp [go_sem]) rfl rfl (by simp [go_sem, hja, hgz, hze] <;> rfl) ?_
        refine al_fnG 76 false false (by simp [go_sem]) rfl (by simp [go_sem]) rfl rfl (by simp [go_sem, hja, hgz, hze] <;> rfl) call72 ((c_datum_Check z hzs) _ (by exact hgl)) (by simp [go_sem, hja, hgz, hze] <;> rfl) (by simp [go_sem, hja, hgz, hze]) rfl rfl ?_
        refine al_runG (sh := []) 1 76 false false tyOk (by simp [go_sem]) rfl (by simp [go_sem]) rfl rfl (by simp [go_sem, hja, hgz, hze] <;> rfl) ?_
        refine al_run 2 (sh := []) tyOk (by simp [go_sem, hja, hgz, hze] <;> rfl) ?_
        refine al_nil ?_
        refine awp_cond (by first | rfl | (simp [go_sem, hja, hgz, hze] <;> rfl)) (fun h6 => ?_) (fun h6 => ?_)
        · refine awp_seq ?_
          refine awp_region_run (sh := []) tyOk (by simp [go_sem, hja, hgz, hze] <;> rfl) ?_
          refine awp_ret ?_
          refine inBlock_ret ?_
          refine then_ret ?_
          refine ends_ret (by simp [go_sem, hze, hgz] <;> rfl) (by simp [go_sem]) ?_
          have hs : fjoin p q = (dnone, 3) := by rw [fjoin_ok Rp.chk Rq.chk, ← hz]; simp only [Bool.not_true, hja, hgz, hze, h5, h6, Bool.true_or, Bool.or_true, Bool.false_or, Bool.or_false, Bool.true_and, Bool.and_true, Bool.false_and, Bool.and_false, Bool.not_true, Bool.not_false, Bool.false_eq_true, if_true, if_false]
          exact ⟨by rw [hs]; simp [go_sem, hze, enc_none], withJ_cut0⟩
        · refine awp_seq ?_
          refine awp_region_run (sh := []) tyOk (by simp [go_sem, hja, hgz, hze] <;> rfl) ?_
          refine awp_cond (by first | rfl | (simp [go_sem, hja, hgz, hze] <;> rfl)) (fun h7 => ?_) (fun h7 => ?_)
          · refine awp_seq ?_
            refine awp_region_run (sh := []) tyOk (by simp [go_sem, hja, hgz, hze] <;> rfl) ?_
            refine awp_ret ?_
            refine inBlock_ret ?_
            refine then_ret ?_
            refine ends_ret (by simp [go_sem, hze, hgz] <;> rfl) (by simp [go_sem]) ?_
            have hs : fjoin p q = (dnone, 11) := by rw [fjoin_ok Rp.chk Rq.chk, ← hz]; simp only [Bool.not_true, hja, hgz, hze, h5, h6, h7, Bool.true_or, Bool.or_true, Bool.false_or, Bool.or_false, Bool.true_and, Bool.and_true, Bool.false_and, Bool.and_false, Bool.not_true, Bool.not_false, Bool.false_eq_true, if_true, if_false]
            exact ⟨by rw [hs]; simp [go_sem, hze, enc_none], withJ_cut0⟩
          · refine awp_skip ?_
            refine awp_seq ?_
            refine awp_region_run (sh := []) tyOk (by simp [go_sem, hja, hgz, hze] <;> rfl) ?_
            refine awp_ret ?_
            refine ends_ret (by simp [go_sem, hze, hgz] <;> rfl) (by simp [go_sem]) ?_
            have hs : fjoin p q = (z, 0) := by rw [fjoin_ok Rp.chk Rq.chk, ← hz]; simp only [Bool.not_true, hja, hgz, hze, h5, h6, h7, Bool.true_or, Bool.or_true, Bool.false_or, Bool.or_false, Bool.true_and, Bool.and_true, Bool.false_and, Bool.and_false, Bool.not_true, Bool.not_false, Bool.false_eq_true, if_true, if_false]
            exact ⟨by rw [hs]; simp [go_sem, hze, enc_none], withJ_cut0⟩

end Go.Proofs.YtienmmfjjffjaaaGreatDoor

/- The specification: Same, Cut. -/
namespace Go.Proofs.YtienmmfjjffjaaaGreatDoor
open Go Go.Aw
variable {kr : ResO}
set_option maxHeartbeats 1000000 in
theorem c_cut (d : D) : ∀ (oc lf : Nat) (dp : Int) (σ : Store), σ.gl = (GL kr) → σ.objs[oc]? = some (.box [.pv (.int .i64 lf)]) → 0 < lf → lf ≤ 3000 → 1 ≤ dp → dp ≤ 2000 → ACalls Tryz.prog 79 [.ptr oc 0, .pv (enc d), .pv (.int .i64 dp)] σ (CutR oc lf σ) := by
  induction d using D.ind with
  | _ kind num text kids ih =>
  generalize hD : D.mk kind num text kids = d at *
  have hk : d.kids = kids := by rw [← hD]; rfl
  clear hD
  subst hk
  intro oc lf dp σ hgl hoc hlf0 hlf hdp hdp2
  have hol := (List.getElem?_eq_some_iff.1 hoc).1
  obtain ⟨tx, htx⟩ : ∃ tx : ByteArray, tx = d.text.extract 0 (if (42 : Int) < d.text.size then (42 : Int) else d.text.size).toNat := ⟨_, rfl⟩
  have hm1 : (0 : Int) ≤ (if (42 : Int) < d.text.size then (42 : Int) else d.text.size) := by split <;> omega
  have hm2 : (if (42 : Int) < d.text.size then (42 : Int) else d.text.size) ≤ d.text.size := by split <;> omega
  have hw1 : IntKind.i64.wrap ((lf : Int) - 1) = ((lf - 1 : Nat) : Int) := by rw [wrap_id (by omega) (by omega)]; omega
  refine cut_less (k := d.kind) (n := d.num) (tx := tx) ?_
  refine acalls_of tyOk Tryz.func79 rfl (by simp [Tryz.f79]) ?_
  refine awp_seq ?_
  refine awp_region_run (sh := []) tyOk (by simp [go_sem, hoc, hm1, hm2, hw1] <;> rfl) ?_
  refine awp_seq ?_
  refine awp_region_run (sh := []) tyOk (by simp [go_sem, hoc, hm1, hm2, hw1] <;> rfl) ?_
  refine awp_seq ?_
  refine awp_regDP tyOk tySz 13 (by kernel_rfl) (by decide) ?_
  refine ul_run 13 (by simp [go_sem, hoc, hm1, hm2, hw1] <;> rfl) ?_
  refine ul_nil ?_
  refine al_run 1 (sh := []) tyOk (by simp [go_sem, hoc, hm1, hm2, hw1] <;> rfl) ?_
  refine al_nil ?_
  refine awp_seq ?_
  refine awp_seq ?_
  refine awp_region_run (sh := []) tyOk (by simp [go_sem, hoc, hm1, hm2, hw1] <;> rfl) ?_
  refine awp_adoptL' 2 3 24 4 (by simp [go_sem] <;> rfl) ?_
  refine awp_block ?_
  refine awp_loop_headKL σ.objs.length (σ.toks.length + 1) 3 [0, 2, 4, 6, 7] (fun i : List D × Nat => [(8, .pv (.int .i64 ↑i.1.length))]) (fun i : List D × Nat => [[.pv (.int .i64 d.kind), .pv (.int .i64 d.num), .pv (.str d.text), .pv (.slice (d.kids.map enc))], [.pv (.int .i64 0), .pv (.int .i64 0), .pv (.str ⟨#[]⟩), .pv .nils], [.pv (.int .i64 d.kind), .pv (.int .i64 d.num), .pv (.str tx), .acc (i.1.map enc) σ.toks.length]]) (fun i => { setC σ oc (i.2 : Int) with toks := σ.toks ++ [⟨i.1.length, 24, 4⟩] }) (fun i => D.sizes i.1 + i.2 + 1 ≤ lf ∧ i.1.length ≤ d.kids.length) (fun i => d.kids.length - i.1.length) ([], lf - 1) (⟨by simp [D.sizes]; omega, Nat.zero_le _⟩) ⟨by show ({ setC σ oc _ with toks := _ } : Store) = _; simp [setC, go_sem, List.take_of_length_le], by simp [go_sem, hoc, hm1, hm2, hw1, htx, hol], by simp, by simp, by simp [go_sem, hoc, hm1, hm2, hw1, htx, hol], fun ob h => setC_mem h _ _ _, by simp [go_sem]⟩ ?_
  rintro i ⟨hsz, hil⟩
  have hgc := setC_get (v := (i.2 : Int)) hoc
  have hll := D.length_le_sizes i.1
  refine awp_seq ?_
  refine awp_seq ?_
  refine awp_reg ?_
  refine al_run 6 (sh := []) tyOk (by simp [go_sem, hoc, hm1, hm2, hw1, hgc] <;> rfl) ?_
  refine al_splitT 33 (by first | rfl | (simp [go_sem, hoc, hm1, hm2, hw1, hgc] <;> rfl)) (fun h0 => ?_) (fun h0 => ?_)
  · refine al_runG (sh := []) 2 33 true true tyOk (by simp [go_sem]) rfl (by simp [go_sem]) rfl rfl (by simp [go_sem, hoc, hm1, hm2, hw1, hgc] <;> rfl) ?_
    refine al_run 2 (sh := []) tyOk (by simp [go_sem, hoc, hm1, hm2, hw1, hgc] <;> rfl) ?_
    refine al_splitT 37 (by first | rfl | (simp [go_sem, hoc, hm1, hm2, hw1, hgc] <;> rfl)) (fun h1 => ?_) (fun h1 => ?_)
    · refine al_runG (sh := []) 5 37 true true tyOk (by simp [go_sem]) rfl (by simp [go_sem]) rfl rfl (by simp [go_sem, hoc, hm1, hm2, hw1, hgc] <;> rfl) ?_
      refine al_run 1 (sh := []) tyOk (by simp [go_sem, hoc, hm1, hm2, hw1, hgc] <;> rfl) ?_
      refine al_nil ?_
      refine awp_cond (by first | rfl | (simp [go_sem, hoc, hm1, hm2, hw1, hgc] <;> rfl)) (fun h2 => ?_) (fun h2 => ?_)
      · have hlt : i.1.length < d.kids.length := by simpa using h0
        have hlv : 0 < i.2 := by have := h2; simp at this; omega
        have hd1 : (1 : Int) < dp := by have := h1; simp at this; omega
        obtain ⟨x, hx, hxm⟩ := get_lt hlt
        have hwd : IntKind.i64.wrap (dp - 1) = dp - 1 := wrap_id (by omega) (by omega)
        have hbb : (i.1.length + 1) * 56 ≤ 140737488355328 := by omega
        have hw : IntKind.i64.wrap ((i.1.length : Int) + 1) = (i.1.length : Int) + 1 := wrap_succ (by omega)
        refine awp_skip ?_
        refine awp_seq ?_
        refine awp_block ?_
        refine awp_regDC tyOk tySz 12 (by kernel_rfl) (by decide) ?_
        refine ul_run 10 (by simp [go_sem, hoc, hm1, hm2, hw1, hgc, hx, hwd, hbb, setC_with, setC_toks] <;> rfl) ?_
        refine ul_callW (by simp [go_sem]) rfl rfl rfl rfl (by simp [go_sem, hoc, hm1, hm2, hw1, hgc, hx, hwd, hbb, setC_with, setC_toks] <;> rfl) call79 (ih x hxm oc i.2 (dp - 1) _ (by exact hgl) (setC_get hoc) hlv (by omega) (by omega) (by omega)) (by simp [go_sem, hoc, hm1, hm2, hw1, hgc, hx, hwd, hbb, setC_with, setC_toks] <;> rfl) (by simp [go_sem, hoc, hm1, hm2, hw1, hgc, hx, hwd, hbb, setC_with, setC_toks]) rfl rfl (cutR_some hlv) ?_
        rintro r σ' ⟨d', lv', rfl, rfl, hsz'⟩
        refine ul_run 1 (by simp [go_sem, hoc, hm1, hm2, hw1, hgc, hx, hwd, hbb, setC_with, setC_toks] <;> rfl) ?_
        refine ul_nil ?_
        refine al_run 3 (sh := []) tyOk (by simp [go_sem, hoc, hm1, hm2, hw1, hgc, hx, hwd, hbb, setC_with, setC_toks] <;> rfl) ?_
        refine al_nil ?_
        refine awp_region_run (sh := []) tyOk (by simp [go_sem, hoc, hm1, hm2, hw1, hgc, hx, hwd, hbb, setC_with, setC_toks] <;> rfl) ?_
        exact next_intro ((i.1 ++ [d'], lv')) σ.objs.length (σ.toks.length + 1) 3 (⟨by simp [sizes_append, D.sizes]; omega, by simp; omega⟩) (by simp; omega) ⟨by show ({ setC σ oc _ with toks := _ } : Store) = _; simp [setC, go_sem, List.take_of_length_le], by simp [go_sem, hoc, hm1, hm2, hw1, hgc, hx, hwd, hbb, setC_with, setC_toks, hw, hol], by simp, by simp, by simp [go_sem, hoc, hm1, hm2, hw1, hgc, hx, hwd, hbb, setC_with, setC_toks, hw, hol], fun ob h => setC_mem h _ _ _, by simp [go_sem]⟩
      · refine awp_exit ?_
        refine then_exit ?_
        refine then_exit ?_
        refine inBlock_hit ?_
        refine awp_seq ?_
        refine awp_region_run (sh := []) tyOk (by simp [go_sem, hoc, hm1, hm2, hw1, hgc] <;> rfl) ?_
        refine awp_ret ?_
        refine ends_ret (by simp [go_sem] <;> rfl) (by simp [go_sem]) ?_
        exact ⟨i.1, i.2, by simp [go_sem, enc_mk], by simp [setC, go_sem, List.take_of_length_le], by omega⟩
    · refine al_skip 5 37 true (by simp [go_sem]) (by simp [go_sem]) rfl rfl ?_
      refine al_run 1 (sh := []) tyOk (by simp [go_sem, hoc, hm1, hm2, hw1, hgc] <;> rfl) ?_
      refine al_nil ?_
      refine awp_cond (b := false) (by simp [go_sem, hoc, hm1, hm2, hw1, hgc, h0, h1]) (fun h => ?_) (fun h => ?_)
      · cases h
      refine awp_exit ?_
      refine then_exit ?_
      refine then_exit ?_
      refine inBlock_hit ?_
      refine awp_seq ?_
      refine awp_region_run (sh := []) tyOk (by simp [go_sem, hoc, hm1, hm2, hw1, hgc] <;> rfl) ?_
      refine awp_ret ?_
      refine ends_ret (by simp [go_sem] <;> rfl) (by simp [go_sem]) ?_
      exact ⟨i.1, i.2, by simp [go_sem, enc_mk], by simp [setC, go_sem, List.take_of_length_le], by omega⟩
  · refine al_skip 2 33 true (by simp [go_sem]) (by simp [go_sem]) rfl rfl ?_
    refine al_run 2 (sh := []) tyOk (by simp [go_sem, hoc, hm1, hm2, hw1, hgc] <;> rfl) ?_
    refine al_skip 5 37 true (by simp [go_sem]) (by simp [go_sem]) rfl rfl ?_
    refine al_run 1 (sh := []) tyOk (by simp [go_sem, hoc, hm1, hm2, hw1, hgc] <;> rfl) ?_
    refine al_nil ?_
    refine awp_cond (b := false) (by simp [go_sem, hoc, hm1, hm2, hw1, hgc, h0]) (fun h => ?_) (fun h => ?_)
    · cases h
    refine awp_exit ?_
    refine then_exit ?_
    refine then_exit ?_
    refine inBlock_hit ?_
    refine awp_seq ?_
    refine awp_region_run (sh := []) tyOk (by simp [go_sem, hoc, hm1, hm2, hw1, hgc] <;> rfl) ?_
    refine awp_ret ?_
    refine ends_ret (by simp [go_sem] <;> rfl) (by simp [go_sem]) ?_
    exact ⟨i.1, i.2, by simp [go_sem, enc_mk], by simp [setC, go_sem, List.take_of_length_le], by omega⟩

set_option maxHeartbeats 1000000 in
theorem c_Cut (d : D) (σ : Store) (hgl : σ.gl = (GL kr)) : ACalls Tryz.prog 35 [.pv (enc d), .pv (.int .i64 3000), .pv (.int .i64 1005)] σ (fun r σ' => ∃ d' : D, r = .pv (enc d') ∧ σ' = σ ∧ d'.size ≤ 3000) := by
  refine ACalls.less (R := fun r σ' => ∃ d' : D, WVt σ.objs.length σ.toks.length 0 r (.pv (enc d')) ∧ σ'.cut σ.objs.length σ.toks.length = σ ∧ d'.size ≤ 3000) ?_ (fun r σ' ⟨d', h1, h2, h3⟩ => ⟨_, _, _, h1, Nat.le_refl _, Nat.le_refl _, fun ob hob => .inl (by rw [← h2]; exact hob), ⟨d', rfl, h2, h3⟩⟩)
  refine acalls_of tyOk Tryz.func35 rfl (by simp [Tryz.f35]) ?_
  refine awp_seq ?_
  refine awp_region_run (sh := []) tyOk (by simp [go_sem] <;> rfl) ?_
  refine awp_seq ?_
  refine awp_region_run (sh := [10]) tyOk (by simp [go_sem] <;> rfl) ?_
  refine awp_seq ?_
  refine awp_reg ?_
  refine al_run 3 (sh := []) tyOk (by simp [go_sem] <;> rfl) ?_
  refine al_callW rfl rfl rfl (by simp [go_sem] <;> rfl) call79 (c_cut d σ.objs.length 3000 1005 _ (by exact hgl) (by simp [go_sem]) (by decide) (by decide) (by decide) (by decide)) (by simp [go_sem] <;> rfl) (by simp [go_sem]) rfl rfl ?_
  rintro r σ' ⟨d', lv', rfl, rfl, hsz'⟩
  refine al_run 1 (sh := []) tyOk (by simp [go_sem] <;> rfl) ?_
  refine al_nil ?_
  refine awp_ret ?_
  refine ends_ret (by simp [go_sem] <;> rfl) (by simp [go_sem]) ?_
  exact ⟨d', by simp [go_sem], by simp [setC, go_sem], by omega⟩

set_option maxHeartbeats 1000000 in
theorem c_Cut17 (d : D) (σ : Store) (hgl : σ.gl = (GL kr)) : ACalls Tryz.prog 9 [.pv (enc d)] σ (fun r σ' => ∃ d' : D, r = .pv (enc d') ∧ σ' = σ ∧ d'.size ≤ 3000) := by
  refine ACalls.less (R := fun r σ' => ∃ d' : D, WVt σ.objs.length σ.toks.length 0 r (.pv (enc d')) ∧ σ'.cut σ.objs.length σ.toks.length = σ ∧ d'.size ≤ 3000) ?_ (fun r σ' ⟨d', h1, h2, h3⟩ => ⟨_, _, _, h1, Nat.le_refl _, Nat.le_refl _, fun ob hob => .inl (by rw [← h2]; exact hob), ⟨d', rfl, h2, h3⟩⟩)
  refine acalls_of tyOk Tryz.func9 rfl (by simp [Tryz.f9]) ?_
  refine awp_seq ?_
  refine awp_region_run (sh := []) tyOk (by simp [go_sem] <;> rfl) ?_
  refine awp_seq ?_
  refine awp_reg ?_
  refine al_run 1 (sh := []) tyOk (by simp [go_sem] <;> rfl) ?_
  refine al_callW rfl rfl rfl (by simp [go_sem] <;> rfl) call35 (c_Cut d σ hgl) (by simp [go_sem] <;> rfl) (by simp [go_sem]) rfl rfl ?_
  rintro r σ' ⟨d', rfl, rfl, hsz'⟩
  refine al_run 1 (sh := []) tyOk (by simp [go_sem] <;> rfl) ?_
  refine al_nil ?_
  refine awp_ret ?_
  refine ends_ret (by simp [go_sem] <;> rfl) (by simp [go_sem]) ?_
  exact ⟨d', by simp [go_sem], by simp [go_sem], hsz'⟩

set_option maxHeartbeats 1000000 in
theorem c_Same (d : D) (hd : d.size ≤ 1000000000) : ∀ e : D, Pur Tryz.prog (GL kr) 15 [.pv (enc d), .pv (enc e)] (.pv (.bool (deq d e))) := by
  induction d using D.ind with
  | _ kind num text kids ih =>
  generalize hD : D.mk kind num text kids = d at *
  have hk : d.kids = kids := by rw [← hD]; rfl
  clear hD
  subst hk
  have hkl := D.kids_length_lt d
  intro e
  refine pur_of fun σ hgl => ?_
  refine acalls_of tyOk Tryz.func15 rfl (by simp [Tryz.f15]) ?_
  refine awp_seq ?_
  refine awp_region_run (sh := []) tyOk (by simp [go_sem] <;> rfl) ?_
  refine awp_seq ?_
  refine awp_seq ?_
  refine awp_reg ?_
  refine al_run 6 (sh := []) tyOk (by simp [go_sem] <;> rfl) ?_
  refine al_splitT 11 (by first | rfl | (simp [go_sem] <;> rfl)) (fun h0 => ?_) (fun h0 => ?_)
  · refine al_skip 5 11 false (by simp [go_sem]) (by simp [go_sem]) rfl rfl ?_
    refine al_run 2 (sh := []) tyOk (by simp [go_sem] <;> rfl) ?_
    refine al_skip 5 18 false (by simp [go_sem]) (by simp [go_sem]) rfl rfl ?_
    refine al_run 2 (sh := []) tyOk (by simp [go_sem] <;> rfl) ?_
    refine al_skip 7 25 false (by simp [go_sem]) (by simp [go_sem]) rfl rfl ?_
    refine al_run 1 (sh := []) tyOk (by simp [go_sem] <;> rfl) ?_
    refine al_nil ?_
    refine awp_cond (b := true) (by simp [go_sem, h0]) (fun h => ?_) (fun h => ?_)
    rotate_left
    · cases h
    refine awp_seq ?_
    refine awp_region_run (sh := []) tyOk (by simp [go_sem] <;> rfl) ?_
    refine awp_ret ?_
    refine then_ret ?_
    refine ends_ret (by simp [go_sem] <;> rfl) (by simp [go_sem]) ?_
    have hs : deq d e = false := by
      cases hq : deq d e with
      | false => rfl
      | true => have := deq_of hq; subst this; simp at h0
    exact ⟨by simp [go_sem, hs], by simp [go_sem]⟩
  · refine al_runG (sh := []) 5 11 false false tyOk (by simp [go_sem]) rfl (by simp [go_sem]) rfl rfl (by simp [go_sem] <;> rfl) ?_
    refine al_run 2 (sh := []) tyOk (by simp [go_sem] <;> rfl) ?_
    refine al_splitT 18 (by first | rfl | (simp [go_sem] <;> rfl)) (fun h1 => ?_) (fun h1 => ?_)
    · refine al_skip 5 18 false (by simp [go_sem]) (by simp [go_sem]) rfl rfl ?_
      refine al_run 2 (sh := []) tyOk (by simp [go_sem] <;> rfl) ?_
      refine al_skip 7 25 false (by simp [go_sem]) (by simp [go_sem]) rfl rfl ?_
      refine al_run 1 (sh := []) tyOk (by simp [go_sem] <;> rfl) ?_
      refine al_nil ?_
      refine awp_cond (b := true) (by simp [go_sem, h0, h1]) (fun h => ?_) (fun h => ?_)
      rotate_left
      · cases h
      refine awp_seq ?_
      refine awp_region_run (sh := []) tyOk (by simp [go_sem] <;> rfl) ?_
      refine awp_ret ?_
      refine then_ret ?_
      refine ends_ret (by simp [go_sem] <;> rfl) (by simp [go_sem]) ?_
      have hs : deq d e = false := by
        cases hq : deq d e with
        | false => rfl
        | true => have := deq_of hq; subst this; simp at h1
      exact ⟨by simp [go_sem, hs], by simp [go_sem]⟩
    · refine al_runG (sh := []) 5 18 false false tyOk (by simp [go_sem]) rfl (by simp [go_sem]) rfl rfl (by simp [go_sem] <;> rfl) ?_
      refine al_run 2 (sh := []) tyOk (by simp [go_sem] <;> rfl) ?_
      refine al_splitT 25 (by first | rfl | (simp [go_sem] <;> rfl)) (fun h2 => ?_) (fun h2 => ?_)
      · refine al_skip 7 25 false (by simp [go_sem]) (by simp [go_sem]) rfl rfl ?_
        refine al_run 1 (sh := []) tyOk (by simp [go_sem] <;> rfl) ?_
        refine al_nil ?_
        refine awp_cond (b := true) (by simp [go_sem, h0, h1, h2]) (fun h => ?_) (fun h => ?_)
        rotate_left
        · cases h
        refine awp_seq ?_
        refine awp_region_run (sh := []) tyOk (by simp [go_sem] <;> rfl) ?_
        refine awp_ret ?_
        refine then_ret ?_
        refine ends_ret (by simp [go_sem] <;> rfl) (by simp [go_sem]) ?_
        have hs : deq d e = false := by
          cases hq : deq d e with
          | false => rfl
          | true => have := deq_of hq; subst this; simp at h2
        exact ⟨by simp [go_sem, hs], by simp [go_sem]⟩
      · refine al_runG (sh := []) 7 25 false false tyOk (by simp [go_sem]) rfl (by simp [go_sem]) rfl rfl (by simp [go_sem] <;> rfl) ?_
        refine al_run 1 (sh := []) tyOk (by simp [go_sem] <;> rfl) ?_
        refine al_nil ?_
        refine awp_cond (by first | rfl | (simp [go_sem] <;> rfl)) (fun h3 => ?_) (fun h3 => ?_)
        · refine awp_seq ?_
          refine awp_region_run (sh := []) tyOk (by simp [go_sem] <;> rfl) ?_
          refine awp_ret ?_
          refine then_ret ?_
          refine ends_ret (by simp [go_sem] <;> rfl) (by simp [go_sem]) ?_
          have hs : deq d e = false := by
            cases hq : deq d e with
            | false => rfl
            | true => have := deq_of hq; subst this; simp at h3
          exact ⟨by simp [go_sem, hs], by simp [go_sem]⟩
        · have hlen : d.kids.length = e.kids.length := by have := h3; simp only [bne_eq_false_iff_eq] at this; omega
          have hzl : (d.kids.zip e.kids).length = d.kids.length := by simp; omega
          refine awp_skip ?_
          refine awp_seq ?_
          refine awp_seq ?_
          refine awp_region_run (sh := []) tyOk (by simp [go_sem] <;> rfl) ?_
          refine awp_block ?_
          refine awp_loop_headK σ.objs.length σ.toks.length 2 [2, 3, 4] (fun k : Nat => [(5, .pv (.int .i64 ↑k))]) (fun k => σ) (fun k => k ≤ d.kids.length ∧ NotYet (fun x => !deq x.1 x.2) (d.kids.zip e.kids) k) (fun k => d.kids.length - k) 0 (⟨Nat.zero_le _, .zero⟩) ⟨by simp [go_sem], rfl, by simp, by simp, by simp [go_sem], fun ob h => .inl (by simpa [go_sem] using h), by simp [go_sem]⟩ ?_
          rintro k ⟨hk, hn⟩
          refine awp_seq ?_
          refine awp_seq ?_
          refine awp_region_run (sh := []) tyOk (by simp [go_sem] <;> rfl) ?_
          refine awp_cond (by first | rfl | (simp [go_sem] <;> rfl)) (fun h4 => ?_) (fun h4 => ?_)
          · have hlt : k < d.kids.length := by simp at h4; omega
            have hw : IntKind.i64.wrap (↑k + 1) = (k : Int) + 1 := wrap_succ (by omega)
            obtain ⟨x, hx, hxm⟩ := get_lt hlt
            obtain ⟨y, hy, hym⟩ := get_lt (l := e.kids) (k := k) (by omega)
            refine awp_skip ?_
            refine awp_seq ?_
            refine awp_block ?_
            refine awp_seq ?_
            refine awp_regDP tyOk tySz 10 (by kernel_rfl) (by decide) ?_
            refine ul_run 10 (by simp [go_sem, hx, hy] <;> rfl) ?_
            refine ul_nil ?_
            refine al_fn rfl rfl rfl (by simp [go_sem, hx, hy] <;> rfl) call15 ((ih x hxm (by have := D.size_kid_lt hxm; omega) y) _ (by exact hgl)) (by simp [go_sem, hx, hy] <;> rfl) (by simp [go_sem, hx, hy]) rfl rfl ?_
            refine al_run 1 (sh := []) tyOk (by simp [go_sem, hx, hy] <;> rfl) ?_
            refine al_nil ?_
            refine awp_cond (by first | rfl | (simp [go_sem, hx, hy] <;> rfl)) (fun h5 => ?_) (fun h5 => ?_)
            · refine awp_seq ?_
              refine awp_region_run (sh := []) tyOk (by simp [go_sem, hx, hy] <;> rfl) ?_
              refine awp_ret ?_
              refine inBlock_ret ?_
              refine then_ret ?_
              refine then_ret ?_
              refine inBlock_ret ?_
              refine then_ret ?_
              refine ends_ret (by simp [go_sem] <;> rfl) (by simp [go_sem]) ?_
              have hall : (d.kids.zip e.kids).all (fun x => deq x.1 x.2) = false := by rw [List.all_eq_false]; exact ⟨(x, y), List.mem_of_getElem? (zip_get hx hy), by simpa using h5⟩
              have hs : deq d e = false := by rw [deq_eq]; unfold eqf; rw [hall]; simp
              exact ⟨by simp [go_sem, hs], by simp [go_sem]⟩
            · refine awp_skip ?_
              refine awp_region_run (sh := []) tyOk (by simp [go_sem, hx, hy] <;> rfl) ?_
              exact next_intro (k + 1) σ.objs.length σ.toks.length 2 (⟨hlt, hn.succ (zip_get hx hy) (by simpa using h5)⟩) (by omega) ⟨by simp [go_sem, hx, hy, hw], rfl, by simp, by simp, by simp [go_sem, hx, hy, hw], fun ob h => .inl (by simpa [go_sem, hx, hy, hw] using h), by simp [go_sem]⟩
          · have hke : k = d.kids.length := by simp at h4; omega
            subst hke
            have hall : (d.kids.zip e.kids).all (fun x => deq x.1 x.2) = true := by have := (hzl ▸ hn : NotYet _ (d.kids.zip e.kids) (d.kids.zip e.kids).length).all; rw [List.all_eq_true]; intro z hz; simpa using this z hz
            refine awp_exit ?_
            refine then_exit ?_
            refine then_exit ?_
            refine inBlock_hit ?_
            refine awp_seq ?_
            refine awp_region_run (sh := []) tyOk (by simp [go_sem] <;> rfl) ?_
            refine awp_ret ?_
            refine ends_ret (by simp [go_sem] <;> rfl) (by simp [go_sem]) ?_
            have hs : deq d e = true := by
              have e0 : d.kind = e.kind := by simpa using h0
              have e1 : d.num = e.num := by simpa using h1
              have e2 : d.text = e.text := by simpa using h2
              rw [deq_eq]; unfold eqf; rw [hall]; simp [e0, e1, e2, hlen]
            exact ⟨by simp [go_sem, hs], by simp [go_sem]⟩

end Go.Proofs.YtienmmfjjffjaaaGreatDoor
