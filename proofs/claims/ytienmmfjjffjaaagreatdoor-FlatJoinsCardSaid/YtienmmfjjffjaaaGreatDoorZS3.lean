/- Part of the proof that the statement holds for every input that its row lets in: the contracts of the program's functions, printed by a program out of annotations; the statement itself stands at the end of the last part. -/
import Derived.Test.YtienmmfjjffjaaaGreatDoorZS2
import Derived.Test.YtienmmfjjffjaaaGreatDoorZA3
set_option linter.unusedSimpArgs false
set_option linter.unusedVariables false
/- The specification: contracts of small functions. -/
namespace Go.Proofs.YtienmmfjjffjaaaGreatDoor
open Go Go.Aw
variable {kr : ResO}
def ren173 : Go.Shelf.Ren := ⟨fun x => match x with | 173 => 84 | 246 => 116 | 283 => 133 | 284 => 134 | 285 => 135 | 286 => 136 | 129 => 144 | 317 => 143 | 318 => 145 | 319 => 146 | 320 => 147 | 337 => 150 | 338 => 151 | n => n, fun x => match x with | 2 => 2 | 3 => 3 | 9 => 9 | 4 => 4 | 171 => 139 | 0 => 0 | 53 => 140 | 37 => 143 | 5 => 5 | 173 => 144 | 212 => 154 | 51 => 155 | 20 => 20 | 213 => 156 | 46 => 158 | 232 => 165 | 233 => 166 | n => n, fun x => match x with | 17 => 2 | 18 => 3 | 19 => 4 | n => n⟩
theorem lays173 : Go.Proofs.LaysM.n173 Tryz.prog ren173 :=
  {
    mixed := by kernel_rfl,
    f129 := Eq.trans Tryz.func144 (congrArg some (by kernel_rfl)),
    f173 := Eq.trans Tryz.func84 (congrArg some (by kernel_rfl)),
    f246 := Eq.trans Tryz.func116 (congrArg some (by kernel_rfl)),
    f283 := Eq.trans Tryz.func133 (congrArg some (by kernel_rfl)),
    f284 := Eq.trans Tryz.func134 (congrArg some (by kernel_rfl)),
    f285 := Eq.trans Tryz.func135 (congrArg some (by kernel_rfl)),
    f286 := Eq.trans Tryz.func136 (congrArg some (by kernel_rfl)),
    f317 := Eq.trans Tryz.func143 (congrArg some (by kernel_rfl)),
    f318 := Eq.trans Tryz.func145 (congrArg some (by kernel_rfl)),
    f319 := Eq.trans Tryz.func146 (congrArg some (by kernel_rfl)),
    f320 := Eq.trans Tryz.func147 (congrArg some (by kernel_rfl)),
    f337 := Eq.trans Tryz.func150 (congrArg some (by kernel_rfl)),
    f338 := Eq.trans Tryz.func151 (congrArg some (by kernel_rfl)),
    t0 := Tryz.underlying0,
    a0 := Tryz.isAgg0,
    z0 := Tryz.sizeOf0,
    v0 := Tryz.zeroValue0,
    t2 := Tryz.underlying2,
    a2 := Tryz.isAgg2,
    z2 := Tryz.sizeOf2,
    v2 := Tryz.zeroValue2,
    t3 := Tryz.underlying3,
    a3 := Tryz.isAgg3,
    z3 := Tryz.sizeOf3,
    v3 := Tryz.zeroValue3,
    t4 := Tryz.underlying4,
    a4 := Tryz.isAgg4,
    z4 := Tryz.sizeOf4,
    v4 := Tryz.zeroValue4,
    t5 := Tryz.underlying5,
    a5 := Tryz.isAgg5,
    z5 := Tryz.sizeOf5,
    v5 := Tryz.zeroValue5,
    t9 := Tryz.underlying9,
    a9 := Tryz.isAgg9,
    z9 := Tryz.sizeOf9,
    v9 := Tryz.zeroValue9,
    t20 := Tryz.underlying20,
    a20 := Tryz.isAgg20,
    z20 := Tryz.sizeOf20,
    v20 := Tryz.zeroValue20,
    t37 := Tryz.underlying143,
    a37 := Tryz.isAgg143,
    z37 := Tryz.sizeOf143,
    v37 := Tryz.zeroValue143,
    t46 := Tryz.underlying158,
    a46 := Tryz.isAgg158,
    z46 := Tryz.sizeOf158,
    v46 := Tryz.zeroValue158,
    t51 := Tryz.underlying155,
    a51 := Tryz.isAgg155,
    z51 := Tryz.sizeOf155,
    v51 := Tryz.zeroValue155,
    t53 := Tryz.underlying140,
    a53 := Tryz.isAgg140,
    z53 := Tryz.sizeOf140,
    v53 := Tryz.zeroValue140,
    t171 := Tryz.underlying139,
    a171 := Tryz.isAgg139,
    z171 := Tryz.sizeOf139,
    v171 := Tryz.zeroValue139,
    t173 := Tryz.underlying144,
    a173 := Tryz.isAgg144,
    z173 := Tryz.sizeOf144,
    v173 := Tryz.zeroValue144,
    t212 := Tryz.underlying154,
    a212 := Tryz.isAgg154,
    z212 := Tryz.sizeOf154,
    v212 := Tryz.zeroValue154,
    t213 := Tryz.underlying156,
    a213 := Tryz.isAgg156,
    z213 := Tryz.sizeOf156,
    t232 := Tryz.underlying165,
    a232 := Tryz.isAgg165,
    z232 := Tryz.sizeOf165,
    v232 := Tryz.zeroValue165,
    t233 := Tryz.underlying166,
    a233 := Tryz.isAgg166,
    z233 := Tryz.sizeOf166,
    v233 := Tryz.zeroValue166,
    g17 := by kernel_rfl,
    g18 := by kernel_rfl,
    g19 := by kernel_rfl,
    i0 := by kernel_rfl,
    i2 := by kernel_rfl,
    i3 := by kernel_rfl,
    i4 := by kernel_rfl,
    i5 := by kernel_rfl,
    i9 := by kernel_rfl,
    i20 := by kernel_rfl,
    i37 := by kernel_rfl,
    i46 := by kernel_rfl,
    i51 := by kernel_rfl,
    i53 := by kernel_rfl,
    i171 := by kernel_rfl,
    i173 := by kernel_rfl,
    i212 := by kernel_rfl,
    i232 := by kernel_rfl,
    i233 := by kernel_rfl,
    m17 := by kernel_rfl,
    m18 := by kernel_rfl,
    m19 := by kernel_rfl }
theorem gPow : Tryz.prog.globalNamed "internal/strconv.uint64pow10" = some 2 := by kernel_rfl
theorem c_FormatInt (n : Int) (h0 : -9223372036854775808 ≤ n) (h1 : n ≤ 9223372036854775807) : Pur Tryz.prog (GL kr) 84 [.pv (.int .i64 n), .pv (.int .i64 10)] (.pv (.str (itoaB n))) :=
  pur_of_callsT (ps := [.int .i64 n, .int .i64 10]) [.int .i64, .int .i64] rfl .str rfl gPow (by simp [GL]) fun w ht => Go.Proofs.Any.strconv_FormatInt_10 lays173 n h0 h1 w ht
set_option maxHeartbeats 1000000 in
theorem c_words  : Pur Tryz.prog (GL kr) 142 [] (.pv (.slice (words7.map .str))) := by
  refine pur_of fun σ hgl => ?_
  refine acalls_of tyOk Tryz.func142 rfl (by simp [Tryz.f142]) ?_
  refine awp_seq ?_
  refine awp_region_run (sh := []) tyOk (by simp [go_sem] <;> rfl) ?_
  refine awp_seq ?_
  refine awp_region_run (sh := []) tyOk (by simp [go_sem] <;> rfl) ?_
  refine awp_ret ?_
  refine ends_ret (by simp [go_sem] <;> rfl) (by simp [go_sem]) ?_
  exact ⟨by simp [go_sem, words7], by simp [go_sem]⟩

set_option maxHeartbeats 1000000 in
theorem c_Reserved (s : ByteArray) : Pur Tryz.prog (GL kr) 132 [.pv (.str s)] (.pv (.int .i64 (reserved s))) := by
  have h7 : words7.length = 7 := rfl
  refine pur_of fun σ hgl => ?_
  refine acalls_of tyOk Tryz.func132 rfl (by simp [Tryz.f132]) ?_
  refine awp_seq ?_
  refine awp_region_run (sh := []) tyOk (by simp [go_sem] <;> rfl) ?_
  refine awp_seq ?_
  refine awp_reg ?_
  refine al_fn rfl rfl rfl (by simp [go_sem] <;> rfl) call142 ((c_words) _ (by exact hgl)) (by simp [go_sem] <;> rfl) (by simp [go_sem]) rfl rfl ?_
  refine al_run 1 (sh := []) tyOk (by simp [go_sem] <;> rfl) ?_
  refine al_nil ?_
  refine awp_seq ?_
  refine awp_seq ?_
  refine awp_region_run (sh := []) tyOk (by simp [go_sem] <;> rfl) ?_
  refine awp_block ?_
  refine awp_loop_headK σ.objs.length σ.toks.length 0 [0, 2, 3] (fun k : Nat => [(4, .pv (.int .i64 ↑k))]) (fun k => σ) (fun k => k ≤ words7.length ∧ NotYet (fun w => decide (w = s)) words7 k) (fun k => words7.length - k) 0 (⟨Nat.zero_le _, .zero⟩) ⟨by simp [go_sem], rfl, by simp, by simp, by simp [go_sem], fun ob h => .inl (by simpa [go_sem] using h), by simp [go_sem]⟩ ?_
  rintro k ⟨hk, hn⟩
  refine awp_seq ?_
  refine awp_seq ?_
  refine awp_region_run (sh := []) tyOk (by simp [go_sem] <;> rfl) ?_
  refine awp_cond (by first | rfl | (simp [go_sem] <;> rfl)) (fun h0 => ?_) (fun h0 => ?_)
  · have hlt : k < words7.length := by simp at h0; omega
    have hw : IntKind.i64.wrap (↑k + 1) = (k : Int) + 1 := wrap_succ (by omega)
    obtain ⟨x, hx, hxm⟩ := get_lt hlt
    have hw3 : IntKind.i64.wrap (3 + (k : Int)) = 3 + k := wrap_id (by omega) (by omega)
    refine awp_skip ?_
    refine awp_seq ?_
    refine awp_block ?_
    refine awp_seq ?_
    refine awp_region_run (sh := []) tyOk (by simp [go_sem, hx, hw3] <;> rfl) ?_
    refine awp_cond (by first | rfl | (simp [go_sem, hx, hw3] <;> rfl)) (fun h1 => ?_) (fun h1 => ?_)
    · refine awp_seq ?_
      refine awp_region_run (sh := []) tyOk (by simp [go_sem, hx, hw3] <;> rfl) ?_
      refine awp_ret ?_
      refine inBlock_ret ?_
      refine then_ret ?_
      refine then_ret ?_
      refine inBlock_ret ?_
      refine then_ret ?_
      refine ends_ret (by simp [go_sem] <;> rfl) (by simp [go_sem]) ?_
      have hs : reserved s = 3 + (k : Int) := by have e : resI s = k := idxOf_found hn hx h1; unfold reserved; rw [e, if_neg (by omega)]
      exact ⟨by simp [go_sem, hs], by simp [go_sem]⟩
    · refine awp_skip ?_
      refine awp_region_run (sh := []) tyOk (by simp [go_sem, hx, hw3] <;> rfl) ?_
      exact next_intro (k + 1) σ.objs.length σ.toks.length 0 (⟨hlt, hn.succ hx h1⟩) (by omega) ⟨by simp [go_sem, hx, hw3, hw], rfl, by simp, by simp, by simp [go_sem, hx, hw3, hw], fun ob h => .inl (by simpa [go_sem, hx, hw3, hw] using h), by simp [go_sem]⟩
  · have hke : k = words7.length := by simp at h0; omega
    subst hke
    refine awp_exit ?_
    refine then_exit ?_
    refine then_exit ?_
    refine inBlock_hit ?_
    refine awp_seq ?_
    refine awp_region_run (sh := []) tyOk (by simp [go_sem] <;> rfl) ?_
    refine awp_ret ?_
    refine ends_ret (by simp [go_sem] <;> rfl) (by simp [go_sem]) ?_
    have hs : reserved s = 0 := by have e : resI s = -1 := idxOf_none hn; unfold reserved; rw [e]; rfl
    exact ⟨by simp [go_sem, hs], by simp [go_sem]⟩

set_option maxHeartbeats 1000000 in
theorem c_Name04 (s : ByteArray) : Pur Tryz.prog (GL kr) 115 [.pv (.str s)] (.pv (.bool (name04 s))) := by
  refine pur_of fun σ hgl => ?_
  refine acalls_of tyOk Tryz.func115 rfl (by simp [Tryz.f115]) ?_
  refine awp_seq ?_
  refine awp_region_run (sh := []) tyOk (by simp [go_sem] <;> rfl) ?_
  refine awp_seq ?_
  refine awp_reg ?_
  refine al_run 1 (sh := []) tyOk (by simp [go_sem] <;> rfl) ?_
  refine al_fn rfl rfl rfl (by simp [go_sem] <;> rfl) call105 ((c_pagodaref01_Symbol s) _ (by exact hgl)) (by simp [go_sem] <;> rfl) (by simp [go_sem]) rfl rfl ?_
  refine al_run 1 (sh := []) tyOk (by simp [go_sem] <;> rfl) ?_
  refine al_splitT 5 (by first | rfl | (simp [go_sem] <;> rfl)) (fun h0 => ?_) (fun h0 => ?_)
  · refine al_runG (sh := []) 1 5 true true tyOk (by simp [go_sem]) rfl (by simp [go_sem]) rfl rfl (by simp [go_sem] <;> rfl) ?_
    refine al_fnG 5 true true (by simp [go_sem]) rfl (by simp [go_sem]) rfl rfl (by simp [go_sem] <;> rfl) call132 ((c_Reserved s) _ (by exact hgl)) (by simp [go_sem] <;> rfl) (by simp [go_sem]) rfl rfl ?_
    refine al_runG (sh := []) 1 5 true true tyOk (by simp [go_sem]) rfl (by simp [go_sem]) rfl rfl (by simp [go_sem] <;> rfl) ?_
    refine al_run 2 (sh := []) tyOk (by simp [go_sem] <;> rfl) ?_
    refine al_nil ?_
    refine awp_ret ?_
    refine ends_ret (by simp [go_sem] <;> rfl) (by simp [go_sem]) ?_
    exact ⟨by simp only [name04, h0, Bool.true_or, Bool.or_true, Bool.false_or, Bool.or_false, Bool.true_and, Bool.and_true, Bool.false_and, Bool.and_false, Bool.not_true, Bool.not_false, Bool.false_eq_true, if_true, if_false]; simp [go_sem], by simp [go_sem]⟩
  · refine al_skip 3 5 true (by simp [go_sem]) (by simp [go_sem]) rfl rfl ?_
    refine al_run 2 (sh := []) tyOk (by simp [go_sem] <;> rfl) ?_
    refine al_nil ?_
    refine awp_ret ?_
    refine ends_ret (by simp [go_sem] <;> rfl) (by simp [go_sem]) ?_
    exact ⟨by simp only [name04, h0, Bool.true_or, Bool.or_true, Bool.false_or, Bool.or_false, Bool.true_and, Bool.and_true, Bool.false_and, Bool.and_false, Bool.not_true, Bool.not_false, Bool.false_eq_true, if_true, if_false]; simp [go_sem], by simp [go_sem]⟩

set_option maxHeartbeats 1000000 in
theorem c_Name (s : ByteArray) : Pur Tryz.prog (GL kr) 83 [.pv (.str s)] (.pv (.bool (rname s))) := by
  refine pur_of fun σ hgl => ?_
  refine acalls_of tyOk Tryz.func83 rfl (by simp [Tryz.f83]) ?_
  refine awp_seq ?_
  refine awp_region_run (sh := []) tyOk (by simp [go_sem] <;> rfl) ?_
  refine awp_seq ?_
  refine awp_reg ?_
  refine al_run 1 (sh := []) tyOk (by simp [go_sem] <;> rfl) ?_
  refine al_fn rfl rfl rfl (by simp [go_sem] <;> rfl) call115 ((c_Name04 s) _ (by exact hgl)) (by simp [go_sem] <;> rfl) (by simp [go_sem]) rfl rfl ?_
  refine al_run 1 (sh := []) tyOk (by simp [go_sem] <;> rfl) ?_
  refine al_splitT 5 (by first | rfl | (simp [go_sem] <;> rfl)) (fun h0 => ?_) (fun h0 => ?_)
  · refine al_runG (sh := []) 2 5 true true tyOk (by simp [go_sem]) rfl (by simp [go_sem]) rfl rfl (by simp [go_sem] <;> rfl) ?_
    refine al_run 2 (sh := []) tyOk (by simp [go_sem] <;> rfl) ?_
    refine al_nil ?_
    refine awp_ret ?_
    refine ends_ret (by simp [go_sem] <;> rfl) (by simp [go_sem]) ?_
    exact ⟨by simp only [rname, eCall, h0, Bool.true_or, Bool.or_true, Bool.false_or, Bool.or_false, Bool.true_and, Bool.and_true, Bool.false_and, Bool.and_false, Bool.not_true, Bool.not_false, Bool.false_eq_true, if_true, if_false]; first | (simp [go_sem]; done) | (simp [go_sem]; rfl), by simp [go_sem]⟩
  · refine al_skip 2 5 true (by simp [go_sem]) (by simp [go_sem]) rfl rfl ?_
    refine al_run 2 (sh := []) tyOk (by simp [go_sem] <;> rfl) ?_
    refine al_nil ?_
    refine awp_ret ?_
    refine ends_ret (by simp [go_sem] <;> rfl) (by simp [go_sem]) ?_
    exact ⟨by simp only [rname, eCall, h0, Bool.true_or, Bool.or_true, Bool.false_or, Bool.or_false, Bool.true_and, Bool.and_true, Bool.false_and, Bool.and_false, Bool.not_true, Bool.not_false, Bool.false_eq_true, if_true, if_false]; first | (simp [go_sem]; done) | (simp [go_sem]; rfl), by simp [go_sem]⟩

set_option maxHeartbeats 1000000 in
theorem c_Label (d : D) : Pur Tryz.prog (GL kr) 41 [.pv (enc d)] (.pv (.bool (rlabel d))) := by
  refine pur_of fun σ hgl => ?_
  refine acalls_of tyOk Tryz.func41 rfl (by simp [Tryz.f41]) ?_
  refine awp_seq ?_
  refine awp_region_run (sh := []) tyOk (by simp [go_sem] <;> rfl) ?_
  refine awp_seq ?_
  refine awp_seq ?_
  refine awp_region_run (sh := []) tyOk (by simp [go_sem] <;> rfl) ?_
  refine awp_block ?_
  refine awp_seq ?_
  refine awp_region_run (sh := []) tyOk (by simp [go_sem] <;> rfl) ?_
  refine awp_cond (by first | rfl | (simp [go_sem] <;> rfl)) (fun h0 => ?_) (fun h0 => ?_)
  · refine awp_seq ?_
    refine awp_reg ?_
    refine al_run 2 (sh := []) tyOk (by simp [go_sem] <;> rfl) ?_
    refine al_fn rfl rfl rfl (by simp [go_sem] <;> rfl) call83 ((c_Name d.text) _ (by exact hgl)) (by simp [go_sem] <;> rfl) (by simp [go_sem]) rfl rfl ?_
    refine al_run 1 (sh := []) tyOk (by simp [go_sem] <;> rfl) ?_
    refine al_nil ?_
    refine awp_ret ?_
    refine inBlock_ret ?_
    refine then_ret ?_
    refine ends_ret (by simp [go_sem] <;> rfl) (by simp [go_sem]) ?_
    exact ⟨by simp only [rlabel, h0, Bool.true_or, Bool.or_true, Bool.false_or, Bool.or_false, Bool.true_and, Bool.and_true, Bool.false_and, Bool.and_false, Bool.not_true, Bool.not_false, Bool.false_eq_true, if_true, if_false]; simp [go_sem], by simp [go_sem]⟩
  · refine awp_seq ?_
    refine awp_region_run (sh := []) tyOk (by simp [go_sem] <;> rfl) ?_
    refine awp_cond (by first | rfl | (simp [go_sem] <;> rfl)) (fun h1 => ?_) (fun h1 => ?_)
    · refine awp_seq ?_
      refine awp_reg ?_
      refine al_run 4 (sh := []) tyOk (by simp [go_sem] <;> rfl) ?_
      refine al_splitT 15 (by first | rfl | (simp [go_sem] <;> rfl)) (fun h2 => ?_) (fun h2 => ?_)
      · refine al_runG (sh := []) 3 15 true true tyOk (by simp [go_sem]) rfl (by simp [go_sem]) rfl rfl (by simp [go_sem] <;> rfl) ?_
        refine al_run 2 (sh := []) tyOk (by simp [go_sem] <;> rfl) ?_
        refine al_nil ?_
        refine awp_ret ?_
        refine inBlock_ret ?_
        refine then_ret ?_
        refine ends_ret (by simp [go_sem] <;> rfl) (by simp [go_sem]) ?_
        exact ⟨by simp only [rlabel, h0, h1, h2, Bool.true_or, Bool.or_true, Bool.false_or, Bool.or_false, Bool.true_and, Bool.and_true, Bool.false_and, Bool.and_false, Bool.not_true, Bool.not_false, Bool.false_eq_true, if_true, if_false]; simp [go_sem], by simp [go_sem]⟩
      · refine al_skip 3 15 true (by simp [go_sem]) (by simp [go_sem]) rfl rfl ?_
        refine al_run 2 (sh := []) tyOk (by simp [go_sem] <;> rfl) ?_
        refine al_nil ?_
        refine awp_ret ?_
        refine inBlock_ret ?_
        refine then_ret ?_
        refine ends_ret (by simp [go_sem] <;> rfl) (by simp [go_sem]) ?_
        exact ⟨by simp only [rlabel, h0, h1, h2, Bool.true_or, Bool.or_true, Bool.false_or, Bool.or_false, Bool.true_and, Bool.and_true, Bool.false_and, Bool.and_false, Bool.not_true, Bool.not_false, Bool.false_eq_true, if_true, if_false]; simp [go_sem], by simp [go_sem]⟩
    · refine awp_skip ?_
      refine awp_seq ?_
      refine awp_region_run (sh := []) tyOk (by simp [go_sem] <;> rfl) ?_
      refine awp_ret ?_
      refine ends_ret (by simp [go_sem] <;> rfl) (by simp [go_sem]) ?_
      exact ⟨by simp only [rlabel, h0, h1, Bool.true_or, Bool.or_true, Bool.false_or, Bool.or_false, Bool.true_and, Bool.and_true, Bool.false_and, Bool.and_false, Bool.not_true, Bool.not_false, Bool.false_eq_true, if_true, if_false]; simp [go_sem], by simp [go_sem]⟩

set_option maxHeartbeats 1000000 in
theorem c_Among (l : List ByteArray) (hl : l.length ≤ 1000000000) (s : ByteArray) : Pur Tryz.prog (GL kr) 85 [.pv (.slice (l.map .str)), .pv (.str s)] (.pv (.bool (l.any fun y => decide (y = s)))) := by
  refine pur_of fun σ hgl => ?_
  refine acalls_of tyOk Tryz.func85 rfl (by simp [Tryz.f85]) ?_
  refine awp_seq ?_
  refine awp_region_run (sh := []) tyOk (by simp [go_sem] <;> rfl) ?_
  refine awp_seq ?_
  refine awp_seq ?_
  refine awp_region_run (sh := []) tyOk (by simp [go_sem] <;> rfl) ?_
  refine awp_block ?_
  refine awp_loop_headK σ.objs.length σ.toks.length 0 [0, 1, 4] (fun k : Nat => [(5, .pv (.int .i64 ↑k))]) (fun k => σ) (fun k => k ≤ l.length ∧ NotYet (fun y => decide (y = s)) l k) (fun k => l.length - k) 0 (⟨Nat.zero_le _, .zero⟩) ⟨by simp [go_sem], rfl, by simp, by simp, by simp [go_sem], fun ob h => .inl (by simpa [go_sem] using h), by simp [go_sem]⟩ ?_
  rintro k ⟨hk, hn⟩
  refine awp_seq ?_
  refine awp_seq ?_
  refine awp_region_run (sh := []) tyOk (by simp [go_sem] <;> rfl) ?_
  refine awp_cond (by first | rfl | (simp [go_sem] <;> rfl)) (fun h0 => ?_) (fun h0 => ?_)
  · have hlt : k < l.length := by simp at h0; omega
    have hw : IntKind.i64.wrap (↑k + 1) = (k : Int) + 1 := wrap_succ (by omega)
    obtain ⟨x, hx, hxm⟩ := get_lt hlt
    refine awp_skip ?_
    refine awp_seq ?_
    refine awp_block ?_
    refine awp_seq ?_
    refine awp_region_run (sh := []) tyOk (by simp [go_sem, hx] <;> rfl) ?_
    refine awp_cond (by first | rfl | (simp [go_sem, hx] <;> rfl)) (fun h1 => ?_) (fun h1 => ?_)
    · refine awp_seq ?_
      refine awp_region_run (sh := []) tyOk (by simp [go_sem, hx] <;> rfl) ?_
      refine awp_ret ?_
      refine inBlock_ret ?_
      refine then_ret ?_
      refine then_ret ?_
      refine inBlock_ret ?_
      refine then_ret ?_
      refine ends_ret (by simp [go_sem] <;> rfl) (by simp [go_sem]) ?_
      have hany : (l.any fun y => decide (y = s)) = true := any_found (p := fun y => decide (y = s)) hx h1
      exact ⟨by simp only [hany]; simp [go_sem], by simp [go_sem]⟩
    · refine awp_skip ?_
      refine awp_region_run (sh := []) tyOk (by simp [go_sem, hx] <;> rfl) ?_
      exact next_intro (k + 1) σ.objs.length σ.toks.length 0 (⟨hlt, hn.succ hx h1⟩) (by omega) ⟨by simp [go_sem, hx, hw], rfl, by simp, by simp, by simp [go_sem, hx, hw], fun ob h => .inl (by simpa [go_sem, hx, hw] using h), by simp [go_sem]⟩
  · have hke : k = l.length := by simp at h0; omega
    subst hke
    have hany := hn.any
    refine awp_exit ?_
    refine then_exit ?_
    refine then_exit ?_
    refine inBlock_hit ?_
    refine awp_seq ?_
    refine awp_region_run (sh := []) tyOk (by simp [go_sem, hany] <;> rfl) ?_
    refine awp_ret ?_
    refine ends_ret (by simp [go_sem] <;> rfl) (by simp [go_sem]) ?_
    exact ⟨by simp only [hany]; simp [go_sem], by simp [go_sem]⟩

set_option maxHeartbeats 1000000 in
theorem c_Arity07 (s : ByteArray) : Pur Tryz.prog (GL kr) 87 [.pv (.str s)] (.tuple [.pv (.int .i64 (arity s).1), .pv (.bool (arity s).2)]) := by
  rw [← arityR_eq]
  refine pur_of fun σ hgl => ?_
  refine acalls_of tyOk Tryz.func87 rfl (by simp [Tryz.f87]) ?_
  refine awp_seq ?_
  refine awp_region_run (sh := []) tyOk (by simp [go_sem] <;> rfl) ?_
  refine awp_seq ?_
  refine awp_seq ?_
  refine awp_region_run (sh := []) tyOk (by simp [go_sem] <;> rfl) ?_
  refine awp_block ?_
  refine awp_seq ?_
  refine awp_seq ?_
  refine awp_region_run (sh := []) tyOk (by simp [go_sem] <;> rfl) ?_
  refine awp_cond (by first | rfl | (simp [go_sem] <;> rfl)) (fun h0 => ?_) (fun h0 => ?_)
  · refine awp_skip ?_
    refine awp_cond (b := true) (by simp [go_sem, h0]) (fun h => ?_) (fun h => ?_)
    rotate_left
    · cases h
    refine awp_seq ?_
    refine awp_region_run (sh := []) tyOk (by simp [go_sem] <;> rfl) ?_
    refine awp_ret ?_
    refine inBlock_ret ?_
    refine then_ret ?_
    refine ends_ret (by simp [go_sem] <;> rfl) (by simp [go_sem]) ?_
    exact ⟨by simp only [arityR, ar2, ar1, List.any_cons, List.any_nil, h0, Bool.true_or, Bool.or_true, Bool.false_or, Bool.or_false, Bool.true_and, Bool.and_true, Bool.false_and, Bool.and_false, Bool.not_true, Bool.not_false, Bool.false_eq_true, if_true, if_false]; simp [go_sem], by simp [go_sem]⟩
  · refine awp_seq ?_
    refine awp_region_run (sh := []) tyOk (by simp [go_sem] <;> rfl) ?_
    refine awp_cond (by first | rfl | (simp [go_sem] <;> rfl)) (fun h1 => ?_) (fun h1 => ?_)
    · refine awp_skip ?_
      refine awp_cond (b := true) (by simp [go_sem, h0, h1]) (fun h => ?_) (fun h => ?_)
      rotate_left
      · cases h
      refine awp_seq ?_
      refine awp_region_run (sh := []) tyOk (by simp [go_sem] <;> rfl) ?_
      refine awp_ret ?_
      refine inBlock_ret ?_
      refine then_ret ?_
      refine ends_ret (by simp [go_sem] <;> rfl) (by simp [go_sem]) ?_
      exact ⟨by simp only [arityR, ar2, ar1, List.any_cons, List.any_nil, h0, h1, Bool.true_or, Bool.or_true, Bool.false_or, Bool.or_false, Bool.true_and, Bool.and_true, Bool.false_and, Bool.and_false, Bool.not_true, Bool.not_false, Bool.false_eq_true, if_true, if_false]; simp [go_sem], by simp [go_sem]⟩
    · refine awp_seq ?_
      refine awp_region_run (sh := []) tyOk (by simp [go_sem] <;> rfl) ?_
      refine awp_cond (by first | rfl | (simp [go_sem] <;> rfl)) (fun h2 => ?_) (fun h2 => ?_)
      · refine awp_skip ?_
        refine awp_cond (b := true) (by simp [go_sem, h0, h1, h2]) (fun h => ?_) (fun h => ?_)
        rotate_left
        · cases h
        refine awp_seq ?_
        refine awp_region_run (sh := []) tyOk (by simp [go_sem] <;> rfl) ?_
        refine awp_ret ?_
        refine inBlock_ret ?_
        refine then_ret ?_
        refine ends_ret (by simp [go_sem] <;> rfl) (by simp [go_sem]) ?_
        exact ⟨by simp only [arityR, ar2, ar1, List.any_cons, List.any_nil, h0, h1, h2, Bool.true_or, Bool.or_true, Bool.false_or, Bool.or_false, Bool.true_and, Bool.and_true, Bool.false_and, Bool.and_false, Bool.not_true, Bool.not_false, Bool.false_eq_true, if_true, if_false]; simp [go_sem], by simp [go_sem]⟩
      · refine awp_seq ?_
        refine awp_region_run (sh := []) tyOk (by simp [go_sem] <;> rfl) ?_
        refine awp_cond (by first | rfl | (simp [go_sem] <;> rfl)) (fun h3 => ?_) (fun h3 => ?_)
        · refine awp_skip ?_
          refine awp_cond (b := true) (by simp [go_sem, h0, h1, h2, h3]) (fun h => ?_) (fun h => ?_)
          rotate_left
          · cases h
          refine awp_seq ?_
          refine awp_region_run (sh := []) tyOk (by simp [go_sem] <;> rfl) ?_
          refine awp_ret ?_
          refine inBlock_ret ?_
          refine then_ret ?_
          refine ends_ret (by simp [go_sem] <;> rfl) (by simp [go_sem]) ?_
          exact ⟨by simp only [arityR, ar2, ar1, List.any_cons, List.any_nil, h0, h1, h2, h3, Bool.true_or, Bool.or_true, Bool.false_or, Bool.or_false, Bool.true_and, Bool.and_true, Bool.false_and, Bool.and_false, Bool.not_true, Bool.not_false, Bool.false_eq_true, if_true, if_false]; simp [go_sem], by simp [go_sem]⟩
        · refine awp_seq ?_
          refine awp_region_run (sh := []) tyOk (by simp [go_sem] <;> rfl) ?_
          refine awp_cond (by first | rfl | (simp [go_sem] <;> rfl)) (fun h4 => ?_) (fun h4 => ?_)
          · refine awp_skip ?_
            refine awp_cond (b := true) (by simp [go_sem, h0, h1, h2, h3, h4]) (fun h => ?_) (fun h => ?_)
            rotate_left
            · cases h
            refine awp_seq ?_
            refine awp_region_run (sh := []) tyOk (by simp [go_sem] <;> rfl) ?_
            refine awp_ret ?_
            refine inBlock_ret ?_
            refine then_ret ?_
            refine ends_ret (by simp [go_sem] <;> rfl) (by simp [go_sem]) ?_
            exact ⟨by simp only [arityR, ar2, ar1, List.any_cons, List.any_nil, h0, h1, h2, h3, h4, Bool.true_or, Bool.or_true, Bool.false_or, Bool.or_false, Bool.true_and, Bool.and_true, Bool.false_and, Bool.and_false, Bool.not_true, Bool.not_false, Bool.false_eq_true, if_true, if_false]; simp [go_sem], by simp [go_sem]⟩
          · refine awp_seq ?_
            refine awp_region_run (sh := []) tyOk (by simp [go_sem] <;> rfl) ?_
            refine awp_cond (by first | rfl | (simp [go_sem] <;> rfl)) (fun h5 => ?_) (fun h5 => ?_)
            · refine awp_skip ?_
              refine awp_cond (b := true) (by simp [go_sem, h0, h1, h2, h3, h4, h5]) (fun h => ?_) (fun h => ?_)
              rotate_left
              · cases h
              refine awp_seq ?_
              refine awp_region_run (sh := []) tyOk (by simp [go_sem] <;> rfl) ?_
              refine awp_ret ?_
              refine inBlock_ret ?_
              refine then_ret ?_
              refine ends_ret (by simp [go_sem] <;> rfl) (by simp [go_sem]) ?_
              exact ⟨by simp only [arityR, ar2, ar1, List.any_cons, List.any_nil, h0, h1, h2, h3, h4, h5, Bool.true_or, Bool.or_true, Bool.false_or, Bool.or_false, Bool.true_and, Bool.and_true, Bool.false_and, Bool.and_false, Bool.not_true, Bool.not_false, Bool.false_eq_true, if_true, if_false]; simp [go_sem], by simp [go_sem]⟩
            · refine awp_seq ?_
              refine awp_region_run (sh := []) tyOk (by simp [go_sem] <;> rfl) ?_
              refine awp_cond (by first | rfl | (simp [go_sem] <;> rfl)) (fun h6 => ?_) (fun h6 => ?_)
              · refine awp_skip ?_
                refine awp_cond (b := true) (by simp [go_sem, h0, h1, h2, h3, h4, h5, h6]) (fun h => ?_) (fun h => ?_)
                rotate_left
                · cases h
                refine awp_seq ?_
                refine awp_region_run (sh := []) tyOk (by simp [go_sem] <;> rfl) ?_
                refine awp_ret ?_
                refine inBlock_ret ?_
                refine then_ret ?_
                refine ends_ret (by simp [go_sem] <;> rfl) (by simp [go_sem]) ?_
                exact ⟨by simp only [arityR, ar2, ar1, List.any_cons, List.any_nil, h0, h1, h2, h3, h4, h5, h6, Bool.true_or, Bool.or_true, Bool.false_or, Bool.or_false, Bool.true_and, Bool.and_true, Bool.false_and, Bool.and_false, Bool.not_true, Bool.not_false, Bool.false_eq_true, if_true, if_false]; simp [go_sem], by simp [go_sem]⟩
              · refine awp_seq ?_
                refine awp_region_run (sh := []) tyOk (by simp [go_sem] <;> rfl) ?_
                refine awp_cond (by first | rfl | (simp [go_sem] <;> rfl)) (fun h7 => ?_) (fun h7 => ?_)
                · refine awp_skip ?_
                  refine awp_cond (b := true) (by simp [go_sem, h0, h1, h2, h3, h4, h5, h6, h7]) (fun h => ?_) (fun h => ?_)
                  rotate_left
                  · cases h
                  refine awp_seq ?_
                  refine awp_region_run (sh := []) tyOk (by simp [go_sem] <;> rfl) ?_
                  refine awp_ret ?_
                  refine inBlock_ret ?_
                  refine then_ret ?_
                  refine ends_ret (by simp [go_sem] <;> rfl) (by simp [go_sem]) ?_
                  exact ⟨by simp only [arityR, ar2, ar1, List.any_cons, List.any_nil, h0, h1, h2, h3, h4, h5, h6, h7, Bool.true_or, Bool.or_true, Bool.false_or, Bool.or_false, Bool.true_and, Bool.and_true, Bool.false_and, Bool.and_false, Bool.not_true, Bool.not_false, Bool.false_eq_true, if_true, if_false]; simp [go_sem], by simp [go_sem]⟩
                · refine awp_region_run (sh := []) tyOk (by simp [go_sem] <;> rfl) ?_
                  refine awp_cond (by first | rfl | (simp [go_sem] <;> rfl)) (fun h8 => ?_) (fun h8 => ?_)
                  · refine awp_seq ?_
                    refine awp_region_run (sh := []) tyOk (by simp [go_sem] <;> rfl) ?_
                    refine awp_ret ?_
                    refine inBlock_ret ?_
                    refine then_ret ?_
                    refine ends_ret (by simp [go_sem] <;> rfl) (by simp [go_sem]) ?_
                    exact ⟨by simp only [arityR, ar2, ar1, List.any_cons, List.any_nil, h0, h1, h2, h3, h4, h5, h6, h7, h8, Bool.true_or, Bool.or_true, Bool.false_or, Bool.or_false, Bool.true_and, Bool.and_true, Bool.false_and, Bool.and_false, Bool.not_true, Bool.not_false, Bool.false_eq_true, if_true, if_false]; simp [go_sem], by simp [go_sem]⟩
                  · refine awp_seq ?_
                    refine awp_seq ?_
                    refine awp_region_run (sh := []) tyOk (by simp [go_sem] <;> rfl) ?_
                    refine awp_cond (by first | rfl | (simp [go_sem] <;> rfl)) (fun h9 => ?_) (fun h9 => ?_)
                    · refine awp_skip ?_
                      refine awp_cond (b := true) (by simp [go_sem, h0, h1, h2, h3, h4, h5, h6, h7, h8, h9]) (fun h => ?_) (fun h => ?_)
                      rotate_left
                      · cases h
                      refine awp_seq ?_
                      refine awp_region_run (sh := []) tyOk (by simp [go_sem] <;> rfl) ?_
                      refine awp_ret ?_
                      refine inBlock_ret ?_
                      refine then_ret ?_
                      refine ends_ret (by simp [go_sem] <;> rfl) (by simp [go_sem]) ?_
                      exact ⟨by simp only [arityR, ar2, ar1, List.any_cons, List.any_nil, h0, h1, h2, h3, h4, h5, h6, h7, h8, h9, Bool.true_or, Bool.or_true, Bool.false_or, Bool.or_false, Bool.true_and, Bool.and_true, Bool.false_and, Bool.and_false, Bool.not_true, Bool.not_false, Bool.false_eq_true, if_true, if_false]; simp [go_sem], by simp [go_sem]⟩
                    · refine awp_seq ?_
                      refine awp_region_run (sh := []) tyOk (by simp [go_sem] <;> rfl) ?_
                      refine awp_cond (by first | rfl | (simp [go_sem] <;> rfl)) (fun h10 => ?_) (fun h10 => ?_)
                      · refine awp_skip ?_
                        refine awp_cond (b := true) (by simp [go_sem, h0, h1, h2, h3, h4, h5, h6, h7, h8, h9, h10]) (fun h => ?_) (fun h => ?_)
                        rotate_left
                        · cases h
                        refine awp_seq ?_
                        refine awp_region_run (sh := []) tyOk (by simp [go_sem] <;> rfl) ?_
                        refine awp_ret ?_
                        refine inBlock_ret ?_
                        refine then_ret ?_
                        refine ends_ret (by simp [go_sem] <;> rfl) (by simp [go_sem]) ?_
                        exact ⟨by simp only [arityR, ar2, ar1, List.any_cons, List.any_nil, h0, h1, h2, h3, h4, h5, h6, h7, h8, h9, h10, Bool.true_or, Bool.or_true, Bool.false_or, Bool.or_false, Bool.true_and, Bool.and_true, Bool.false_and, Bool.and_false, Bool.not_true, Bool.not_false, Bool.false_eq_true, if_true, if_false]; simp [go_sem], by simp [go_sem]⟩
                      · refine awp_seq ?_
                        refine awp_region_run (sh := []) tyOk (by simp [go_sem] <;> rfl) ?_
                        refine awp_cond (by first | rfl | (simp [go_sem] <;> rfl)) (fun h11 => ?_) (fun h11 => ?_)
                        · refine awp_skip ?_
                          refine awp_cond (b := true) (by simp [go_sem, h0, h1, h2, h3, h4, h5, h6, h7, h8, h9, h10, h11]) (fun h => ?_) (fun h => ?_)
                          rotate_left
                          · cases h
                          refine awp_seq ?_
                          refine awp_region_run (sh := []) tyOk (by simp [go_sem] <;> rfl) ?_
                          refine awp_ret ?_
                          refine inBlock_ret ?_
                          refine then_ret ?_
                          refine ends_ret (by simp [go_sem] <;> rfl) (by simp [go_sem]) ?_
                          exact ⟨by simp only [arityR, ar2, ar1, List.any_cons, List.any_nil, h0, h1, h2, h3, h4, h5, h6, h7, h8, h9, h10, h11, Bool.true_or, Bool.or_true, Bool.false_or, Bool.or_false, Bool.true_and, Bool.and_true, Bool.false_and, Bool.and_false, Bool.not_true, Bool.not_false, Bool.false_eq_true, if_true, if_false]; simp [go_sem], by simp [go_sem]⟩
                        · refine awp_seq ?_
                          refine awp_region_run (sh := []) tyOk (by simp [go_sem] <;> rfl) ?_
                          refine awp_cond (by first | rfl | (simp [go_sem] <;> rfl)) (fun h12 => ?_) (fun h12 => ?_)
                          · refine awp_skip ?_
                            refine awp_cond (b := true) (by simp [go_sem, h0, h1, h2, h3, h4, h5, h6, h7, h8, h9, h10, h11, h12]) (fun h => ?_) (fun h => ?_)
                            rotate_left
                            · cases h
                            refine awp_seq ?_
                            refine awp_region_run (sh := []) tyOk (by simp [go_sem] <;> rfl) ?_
                            refine awp_ret ?_
                            refine inBlock_ret ?_
                            refine then_ret ?_
                            refine ends_ret (by simp [go_sem] <;> rfl) (by simp [go_sem]) ?_
                            exact ⟨by simp only [arityR, ar2, ar1, List.any_cons, List.any_nil, h0, h1, h2, h3, h4, h5, h6, h7, h8, h9, h10, h11, h12, Bool.true_or, Bool.or_true, Bool.false_or, Bool.or_false, Bool.true_and, Bool.and_true, Bool.false_and, Bool.and_false, Bool.not_true, Bool.not_false, Bool.false_eq_true, if_true, if_false]; simp [go_sem], by simp [go_sem]⟩
                          · refine awp_seq ?_
                            refine awp_region_run (sh := []) tyOk (by simp [go_sem] <;> rfl) ?_
                            refine awp_cond (by first | rfl | (simp [go_sem] <;> rfl)) (fun h13 => ?_) (fun h13 => ?_)
                            · refine awp_skip ?_
                              refine awp_cond (b := true) (by simp [go_sem, h0, h1, h2, h3, h4, h5, h6, h7, h8, h9, h10, h11, h12, h13]) (fun h => ?_) (fun h => ?_)
                              rotate_left
                              · cases h
                              refine awp_seq ?_
                              refine awp_region_run (sh := []) tyOk (by simp [go_sem] <;> rfl) ?_
                              refine awp_ret ?_
                              refine inBlock_ret ?_
                              refine then_ret ?_
                              refine ends_ret (by simp [go_sem] <;> rfl) (by simp [go_sem]) ?_
                              exact ⟨by simp only [arityR, ar2, ar1, List.any_cons, List.any_nil, h0, h1, h2, h3, h4, h5, h6, h7, h8, h9, h10, h11, h12, h13, Bool.true_or, Bool.or_true, Bool.false_or, Bool.or_false, Bool.true_and, Bool.and_true, Bool.false_and, Bool.and_false, Bool.not_true, Bool.not_false, Bool.false_eq_true, if_true, if_false]; simp [go_sem], by simp [go_sem]⟩
                            · refine awp_seq ?_
                              refine awp_region_run (sh := []) tyOk (by simp [go_sem] <;> rfl) ?_
                              refine awp_cond (by first | rfl | (simp [go_sem] <;> rfl)) (fun h14 => ?_) (fun h14 => ?_)
                              · refine awp_skip ?_
                                refine awp_cond (b := true) (by simp [go_sem, h0, h1, h2, h3, h4, h5, h6, h7, h8, h9, h10, h11, h12, h13, h14]) (fun h => ?_) (fun h => ?_)
                                rotate_left
                                · cases h
                                refine awp_seq ?_
                                refine awp_region_run (sh := []) tyOk (by simp [go_sem] <;> rfl) ?_
                                refine awp_ret ?_
                                refine inBlock_ret ?_
                                refine then_ret ?_
                                refine ends_ret (by simp [go_sem] <;> rfl) (by simp [go_sem]) ?_
                                exact ⟨by simp only [arityR, ar2, ar1, List.any_cons, List.any_nil, h0, h1, h2, h3, h4, h5, h6, h7, h8, h9, h10, h11, h12, h13, h14, Bool.true_or, Bool.or_true, Bool.false_or, Bool.or_false, Bool.true_and, Bool.and_true, Bool.false_and, Bool.and_false, Bool.not_true, Bool.not_false, Bool.false_eq_true, if_true, if_false]; simp [go_sem], by simp [go_sem]⟩
                              · refine awp_region_run (sh := []) tyOk (by simp [go_sem] <;> rfl) ?_
                                refine awp_cond (by first | rfl | (simp [go_sem] <;> rfl)) (fun h15 => ?_) (fun h15 => ?_)
                                · refine awp_seq ?_
                                  refine awp_region_run (sh := []) tyOk (by simp [go_sem] <;> rfl) ?_
                                  refine awp_ret ?_
                                  refine inBlock_ret ?_
                                  refine then_ret ?_
                                  refine ends_ret (by simp [go_sem] <;> rfl) (by simp [go_sem]) ?_
                                  exact ⟨by simp only [arityR, ar2, ar1, List.any_cons, List.any_nil, h0, h1, h2, h3, h4, h5, h6, h7, h8, h9, h10, h11, h12, h13, h14, h15, Bool.true_or, Bool.or_true, Bool.false_or, Bool.or_false, Bool.true_and, Bool.and_true, Bool.false_and, Bool.and_false, Bool.not_true, Bool.not_false, Bool.false_eq_true, if_true, if_false]; simp [go_sem], by simp [go_sem]⟩
                                · refine awp_skip ?_
                                  refine awp_seq ?_
                                  refine awp_region_run (sh := []) tyOk (by simp [go_sem] <;> rfl) ?_
                                  refine awp_ret ?_
                                  refine ends_ret (by simp [go_sem] <;> rfl) (by simp [go_sem]) ?_
                                  exact ⟨by simp only [arityR, ar2, ar1, List.any_cons, List.any_nil, h0, h1, h2, h3, h4, h5, h6, h7, h8, h9, h10, h11, h12, h13, h14, h15, Bool.true_or, Bool.or_true, Bool.false_or, Bool.or_false, Bool.true_and, Bool.and_true, Bool.false_and, Bool.and_false, Bool.not_true, Bool.not_false, Bool.false_eq_true, if_true, if_false]; simp [go_sem], by simp [go_sem]⟩

set_option maxHeartbeats 1000000 in
theorem c_Word (d : D) : Pur Tryz.prog (GL kr) 82 [.pv (enc d)] (.pv (.str (word d))) := by
  refine pur_of fun σ hgl => ?_
  refine acalls_of tyOk Tryz.func82 rfl (by simp [Tryz.f82]) ?_
  refine awp_seq ?_
  refine awp_region_run (sh := []) tyOk (by simp [go_sem] <;> rfl) ?_
  refine awp_seq ?_
  refine awp_seq ?_
  refine awp_reg ?_
  refine al_run 4 (sh := []) tyOk (by simp [go_sem] <;> rfl) ?_
  refine al_splitT 6 (by first | rfl | (simp [go_sem] <;> rfl)) (fun h0 => ?_) (fun h0 => ?_)
  · refine al_skip 4 6 false (by simp [go_sem]) (by simp [go_sem]) rfl rfl ?_
    refine al_run 2 (sh := []) tyOk (by simp [go_sem] <;> rfl) ?_
    refine al_skip 6 12 false (by simp [go_sem]) (by simp [go_sem]) rfl rfl ?_
    refine al_run 1 (sh := []) tyOk (by simp [go_sem] <;> rfl) ?_
    refine al_nil ?_
    refine awp_cond (b := true) (by simp [go_sem, h0]) (fun h => ?_) (fun h => ?_)
    rotate_left
    · cases h
    refine awp_seq ?_
    refine awp_region_run (sh := []) tyOk (by simp [go_sem] <;> rfl) ?_
    refine awp_ret ?_
    refine then_ret ?_
    refine ends_ret (by simp [go_sem] <;> rfl) (by simp [go_sem]) ?_
    exact ⟨by simp only [word, h0, Bool.true_or, Bool.or_true, Bool.false_or, Bool.or_false, Bool.true_and, Bool.and_true, Bool.false_and, Bool.and_false, Bool.not_true, Bool.not_false, Bool.false_eq_true, if_true, if_false]; simp [go_sem], by simp [go_sem]⟩
  · refine al_runG (sh := []) 4 6 false false tyOk (by simp [go_sem]) rfl (by simp [go_sem]) rfl rfl (by simp [go_sem] <;> rfl) ?_
    refine al_run 2 (sh := []) tyOk (by simp [go_sem] <;> rfl) ?_
    refine al_splitT 12 (by first | rfl | (simp [go_sem] <;> rfl)) (fun h1 => ?_) (fun h1 => ?_)
    · refine al_skip 6 12 false (by simp [go_sem]) (by simp [go_sem]) rfl rfl ?_
      refine al_run 1 (sh := []) tyOk (by simp [go_sem] <;> rfl) ?_
      refine al_nil ?_
      refine awp_cond (b := true) (by simp [go_sem, h0, h1]) (fun h => ?_) (fun h => ?_)
      rotate_left
      · cases h
      refine awp_seq ?_
      refine awp_region_run (sh := []) tyOk (by simp [go_sem] <;> rfl) ?_
      refine awp_ret ?_
      refine then_ret ?_
      refine ends_ret (by simp [go_sem] <;> rfl) (by simp [go_sem]) ?_
      exact ⟨by simp only [word, h0, h1, Bool.true_or, Bool.or_true, Bool.false_or, Bool.or_false, Bool.true_and, Bool.and_true, Bool.false_and, Bool.and_false, Bool.not_true, Bool.not_false, Bool.false_eq_true, if_true, if_false]; simp [go_sem], by simp [go_sem]⟩
    · have hne : d.kids ≠ [] := by intro e; rw [e] at h1; exact absurd h1 (by decide)
      obtain ⟨x0, r, hx⟩ := kids_cons hne
      have hh : d.head = x0 := head_cons hx
      have hx0 : d.kids[0]? = some x0 := by rw [hx]; rfl
      refine al_runG (sh := []) 6 12 false false tyOk (by simp [go_sem]) rfl (by simp [go_sem]) rfl rfl (by simp [go_sem, hx0] <;> rfl) ?_
      refine al_run 1 (sh := []) tyOk (by simp [go_sem, hx0] <;> rfl) ?_
      refine al_nil ?_
      refine awp_cond (by first | rfl | (simp [go_sem, hx0] <;> rfl)) (fun h2 => ?_) (fun h2 => ?_)
      · refine awp_seq ?_
        refine awp_region_run (sh := []) tyOk (by simp [go_sem, hx0] <;> rfl) ?_
        refine awp_ret ?_
        refine then_ret ?_
        refine ends_ret (by simp [go_sem, hx0] <;> rfl) (by simp [go_sem]) ?_
        exact ⟨by simp only [word, hx0, h0, h1, hh, h2, Bool.true_or, Bool.or_true, Bool.false_or, Bool.or_false, Bool.true_and, Bool.and_true, Bool.false_and, Bool.and_false, Bool.not_true, Bool.not_false, Bool.false_eq_true, if_true, if_false]; simp [go_sem], by simp [go_sem]⟩
      · refine awp_skip ?_
        refine awp_seq ?_
        refine awp_region_run (sh := []) tyOk (by simp [go_sem, hx0] <;> rfl) ?_
        refine awp_ret ?_
        refine ends_ret (by simp [go_sem, hx0] <;> rfl) (by simp [go_sem]) ?_
        exact ⟨by simp only [word, hx0, h0, h1, hh, h2, Bool.true_or, Bool.or_true, Bool.false_or, Bool.or_false, Bool.true_and, Bool.and_true, Bool.false_and, Bool.and_false, Bool.not_true, Bool.not_false, Bool.false_eq_true, if_true, if_false]; simp [go_sem], by simp [go_sem]⟩

set_option maxHeartbeats 1000000 in
theorem c_form (d : D) : Pur Tryz.prog (GL kr) 86 [.pv (enc d)] (.pv (.bool (form d))) := by
  refine pur_of fun σ hgl => ?_
  refine acalls_of tyOk Tryz.func86 rfl (by simp [Tryz.f86]) ?_
  refine awp_seq ?_
  refine awp_region_run (sh := []) tyOk (by simp [go_sem] <;> rfl) ?_
  refine awp_seq ?_
  refine awp_seq ?_
  refine awp_region_run (sh := []) tyOk (by simp [go_sem] <;> rfl) ?_
  refine awp_block ?_
  refine awp_seq ?_
  refine awp_region_run (sh := []) tyOk (by simp [go_sem] <;> rfl) ?_
  refine awp_cond (by first | rfl | (simp [go_sem] <;> rfl)) (fun h0 => ?_) (fun h0 => ?_)
  · refine awp_seq ?_
    refine awp_region_run (sh := []) tyOk (by simp [go_sem] <;> rfl) ?_
    refine awp_ret ?_
    refine inBlock_ret ?_
    refine then_ret ?_
    refine ends_ret (by simp [go_sem] <;> rfl) (by simp [go_sem]) ?_
    exact ⟨by simp only [form, eQuote, eIf, eLet, eCall, es, h0, Bool.true_or, Bool.or_true, Bool.false_or, Bool.or_false, Bool.true_and, Bool.and_true, Bool.false_and, Bool.and_false, Bool.not_true, Bool.not_false, Bool.false_eq_true, if_true, if_false]; simp [go_sem], by simp [go_sem]⟩
  · refine awp_seq ?_
    refine awp_region_run (sh := []) tyOk (by simp [go_sem] <;> rfl) ?_
    refine awp_cond (by first | rfl | (simp [go_sem] <;> rfl)) (fun h1 => ?_) (fun h1 => ?_)
    · refine awp_seq ?_
      refine awp_reg ?_
      refine al_run 2 (sh := []) tyOk (by simp [go_sem] <;> rfl) ?_
      refine al_fn rfl rfl rfl (by simp [go_sem] <;> rfl) call83 ((c_Name d.text) _ (by exact hgl)) (by simp [go_sem] <;> rfl) (by simp [go_sem]) rfl rfl ?_
      refine al_run 1 (sh := []) tyOk (by simp [go_sem] <;> rfl) ?_
      refine al_nil ?_
      refine awp_ret ?_
      refine inBlock_ret ?_
      refine then_ret ?_
      refine ends_ret (by simp [go_sem] <;> rfl) (by simp [go_sem]) ?_
      exact ⟨by simp only [form, eQuote, eIf, eLet, eCall, es, h0, h1, Bool.true_or, Bool.or_true, Bool.false_or, Bool.or_false, Bool.true_and, Bool.and_true, Bool.false_and, Bool.and_false, Bool.not_true, Bool.not_false, Bool.false_eq_true, if_true, if_false]; simp [go_sem], by simp [go_sem]⟩
    · refine awp_skip ?_
      refine awp_seq ?_
      refine awp_seq ?_
      refine awp_reg ?_
      refine al_run 1 (sh := []) tyOk (by simp [go_sem] <;> rfl) ?_
      refine al_fn rfl rfl rfl (by simp [go_sem] <;> rfl) call82 ((c_Word d) _ (by exact hgl)) (by simp [go_sem] <;> rfl) (by simp [go_sem]) rfl rfl ?_
      refine al_nil ?_
      refine awp_block ?_
      refine awp_seq ?_
      refine awp_region_run (sh := []) tyOk (by simp [go_sem] <;> rfl) ?_
      refine awp_cond (by first | rfl | (simp [go_sem] <;> rfl)) (fun h2 => ?_) (fun h2 => ?_)
      · refine awp_seq ?_
        refine awp_region_run (sh := []) tyOk (by simp [go_sem] <;> rfl) ?_
        refine awp_ret ?_
        refine inBlock_ret ?_
        refine then_ret ?_
        refine ends_ret (by simp [go_sem] <;> rfl) (by simp [go_sem]) ?_
        exact ⟨by simp only [form, eQuote, eIf, eLet, eCall, es, h0, h1, h2, Bool.true_or, Bool.or_true, Bool.false_or, Bool.or_false, Bool.true_and, Bool.and_true, Bool.false_and, Bool.and_false, Bool.not_true, Bool.not_false, Bool.false_eq_true, if_true, if_false]; simp [go_sem], by simp [go_sem]⟩
      · refine awp_seq ?_
        refine awp_region_run (sh := []) tyOk (by simp [go_sem] <;> rfl) ?_
        refine awp_cond (by first | rfl | (simp [go_sem] <;> rfl)) (fun h3 => ?_) (fun h3 => ?_)
        · refine awp_seq ?_
          refine awp_region_run (sh := []) tyOk (by simp [go_sem] <;> rfl) ?_
          refine awp_ret ?_
          refine inBlock_ret ?_
          refine then_ret ?_
          refine ends_ret (by simp [go_sem] <;> rfl) (by simp [go_sem]) ?_
          exact ⟨by simp only [form, eQuote, eIf, eLet, eCall, es, h0, h1, h2, h3, Bool.true_or, Bool.or_true, Bool.false_or, Bool.or_false, Bool.true_and, Bool.and_true, Bool.false_and, Bool.and_false, Bool.not_true, Bool.not_false, Bool.false_eq_true, if_true, if_false]; simp [go_sem], by simp [go_sem]⟩
        · refine awp_seq ?_
          refine awp_region_run (sh := []) tyOk (by simp [go_sem] <;> rfl) ?_
          refine awp_cond (by first | rfl | (simp [go_sem] <;> rfl)) (fun h4 => ?_) (fun h4 => ?_)
          · refine awp_seq ?_
            refine awp_region_run (sh := []) tyOk (by simp [go_sem] <;> rfl) ?_
            refine awp_ret ?_
            refine inBlock_ret ?_
            refine then_ret ?_
            refine ends_ret (by simp [go_sem] <;> rfl) (by simp [go_sem]) ?_
            exact ⟨by simp only [form, eQuote, eIf, eLet, eCall, es, h0, h1, h2, h3, h4, Bool.true_or, Bool.or_true, Bool.false_or, Bool.or_false, Bool.true_and, Bool.and_true, Bool.false_and, Bool.and_false, Bool.not_true, Bool.not_false, Bool.false_eq_true, if_true, if_false]; simp [go_sem], by simp [go_sem]⟩
          · refine awp_seq ?_
            refine awp_region_run (sh := []) tyOk (by simp [go_sem] <;> rfl) ?_
            refine awp_cond (by first | rfl | (simp [go_sem] <;> rfl)) (fun h5 => ?_) (fun h5 => ?_)
            · refine awp_seq ?_
              refine awp_reg ?_
              refine al_run 5 (sh := []) tyOk (by simp [go_sem] <;> rfl) ?_
              refine al_splitT 36 (by first | rfl | (simp [go_sem] <;> rfl)) (fun h6 => ?_) (fun h6 => ?_)
              · have hlen : d.kids.length = 4 := by have := h6; simp only [beq_iff_eq] at this; omega
                obtain ⟨x1, hx1, hx1m⟩ := get_lt (l := d.kids) (k := 1) (by omega)
                have hd1 : d1 d.kids = x1 := getD_of hx1
                refine al_runG (sh := []) 6 36 true true tyOk (by simp [go_sem]) rfl (by simp [go_sem]) rfl rfl (by simp [go_sem, hx1] <;> rfl) ?_
                refine al_run 2 (sh := []) tyOk (by simp [go_sem, hx1] <;> rfl) ?_
                refine al_splitT 44 (by first | rfl | (simp [go_sem, hx1] <;> rfl)) (fun h7 => ?_) (fun h7 => ?_)
                · refine al_runG (sh := []) 5 44 true true tyOk (by simp [go_sem]) rfl (by simp [go_sem]) rfl rfl (by simp [go_sem, hx1] <;> rfl) ?_
                  refine al_fnG 44 true true (by simp [go_sem]) rfl (by simp [go_sem]) rfl rfl (by simp [go_sem, hx1] <;> rfl) call83 ((c_Name x1.text) _ (by exact hgl)) (by simp [go_sem, hx1] <;> rfl) (by simp [go_sem, hx1]) rfl rfl ?_
                  refine al_run 2 (sh := []) tyOk (by simp [go_sem, hx1] <;> rfl) ?_
                  refine al_nil ?_
                  refine awp_ret ?_
                  refine inBlock_ret ?_
                  refine then_ret ?_
                  refine ends_ret (by simp [go_sem, hx1] <;> rfl) (by simp [go_sem]) ?_
                  exact ⟨by simp only [form, eQuote, eIf, eLet, eCall, es, hx1, h0, h1, h2, h3, h4, h5, h6, hd1, h7, Bool.true_or, Bool.or_true, Bool.false_or, Bool.or_false, Bool.true_and, Bool.and_true, Bool.false_and, Bool.and_false, Bool.not_true, Bool.not_false, Bool.false_eq_true, if_true, if_false]; simp [go_sem], by simp [go_sem]⟩
                · refine al_skip 6 44 true (by simp [go_sem]) (by simp [go_sem]) rfl rfl ?_
                  refine al_run 2 (sh := []) tyOk (by simp [go_sem, hx1] <;> rfl) ?_
                  refine al_nil ?_
                  refine awp_ret ?_
                  refine inBlock_ret ?_
                  refine then_ret ?_
                  refine ends_ret (by simp [go_sem, hx1] <;> rfl) (by simp [go_sem]) ?_
                  exact ⟨by simp only [form, eQuote, eIf, eLet, eCall, es, hx1, h0, h1, h2, h3, h4, h5, h6, hd1, h7, Bool.true_or, Bool.or_true, Bool.false_or, Bool.or_false, Bool.true_and, Bool.and_true, Bool.false_and, Bool.and_false, Bool.not_true, Bool.not_false, Bool.false_eq_true, if_true, if_false]; simp [go_sem], by simp [go_sem]⟩
              · refine al_skip 6 36 true (by simp [go_sem]) (by simp [go_sem]) rfl rfl ?_
                refine al_run 2 (sh := []) tyOk (by simp [go_sem] <;> rfl) ?_
                refine al_skip 6 44 true (by simp [go_sem]) (by simp [go_sem]) rfl rfl ?_
                refine al_run 2 (sh := []) tyOk (by simp [go_sem] <;> rfl) ?_
                refine al_nil ?_
                refine awp_ret ?_
                refine inBlock_ret ?_
                refine then_ret ?_
                refine ends_ret (by simp [go_sem] <;> rfl) (by simp [go_sem]) ?_
                exact ⟨by simp only [form, eQuote, eIf, eLet, eCall, es, h0, h1, h2, h3, h4, h5, h6, Bool.true_or, Bool.or_true, Bool.false_or, Bool.or_false, Bool.true_and, Bool.and_true, Bool.false_and, Bool.and_false, Bool.not_true, Bool.not_false, Bool.false_eq_true, if_true, if_false]; simp [go_sem], by simp [go_sem]⟩
            · refine awp_seq ?_
              refine awp_region_run (sh := []) tyOk (by simp [go_sem] <;> rfl) ?_
              refine awp_cond (by first | rfl | (simp [go_sem] <;> rfl)) (fun h8 => ?_) (fun h8 => ?_)
              · refine awp_seq ?_
                refine awp_reg ?_
                refine al_run 5 (sh := []) tyOk (by simp [go_sem] <;> rfl) ?_
                refine al_splitT 58 (by first | rfl | (simp [go_sem] <;> rfl)) (fun h9 => ?_) (fun h9 => ?_)
                · have hlen : (1 : Int) < d.kids.length := by simpa using h9
                  obtain ⟨x1, hx1, hx1m⟩ := get_lt (l := d.kids) (k := 1) (by omega)
                  have hd1 : d1 d.kids = x1 := getD_of hx1
                  refine al_runG (sh := []) 4 58 true true tyOk (by simp [go_sem]) rfl (by simp [go_sem]) rfl rfl (by simp [go_sem, hx1] <;> rfl) ?_
                  refine al_fnG 58 true true (by simp [go_sem]) rfl (by simp [go_sem]) rfl rfl (by simp [go_sem, hx1] <;> rfl) call41 ((c_Label x1) _ (by exact hgl)) (by simp [go_sem, hx1] <;> rfl) (by simp [go_sem, hx1]) rfl rfl ?_
                  refine al_run 2 (sh := []) tyOk (by simp [go_sem, hx1] <;> rfl) ?_
                  refine al_nil ?_
                  refine awp_ret ?_
                  refine inBlock_ret ?_
                  refine then_ret ?_
                  refine ends_ret (by simp [go_sem, hx1] <;> rfl) (by simp [go_sem]) ?_
                  exact ⟨by simp only [form, eQuote, eIf, eLet, eCall, es, hx1, h0, h1, h2, h3, h4, h5, h8, h9, hd1, Bool.true_or, Bool.or_true, Bool.false_or, Bool.or_false, Bool.true_and, Bool.and_true, Bool.false_and, Bool.and_false, Bool.not_true, Bool.not_false, Bool.false_eq_true, if_true, if_false]; simp [go_sem], by simp [go_sem]⟩
                · refine al_skip 5 58 true (by simp [go_sem]) (by simp [go_sem]) rfl rfl ?_
                  refine al_run 2 (sh := []) tyOk (by simp [go_sem] <;> rfl) ?_
                  refine al_nil ?_
                  refine awp_ret ?_
                  refine inBlock_ret ?_
                  refine then_ret ?_
                  refine ends_ret (by simp [go_sem] <;> rfl) (by simp [go_sem]) ?_
                  exact ⟨by simp only [form, eQuote, eIf, eLet, eCall, es, h0, h1, h2, h3, h4, h5, h8, h9, Bool.true_or, Bool.or_true, Bool.false_or, Bool.or_false, Bool.true_and, Bool.and_true, Bool.false_and, Bool.and_false, Bool.not_true, Bool.not_false, Bool.false_eq_true, if_true, if_false]; simp [go_sem], by simp [go_sem]⟩
              · refine awp_skip ?_
                refine awp_seq ?_
                refine awp_reg ?_
                refine al_run 1 (sh := []) tyOk (by simp [go_sem] <;> rfl) ?_
                refine al_fn rfl rfl rfl (by simp [go_sem] <;> rfl) call82 ((c_Word d) _ (by exact hgl)) (by simp [go_sem] <;> rfl) (by simp [go_sem]) rfl rfl ?_
                refine al_fn rfl rfl rfl (by simp [go_sem] <;> rfl) call87 ((c_Arity07 (word d)) _ (by exact hgl)) (by simp [go_sem] <;> rfl) (by simp [go_sem]) rfl rfl ?_
                refine al_run 5 (sh := []) tyOk (by simp [go_sem] <;> rfl) ?_
                refine al_nil ?_
                refine awp_seq ?_
                refine awp_region_run (sh := []) tyOk (by simp [go_sem] <;> rfl) ?_
                refine awp_ret ?_
                refine ends_ret (by simp [go_sem] <;> rfl) (by simp [go_sem]) ?_
                exact ⟨by simp only [form, eQuote, eIf, eLet, eCall, es, h0, h1, h2, h3, h4, h5, h8, Bool.true_or, Bool.or_true, Bool.false_or, Bool.or_false, Bool.true_and, Bool.and_true, Bool.false_and, Bool.and_false, Bool.not_true, Bool.not_false, Bool.false_eq_true, if_true, if_false]; simp [go_sem], by simp [go_sem]⟩

set_option maxHeartbeats 1000000 in
theorem c_Kids (d : D) (hk2 : word d = sLet ∨ word d = sCall → 2 ≤ d.kids.length) : Pur Tryz.prog (GL kr) 88 [.pv (enc d)] (.pv (.slice ((kidsR d).map enc))) := by
  refine pur_of fun σ hgl => ?_
  refine acalls_of tyOk Tryz.func88 rfl (by simp [Tryz.f88]) ?_
  refine awp_seq ?_
  refine awp_region_run (sh := []) tyOk (by simp [go_sem] <;> rfl) ?_
  refine awp_seq ?_
  refine awp_seq ?_
  refine awp_reg ?_
  refine al_run 1 (sh := []) tyOk (by simp [go_sem] <;> rfl) ?_
  refine al_fn rfl rfl rfl (by simp [go_sem] <;> rfl) call82 ((c_Word d) _ (by exact hgl)) (by simp [go_sem] <;> rfl) (by simp [go_sem]) rfl rfl ?_
  refine al_nil ?_
  refine awp_block ?_
  refine awp_seq ?_
  refine awp_seq ?_
  refine awp_region_run (sh := []) tyOk (by simp [go_sem] <;> rfl) ?_
  refine awp_cond (by first | rfl | (simp [go_sem] <;> rfl)) (fun h0 => ?_) (fun h0 => ?_)
  · refine awp_skip ?_
    refine awp_cond (b := true) (by simp [go_sem, h0]) (fun h => ?_) (fun h => ?_)
    rotate_left
    · cases h
    refine awp_seq ?_
    refine awp_region_run (sh := []) tyOk (by simp [go_sem] <;> rfl) ?_
    refine awp_ret ?_
    refine inBlock_ret ?_
    refine then_ret ?_
    refine ends_ret (by simp [go_sem] <;> rfl) (by simp [go_sem]) ?_
    exact ⟨by simp only [kidsR, eQuote, eLet, eCall, es, h0, Bool.true_or, Bool.or_true, Bool.false_or, Bool.or_false, Bool.true_and, Bool.and_true, Bool.false_and, Bool.and_false, Bool.not_true, Bool.not_false, Bool.false_eq_true, if_true, if_false, List.map_drop]; simp [go_sem], by simp [go_sem]⟩
  · refine awp_region_run (sh := []) tyOk (by simp [go_sem] <;> rfl) ?_
    refine awp_cond (by first | rfl | (simp [go_sem] <;> rfl)) (fun h1 => ?_) (fun h1 => ?_)
    · refine awp_seq ?_
      refine awp_region_run (sh := []) tyOk (by simp [go_sem] <;> rfl) ?_
      refine awp_ret ?_
      refine inBlock_ret ?_
      refine then_ret ?_
      refine ends_ret (by simp [go_sem] <;> rfl) (by simp [go_sem]) ?_
      exact ⟨by simp only [kidsR, eQuote, eLet, eCall, es, h0, h1, Bool.true_or, Bool.or_true, Bool.false_or, Bool.or_false, Bool.true_and, Bool.and_true, Bool.false_and, Bool.and_false, Bool.not_true, Bool.not_false, Bool.false_eq_true, if_true, if_false, List.map_drop]; simp [go_sem], by simp [go_sem]⟩
    · refine awp_seq ?_
      refine awp_seq ?_
      refine awp_region_run (sh := []) tyOk (by simp [go_sem] <;> rfl) ?_
      refine awp_cond (by first | rfl | (simp [go_sem] <;> rfl)) (fun h2 => ?_) (fun h2 => ?_)
      · have hl2 : (2 : Int) ≤ d.kids.length := by have := hk2 (.inl (of_decide_eq_true h2)); omega
        refine awp_skip ?_
        refine awp_cond (b := true) (by simp [go_sem, hl2, h0, h1, h2]) (fun h => ?_) (fun h => ?_)
        rotate_left
        · cases h
        refine awp_seq ?_
        refine awp_region_run (sh := []) tyOk (by simp [go_sem, hl2] <;> rfl) ?_
        refine awp_ret ?_
        refine inBlock_ret ?_
        refine then_ret ?_
        refine ends_ret (by simp [go_sem, hl2] <;> rfl) (by simp [go_sem]) ?_
        exact ⟨by simp only [kidsR, eQuote, eLet, eCall, es, hl2, h0, h1, h2, Bool.true_or, Bool.or_true, Bool.false_or, Bool.or_false, Bool.true_and, Bool.and_true, Bool.false_and, Bool.and_false, Bool.not_true, Bool.not_false, Bool.false_eq_true, if_true, if_false, List.map_drop]; simp [go_sem], by simp [go_sem]⟩
      · refine awp_region_run (sh := []) tyOk (by simp [go_sem] <;> rfl) ?_
        refine awp_cond (by first | rfl | (simp [go_sem] <;> rfl)) (fun h3 => ?_) (fun h3 => ?_)
        · have hl2 : (2 : Int) ≤ d.kids.length := by have := hk2 (.inr (of_decide_eq_true h3)); omega
          refine awp_seq ?_
          refine awp_region_run (sh := []) tyOk (by simp [go_sem, hl2] <;> rfl) ?_
          refine awp_ret ?_
          refine inBlock_ret ?_
          refine then_ret ?_
          refine ends_ret (by simp [go_sem, hl2] <;> rfl) (by simp [go_sem]) ?_
          exact ⟨by simp only [kidsR, eQuote, eLet, eCall, es, hl2, h0, h1, h2, h3, Bool.true_or, Bool.or_true, Bool.false_or, Bool.or_false, Bool.true_and, Bool.and_true, Bool.false_and, Bool.and_false, Bool.not_true, Bool.not_false, Bool.false_eq_true, if_true, if_false, List.map_drop]; simp [go_sem], by simp [go_sem]⟩
        · have hl1 := (word_ne h0).2.2.2.2
          refine awp_skip ?_
          refine awp_seq ?_
          refine awp_region_run (sh := []) tyOk (by simp [go_sem, hl1] <;> rfl) ?_
          refine awp_ret ?_
          refine ends_ret (by simp [go_sem, hl1] <;> rfl) (by simp [go_sem]) ?_
          exact ⟨by simp only [kidsR, eQuote, eLet, eCall, es, hl1, h0, h1, h2, h3, Bool.true_or, Bool.or_true, Bool.false_or, Bool.or_false, Bool.true_and, Bool.and_true, Bool.false_and, Bool.and_false, Bool.not_true, Bool.not_false, Bool.false_eq_true, if_true, if_false, List.map_drop]; simp [go_sem], by simp [go_sem]⟩

end Go.Proofs.YtienmmfjjffjaaaGreatDoor

/- The specification: data. -/
namespace Go.Proofs.YtienmmfjjffjaaaGreatDoor
open Go Go.Aw
variable {kr : ResO}
set_option maxHeartbeats 1000000 in
theorem c_formed01 (d : D) (hd : d.size ≤ 1000000000) : Pur Tryz.prog (GL kr) 64 [.pv (enc d)] (.pv (.bool (formed d))) := by
  induction d using D.ind with
  | _ kind num text kids ih =>
  generalize hD : D.mk kind num text kids = d at *
  have hk : d.kids = kids := by rw [← hD]; rfl
  clear hD
  subst hk
  have hkl := D.kids_length_lt d
  refine pur_of fun σ hgl => ?_
  refine acalls_of tyOk Tryz.func64 rfl (by simp [Tryz.f64]) ?_
  refine awp_seq ?_
  refine awp_region_run (sh := []) tyOk (by simp [go_sem] <;> rfl) ?_
  refine awp_seq ?_
  refine awp_seq ?_
  refine awp_region_run (sh := []) tyOk (by simp [go_sem] <;> rfl) ?_
  refine awp_block ?_
  refine awp_seq ?_
  refine awp_region_run (sh := []) tyOk (by simp [go_sem] <;> rfl) ?_
  refine awp_cond (by first | rfl | (simp [go_sem] <;> rfl)) (fun h0 => ?_) (fun h0 => ?_)
  · refine awp_seq ?_
    refine awp_reg ?_
    refine al_run 4 (sh := []) tyOk (by simp [go_sem] <;> rfl) ?_
    refine al_splitT 11 (by first | rfl | (simp [go_sem] <;> rfl)) (fun h1 => ?_) (fun h1 => ?_)
    · refine al_runG (sh := []) 4 11 true true tyOk (by simp [go_sem]) rfl (by simp [go_sem]) rfl rfl (by simp [go_sem] <;> rfl) ?_
      refine al_run 2 (sh := []) tyOk (by simp [go_sem] <;> rfl) ?_
      refine al_nil ?_
      refine awp_ret ?_
      refine inBlock_ret ?_
      refine then_ret ?_
      refine ends_ret (by simp [go_sem] <;> rfl) (by simp [go_sem]) ?_
      exact ⟨by rw [formed_eq]; simp only [Bool.not_true, h0, h1, Bool.true_or, Bool.or_true, Bool.false_or, Bool.or_false, Bool.true_and, Bool.and_true, Bool.false_and, Bool.and_false, Bool.not_true, Bool.not_false, Bool.false_eq_true, if_true, if_false, Bool.and_comm, Bool.and_left_comm]; first | (simp [go_sem]; done) | (simp [go_sem, Bool.and_comm, Bool.and_left_comm]; done), by simp [go_sem]⟩
    · refine al_skip 4 11 true (by simp [go_sem]) (by simp [go_sem]) rfl rfl ?_
      refine al_run 2 (sh := []) tyOk (by simp [go_sem] <;> rfl) ?_
      refine al_nil ?_
      refine awp_ret ?_
      refine inBlock_ret ?_
      refine then_ret ?_
      refine ends_ret (by simp [go_sem] <;> rfl) (by simp [go_sem]) ?_
      exact ⟨by rw [formed_eq]; simp only [Bool.not_true, h0, h1, Bool.true_or, Bool.or_true, Bool.false_or, Bool.or_false, Bool.true_and, Bool.and_true, Bool.false_and, Bool.and_false, Bool.not_true, Bool.not_false, Bool.false_eq_true, if_true, if_false, Bool.and_comm, Bool.and_left_comm]; first | (simp [go_sem]; done) | (simp [go_sem, Bool.and_comm, Bool.and_left_comm]; done), by simp [go_sem]⟩
  · refine awp_seq ?_
    refine awp_region_run (sh := []) tyOk (by simp [go_sem] <;> rfl) ?_
    refine awp_cond (by first | rfl | (simp [go_sem] <;> rfl)) (fun h2 => ?_) (fun h2 => ?_)
    · refine awp_seq ?_
      refine awp_reg ?_
      refine al_run 4 (sh := []) tyOk (by simp [go_sem] <;> rfl) ?_
      refine al_splitT 22 (by first | rfl | (simp [go_sem] <;> rfl)) (fun h3 => ?_) (fun h3 => ?_)
      · refine al_runG (sh := []) 2 22 true true tyOk (by simp [go_sem]) rfl (by simp [go_sem]) rfl rfl (by simp [go_sem] <;> rfl) ?_
        refine al_fnG 22 true true (by simp [go_sem]) rfl (by simp [go_sem]) rfl rfl (by simp [go_sem] <;> rfl) call105 ((c_pagodaref01_Symbol d.text) _ (by exact hgl)) (by simp [go_sem] <;> rfl) (by simp [go_sem]) rfl rfl ?_
        refine al_run 2 (sh := []) tyOk (by simp [go_sem, isSym_letter] <;> rfl) ?_
        refine al_splitT 27 (by first | rfl | (simp [go_sem, isSym_letter] <;> rfl)) (fun h4 => ?_) (fun h4 => ?_)
        · refine al_runG (sh := []) 4 27 true true tyOk (by simp [go_sem]) rfl (by simp [go_sem]) rfl rfl (by simp [go_sem, isSym_letter] <;> rfl) ?_
          refine al_run 2 (sh := []) tyOk (by simp [go_sem, isSym_letter] <;> rfl) ?_
          refine al_nil ?_
          refine awp_ret ?_
          refine inBlock_ret ?_
          refine then_ret ?_
          refine ends_ret (by simp [go_sem, isSym_letter] <;> rfl) (by simp [go_sem]) ?_
          exact ⟨by rw [formed_eq]; simp only [Bool.not_true, isSym_letter, h0, h2, h3, h4, Bool.true_or, Bool.or_true, Bool.false_or, Bool.or_false, Bool.true_and, Bool.and_true, Bool.false_and, Bool.and_false, Bool.not_true, Bool.not_false, Bool.false_eq_true, if_true, if_false, Bool.and_comm, Bool.and_left_comm]; first | (simp [go_sem]; done) | (simp [go_sem, Bool.and_comm, Bool.and_left_comm]; done), by simp [go_sem]⟩
        · refine al_skip 4 27 true (by simp [go_sem]) (by simp [go_sem]) rfl rfl ?_
          refine al_run 2 (sh := []) tyOk (by simp [go_sem, isSym_letter] <;> rfl) ?_
          refine al_nil ?_
          refine awp_ret ?_
          refine inBlock_ret ?_
          refine then_ret ?_
          refine ends_ret (by simp [go_sem, isSym_letter] <;> rfl) (by simp [go_sem]) ?_
          exact ⟨by rw [formed_eq]; simp only [Bool.not_true, isSym_letter, h0, h2, h3, h4, Bool.true_or, Bool.or_true, Bool.false_or, Bool.or_false, Bool.true_and, Bool.and_true, Bool.false_and, Bool.and_false, Bool.not_true, Bool.not_false, Bool.false_eq_true, if_true, if_false, Bool.and_comm, Bool.and_left_comm]; first | (simp [go_sem]; done) | (simp [go_sem, Bool.and_comm, Bool.and_left_comm]; done), by simp [go_sem]⟩
      · refine al_skip 3 22 true (by simp [go_sem]) (by simp [go_sem]) rfl rfl ?_
        refine al_run 2 (sh := []) tyOk (by simp [go_sem] <;> rfl) ?_
        refine al_skip 4 27 true (by simp [go_sem]) (by simp [go_sem]) rfl rfl ?_
        refine al_run 2 (sh := []) tyOk (by simp [go_sem] <;> rfl) ?_
        refine al_nil ?_
        refine awp_ret ?_
        refine inBlock_ret ?_
        refine then_ret ?_
        refine ends_ret (by simp [go_sem] <;> rfl) (by simp [go_sem]) ?_
        exact ⟨by rw [formed_eq]; simp only [Bool.not_true, h0, h2, h3, Bool.true_or, Bool.or_true, Bool.false_or, Bool.or_false, Bool.true_and, Bool.and_true, Bool.false_and, Bool.and_false, Bool.not_true, Bool.not_false, Bool.false_eq_true, if_true, if_false, Bool.and_comm, Bool.and_left_comm]; first | (simp [go_sem]; done) | (simp [go_sem, Bool.and_comm, Bool.and_left_comm]; done), by simp [go_sem]⟩
    · refine awp_seq ?_
      refine awp_region_run (sh := []) tyOk (by simp [go_sem] <;> rfl) ?_
      refine awp_cond (by first | rfl | (simp [go_sem] <;> rfl)) (fun h5 => ?_) (fun h5 => ?_)
      · refine awp_seq ?_
        refine awp_seq ?_
        refine awp_region_run (sh := []) tyOk (by simp [go_sem] <;> rfl) ?_
        refine awp_block ?_
        refine awp_loop_headK σ.objs.length σ.toks.length 1 [1, 2] (fun k : Nat => [(3, .pv (.int .i64 ↑k))]) (fun k => σ) (fun k => k ≤ d.kids.length ∧ NotYet (fun d => !formed d) d.kids k) (fun k => d.kids.length - k) 0 (⟨Nat.zero_le _, .zero⟩) ⟨by simp [go_sem], rfl, by simp, by simp, by simp [go_sem], fun ob h => .inl (by simpa [go_sem] using h), by simp [go_sem]⟩ ?_
        rintro k ⟨hk, hn⟩
        refine awp_seq ?_
        refine awp_seq ?_
        refine awp_region_run (sh := []) tyOk (by simp [go_sem] <;> rfl) ?_
        refine awp_cond (by first | rfl | (simp [go_sem] <;> rfl)) (fun h6 => ?_) (fun h6 => ?_)
        · have hlt : k < d.kids.length := by simp at h6; omega
          have hw : IntKind.i64.wrap (↑k + 1) = (k : Int) + 1 := wrap_succ (by omega)
          obtain ⟨x, hx, hxm⟩ := get_lt hlt
          refine awp_skip ?_
          refine awp_seq ?_
          refine awp_block ?_
          refine awp_seq ?_
          refine awp_reg ?_
          refine al_run 5 (sh := []) tyOk (by simp [go_sem, hx] <;> rfl) ?_
          refine al_fn rfl rfl rfl (by simp [go_sem, hx] <;> rfl) call64 ((ih x hxm (by have := D.size_kid_lt hxm; omega)) _ (by exact hgl)) (by simp [go_sem, hx] <;> rfl) (by simp [go_sem, hx]) rfl rfl ?_
          refine al_run 1 (sh := []) tyOk (by simp [go_sem, hx] <;> rfl) ?_
          refine al_nil ?_
          refine awp_cond (by first | rfl | (simp [go_sem, hx] <;> rfl)) (fun h7 => ?_) (fun h7 => ?_)
          · have hany : (d.kids.any fun d => !formed d) = true := any_found (p := fun d => !formed d) hx h7
            refine awp_seq ?_
            refine awp_region_run (sh := []) tyOk (by simp [go_sem, hx] <;> rfl) ?_
            refine awp_ret ?_
            refine inBlock_ret ?_
            refine then_ret ?_
            refine then_ret ?_
            refine inBlock_ret ?_
            refine then_ret ?_
            refine inBlock_ret ?_
            refine then_ret ?_
            refine ends_ret (by simp [go_sem, hx] <;> rfl) (by simp [go_sem]) ?_
            exact ⟨by rw [formed_eq]; simp only [Bool.not_true, hx, h0, h2, h5, h6, h7, hany, Bool.true_or, Bool.or_true, Bool.false_or, Bool.or_false, Bool.true_and, Bool.and_true, Bool.false_and, Bool.and_false, Bool.not_true, Bool.not_false, Bool.false_eq_true, if_true, if_false, Bool.and_comm, Bool.and_left_comm]; first | (simp [go_sem]; done) | (simp [go_sem, Bool.and_comm, Bool.and_left_comm]; done), by simp [go_sem]⟩
          · refine awp_skip ?_
            refine awp_region_run (sh := []) tyOk (by simp [go_sem, hx] <;> rfl) ?_
            exact next_intro (k + 1) σ.objs.length σ.toks.length 1 (⟨hlt, hn.succ hx h7⟩) (by omega) ⟨by simp [go_sem, hx, hw], rfl, by simp, by simp, by simp [go_sem, hx, hw], fun ob h => .inl (by simpa [go_sem, hx, hw] using h), by simp [go_sem]⟩
        · have hke : k = d.kids.length := by simp at h6; omega
          subst hke
          have hany := hn.any
          refine awp_exit ?_
          refine then_exit ?_
          refine then_exit ?_
          refine inBlock_hit ?_
          refine awp_seq ?_
          refine awp_reg ?_
          refine al_run 4 (sh := []) tyOk (by simp [go_sem, hany] <;> rfl) ?_
          refine al_splitT 52 (by first | rfl | (simp [go_sem, hany] <;> rfl)) (fun h8 => ?_) (fun h8 => ?_)
          · refine al_runG (sh := []) 3 52 true true tyOk (by simp [go_sem]) rfl (by simp [go_sem]) rfl rfl (by simp [go_sem, hany] <;> rfl) ?_
            refine al_run 2 (sh := []) tyOk (by simp [go_sem, hany] <;> rfl) ?_
            refine al_nil ?_
            refine awp_ret ?_
            refine inBlock_ret ?_
            refine then_ret ?_
            refine ends_ret (by simp [go_sem, hany] <;> rfl) (by simp [go_sem]) ?_
            exact ⟨by rw [formed_eq]; simp only [Bool.not_true, hany, h0, h2, h5, h8, Bool.true_or, Bool.or_true, Bool.false_or, Bool.or_false, Bool.true_and, Bool.and_true, Bool.false_and, Bool.and_false, Bool.not_true, Bool.not_false, Bool.false_eq_true, if_true, if_false, Bool.and_comm, Bool.and_left_comm]; first | (simp [go_sem]; done) | (simp [go_sem, Bool.and_comm, Bool.and_left_comm]; done), by simp [go_sem]⟩
          · refine al_skip 3 52 true (by simp [go_sem]) (by simp [go_sem]) rfl rfl ?_
            refine al_run 2 (sh := []) tyOk (by simp [go_sem, hany] <;> rfl) ?_
            refine al_nil ?_
            refine awp_ret ?_
            refine inBlock_ret ?_
            refine then_ret ?_
            refine ends_ret (by simp [go_sem, hany] <;> rfl) (by simp [go_sem]) ?_
            exact ⟨by rw [formed_eq]; simp only [Bool.not_true, hany, h0, h2, h5, h8, Bool.true_or, Bool.or_true, Bool.false_or, Bool.or_false, Bool.true_and, Bool.and_true, Bool.false_and, Bool.and_false, Bool.not_true, Bool.not_false, Bool.false_eq_true, if_true, if_false, Bool.and_comm, Bool.and_left_comm]; first | (simp [go_sem]; done) | (simp [go_sem, Bool.and_comm, Bool.and_left_comm]; done), by simp [go_sem]⟩
      · refine awp_skip ?_
        refine awp_seq ?_
        refine awp_region_run (sh := []) tyOk (by simp [go_sem] <;> rfl) ?_
        refine awp_ret ?_
        refine ends_ret (by simp [go_sem] <;> rfl) (by simp [go_sem]) ?_
        exact ⟨by rw [formed_eq]; simp only [Bool.not_true, h0, h2, h5, Bool.true_or, Bool.or_true, Bool.false_or, Bool.or_false, Bool.true_and, Bool.and_true, Bool.false_and, Bool.and_false, Bool.not_true, Bool.not_false, Bool.false_eq_true, if_true, if_false, Bool.and_comm, Bool.and_left_comm]; first | (simp [go_sem]; done) | (simp [go_sem, Bool.and_comm, Bool.and_left_comm]; done), by simp [go_sem]⟩

set_option maxHeartbeats 1000000 in
theorem c_Parts01 (d : D) (hd : d.size ≤ 1000000000) : Pur Tryz.prog (GL kr) 65 [.pv (enc d)] (.pv (.int .i64 d.size)) := by
  induction d using D.ind with
  | _ kind num text kids ih =>
  generalize hD : D.mk kind num text kids = d at *
  have hk : d.kids = kids := by rw [← hD]; rfl
  clear hD
  subst hk
  have hkl := D.kids_length_lt d
  have hds := size_sum d
  rw [sumTo_all] at hds
  refine pur_of fun σ hgl => ?_
  refine acalls_of tyOk Tryz.func65 rfl (by simp [Tryz.f65]) ?_
  refine awp_seq ?_
  refine awp_region_run (sh := []) tyOk (by simp [go_sem] <;> rfl) ?_
  refine awp_seq ?_
  refine awp_region_run (sh := []) tyOk (by simp [go_sem] <;> rfl) ?_
  refine awp_seq ?_
  refine awp_seq ?_
  refine awp_region_run (sh := []) tyOk (by simp [go_sem] <;> rfl) ?_
  refine awp_block ?_
  refine awp_loop_headK σ.objs.length σ.toks.length 1 [1, 2] (fun k : Nat => [(3, .pv (.int .i64 (1 + ((sumTo D.size d.kids k : Nat) : Int)))), (4, .pv (.int .i64 ↑k))]) (fun k => σ) (fun k => k ≤ d.kids.length) (fun k => d.kids.length - k) 0 (Nat.zero_le _) ⟨by simp [go_sem, sumTo_zero], rfl, by simp, by simp, by simp [go_sem, sumTo_zero], fun ob h => .inl (by simpa [go_sem, sumTo_zero] using h), by simp [go_sem]⟩ ?_
  intro k hk
  refine awp_seq ?_
  refine awp_seq ?_
  refine awp_region_run (sh := []) tyOk (by simp [go_sem] <;> rfl) ?_
  refine awp_cond (by first | rfl | (simp [go_sem] <;> rfl)) (fun h0 => ?_) (fun h0 => ?_)
  · have hlt : k < d.kids.length := by simp at h0; omega
    have hw : IntKind.i64.wrap (↑k + 1) = (k : Int) + 1 := wrap_succ (by omega)
    obtain ⟨x, hx, hxm⟩ := get_lt hlt
    have hsn := sumTo_next (f := D.size) hx
    have hs2 := sumTo_le (f := D.size) (l := d.kids) (k := k + 1) (fun x _ => Nat.le_refl _)
    have hsk := D.size_kids d
    have hwa : IntKind.i64.wrap (1 + ((sumTo D.size d.kids k : Nat) : Int) + (x.size : Int)) = 1 + ((sumTo D.size d.kids (k + 1) : Nat) : Int) := by rw [wrap_id (by omega) (by omega)]; omega
    refine awp_skip ?_
    refine awp_seq ?_
    refine awp_block ?_
    refine awp_reg ?_
    refine al_run 6 (sh := []) tyOk (by simp [go_sem, hx, hwa] <;> rfl) ?_
    refine al_fn rfl rfl rfl (by simp [go_sem, hx, hwa] <;> rfl) call65 ((ih x hxm (by have := D.size_kid_lt hxm; omega)) _ (by exact hgl)) (by simp [go_sem, hx, hwa] <;> rfl) (by simp [go_sem, hx, hwa]) rfl rfl ?_
    refine al_run 2 (sh := []) tyOk (by simp [go_sem, hx, hwa] <;> rfl) ?_
    refine al_nil ?_
    refine awp_region_run (sh := []) tyOk (by simp [go_sem, hx, hwa] <;> rfl) ?_
    exact next_intro (k + 1) σ.objs.length σ.toks.length 1 (hlt) (by omega) ⟨by simp [go_sem, hx, hwa, hw], rfl, by simp, by simp, by simp [go_sem, hx, hwa, hw], fun ob h => .inl (by simpa [go_sem, hx, hwa, hw] using h), by simp [go_sem]⟩
  · have hke : k = d.kids.length := by simp at h0; omega
    subst hke
    refine awp_exit ?_
    refine then_exit ?_
    refine then_exit ?_
    refine inBlock_hit ?_
    refine awp_seq ?_
    refine awp_region_run (sh := []) tyOk (by simp [go_sem] <;> rfl) ?_
    refine awp_ret ?_
    refine ends_ret (by simp [go_sem] <;> rfl) (by simp [go_sem]) ?_
    have hds := size_sum d
    exact ⟨by rw [hds]; simp [go_sem], by simp [go_sem]⟩

set_option maxHeartbeats 1000000 in
theorem c_Deep01 (d : D) (hd : d.size ≤ 1000000000) : Pur Tryz.prog (GL kr) 66 [.pv (enc d)] (.pv (.int .i64 d.deep)) := by
  induction d using D.ind with
  | _ kind num text kids ih =>
  generalize hD : D.mk kind num text kids = d at *
  have hk : d.kids = kids := by rw [← hD]; rfl
  clear hD
  subst hk
  have hkl := D.kids_length_lt d
  have hdd := D.deep_le_size d
  have hdk := deep_kids d
  refine pur_of fun σ hgl => ?_
  refine acalls_of tyOk Tryz.func66 rfl (by simp [Tryz.f66]) ?_
  refine awp_seq ?_
  refine awp_region_run (sh := []) tyOk (by simp [go_sem] <;> rfl) ?_
  refine awp_seq ?_
  refine awp_region_run (sh := []) tyOk (by simp [go_sem] <;> rfl) ?_
  refine awp_seq ?_
  refine awp_seq ?_
  refine awp_region_run (sh := []) tyOk (by simp [go_sem] <;> rfl) ?_
  refine awp_block ?_
  refine awp_loop_headK σ.objs.length σ.toks.length 1 [1, 2] (fun k : Nat => [(3, .pv (.int .i64 ((D.deeps (d.kids.take k) : Nat) : Int))), (4, .pv (.int .i64 ↑k))]) (fun k => σ) (fun k => k ≤ d.kids.length) (fun k => d.kids.length - k) 0 (Nat.zero_le _) ⟨by simp [go_sem, List.take_zero, D.deeps], rfl, by simp, by simp, by simp [go_sem, List.take_zero, D.deeps], fun ob h => .inl (by simpa [go_sem, List.take_zero, D.deeps] using h), by simp [go_sem]⟩ ?_
  intro k hk
  refine awp_seq ?_
  refine awp_seq ?_
  refine awp_region_run (sh := []) tyOk (by simp [go_sem] <;> rfl) ?_
  refine awp_cond (by first | rfl | (simp [go_sem] <;> rfl)) (fun h0 => ?_) (fun h0 => ?_)
  · have hlt : k < d.kids.length := by simp at h0; omega
    have hw : IntKind.i64.wrap (↑k + 1) = (k : Int) + 1 := wrap_succ (by omega)
    obtain ⟨x, hx, hxm⟩ := get_lt hlt
    have hdn := deeps_next hx
    refine awp_skip ?_
    refine awp_seq ?_
    refine awp_block ?_
    refine awp_reg ?_
    refine al_run 6 (sh := []) tyOk (by simp [go_sem, hx, hdn] <;> rfl) ?_
    refine al_fn rfl rfl rfl (by simp [go_sem, hx, hdn] <;> rfl) call66 ((ih x hxm (by have := D.size_kid_lt hxm; omega)) _ (by exact hgl)) (by simp [go_sem, hx, hdn] <;> rfl) (by simp [go_sem, hx, hdn]) rfl rfl ?_
    refine al_run 2 (sh := []) tyOk (by simp [go_sem, hx, hdn] <;> rfl) ?_
    refine al_nil ?_
    refine awp_region_run (sh := []) tyOk (by simp [go_sem, hx, hdn] <;> rfl) ?_
    exact next_intro (k + 1) σ.objs.length σ.toks.length 1 (hlt) (by omega) ⟨by simp [go_sem, hx, hdn, hw], rfl, by simp, by simp, by simp [go_sem, hx, hdn, hw], fun ob h => .inl (by simpa [go_sem, hx, hdn, hw] using h), by simp [go_sem]⟩
  · have hke : k = d.kids.length := by simp at h0; omega
    subst hke
    have hta : d.kids.take d.kids.length = d.kids := List.take_length
    have hwd : IntKind.i64.wrap (((D.deeps d.kids : Nat) : Int) + 1) = ((D.deeps d.kids : Nat) : Int) + 1 := wrap_id (by omega) (by omega)
    refine awp_exit ?_
    refine then_exit ?_
    refine then_exit ?_
    refine inBlock_hit ?_
    refine awp_seq ?_
    refine awp_region_run (sh := []) tyOk (by simp [go_sem, hta, hwd] <;> rfl) ?_
    refine awp_ret ?_
    refine ends_ret (by simp [go_sem] <;> rfl) (by simp [go_sem]) ?_
    exact ⟨by rw [hdk]; simp [go_sem, Int.add_comm], by simp [go_sem]⟩

set_option maxHeartbeats 1000000 in
theorem c_Check01 (d : D) (hd : d.size ≤ 1000000000) : Pur Tryz.prog (GL kr) 29 [.pv (enc d)] (.pv (.int .i64 (dcheck d))) := by
  refine pur_of fun σ hgl => ?_
  refine acalls_of tyOk Tryz.func29 rfl (by simp [Tryz.f29]) ?_
  refine awp_seq ?_
  refine awp_region_run (sh := []) tyOk (by simp [go_sem] <;> rfl) ?_
  refine awp_seq ?_
  refine awp_seq ?_
  refine awp_reg ?_
  refine al_run 1 (sh := []) tyOk (by simp [go_sem] <;> rfl) ?_
  refine al_fn rfl rfl rfl (by simp [go_sem] <;> rfl) call64 ((c_formed01 d hd) _ (by exact hgl)) (by simp [go_sem] <;> rfl) (by simp [go_sem]) rfl rfl ?_
  refine al_run 1 (sh := []) tyOk (by simp [go_sem] <;> rfl) ?_
  refine al_nil ?_
  refine awp_cond (by first | rfl | (simp [go_sem] <;> rfl)) (fun h0 => ?_) (fun h0 => ?_)
  · refine awp_seq ?_
    refine awp_region_run (sh := []) tyOk (by simp [go_sem] <;> rfl) ?_
    refine awp_ret ?_
    refine then_ret ?_
    refine ends_ret (by simp [go_sem] <;> rfl) (by simp [go_sem]) ?_
    exact ⟨by simp only [dcheck, h0, Bool.true_or, Bool.or_true, Bool.false_or, Bool.or_false, Bool.true_and, Bool.and_true, Bool.false_and, Bool.and_false, Bool.not_true, Bool.not_false, Bool.false_eq_true, if_true, if_false]; simp [go_sem], by simp [go_sem]⟩
  · refine awp_skip ?_
    refine awp_seq ?_
    refine awp_seq ?_
    refine awp_reg ?_
    refine al_run 1 (sh := []) tyOk (by simp [go_sem] <;> rfl) ?_
    refine al_fn rfl rfl rfl (by simp [go_sem] <;> rfl) call65 ((c_Parts01 d hd) _ (by exact hgl)) (by simp [go_sem] <;> rfl) (by simp [go_sem]) rfl rfl ?_
    refine al_run 2 (sh := []) tyOk (by simp [go_sem] <;> rfl) ?_
    refine al_splitT 9 (by first | rfl | (simp [go_sem] <;> rfl)) (fun h1 => ?_) (fun h1 => ?_)
    · refine al_skip 3 9 false (by simp [go_sem]) (by simp [go_sem]) rfl rfl ?_
      refine al_run 1 (sh := []) tyOk (by simp [go_sem] <;> rfl) ?_
      refine al_nil ?_
      refine awp_cond (b := true) (by simp [go_sem, h0, h1]) (fun h => ?_) (fun h => ?_)
      rotate_left
      · cases h
      refine awp_seq ?_
      refine awp_region_run (sh := []) tyOk (by simp [go_sem] <;> rfl) ?_
      refine awp_ret ?_
      refine then_ret ?_
      refine ends_ret (by simp [go_sem] <;> rfl) (by simp [go_sem]) ?_
      exact ⟨by simp only [dcheck, h0, h1, Bool.true_or, Bool.or_true, Bool.false_or, Bool.or_false, Bool.true_and, Bool.and_true, Bool.false_and, Bool.and_false, Bool.not_true, Bool.not_false, Bool.false_eq_true, if_true, if_false]; simp [go_sem], by simp [go_sem]⟩
    · refine al_runG (sh := []) 1 9 false false tyOk (by simp [go_sem]) rfl (by simp [go_sem]) rfl rfl (by simp [go_sem] <;> rfl) ?_
      refine al_fnG 9 false false (by simp [go_sem]) rfl (by simp [go_sem]) rfl rfl (by simp [go_sem] <;> rfl) call66 ((c_Deep01 d hd) _ (by exact hgl)) (by simp [go_sem] <;> rfl) (by simp [go_sem]) rfl rfl ?_
      refine al_runG (sh := []) 1 9 false false tyOk (by simp [go_sem]) rfl (by simp [go_sem]) rfl rfl (by simp [go_sem] <;> rfl) ?_
      refine al_run 1 (sh := []) tyOk (by simp [go_sem] <;> rfl) ?_
      refine al_nil ?_
      refine awp_cond (by first | rfl | (simp [go_sem] <;> rfl)) (fun h2 => ?_) (fun h2 => ?_)
      · refine awp_seq ?_
        refine awp_region_run (sh := []) tyOk (by simp [go_sem] <;> rfl) ?_
        refine awp_ret ?_
        refine then_ret ?_
        refine ends_ret (by simp [go_sem] <;> rfl) (by simp [go_sem]) ?_
        exact ⟨by simp only [dcheck, h0, h1, h2, Bool.true_or, Bool.or_true, Bool.false_or, Bool.or_false, Bool.true_and, Bool.and_true, Bool.false_and, Bool.and_false, Bool.not_true, Bool.not_false, Bool.false_eq_true, if_true, if_false]; simp [go_sem], by simp [go_sem]⟩
      · refine awp_skip ?_
        refine awp_seq ?_
        refine awp_region_run (sh := []) tyOk (by simp [go_sem] <;> rfl) ?_
        refine awp_ret ?_
        refine ends_ret (by simp [go_sem] <;> rfl) (by simp [go_sem]) ?_
        exact ⟨by simp only [dcheck, h0, h1, h2, Bool.true_or, Bool.or_true, Bool.false_or, Bool.or_false, Bool.true_and, Bool.and_true, Bool.false_and, Bool.and_false, Bool.not_true, Bool.not_false, Bool.false_eq_true, if_true, if_false]; simp [go_sem], by simp [go_sem]⟩

set_option maxHeartbeats 1000000 in
theorem c_Sym01 (s : ByteArray) : Pur Tryz.prog (GL kr) 77 [.pv (.str s)] (.pv (enc (dsym s))) := by
  refine pur_of fun σ hgl => ?_
  refine acalls_of tyOk Tryz.func77 rfl (by simp [Tryz.f77]) ?_
  refine awp_seq ?_
  refine awp_region_run (sh := []) tyOk (by simp [go_sem] <;> rfl) ?_
  refine awp_seq ?_
  refine awp_region_run (sh := []) tyOk (by simp [go_sem] <;> rfl) ?_
  refine awp_ret ?_
  refine ends_ret (by simp [go_sem] <;> rfl) (by simp [go_sem]) ?_
  exact ⟨by simp [go_sem, enc_sym], by simp [go_sem]⟩

set_option maxHeartbeats 1000000 in
theorem c_List01 (l : List D) (hl : l.length ≤ 1000000000) : Pur Tryz.prog (GL kr) 59 [.pv (.slice (l.map enc))] (.pv (enc (dlist l))) := by
  have h56 : l.length * 56 ≤ 140737488355328 := by omega
  refine pur_of fun σ hgl => ?_
  refine acalls_of tyOk Tryz.func59 rfl (by simp [Tryz.f59]) ?_
  refine awp_seq ?_
  refine awp_region_run (sh := []) tyOk (by simp [go_sem, h56] <;> rfl) ?_
  refine awp_seq ?_
  refine awp_region_run (sh := []) tyOk (by simp [go_sem, h56] <;> rfl) ?_
  refine awp_ret ?_
  refine ends_ret (by simp [go_sem, h56] <;> rfl) (by simp [go_sem]) ?_
  exact ⟨by simp [go_sem, h56, enc_list], by simp [go_sem]⟩

set_option maxHeartbeats 1000000 in
theorem c_Symbols (l : List ByteArray) (hl : l.length ≤ 1000000000) : Pur Tryz.prog (GL kr) 60 [.pv (.slice (l.map .str))] (.pv (enc (symsD l))) := by
  refine pur_of fun σ hgl => ?_
  refine acalls_of tyOk Tryz.func60 rfl (by simp [Tryz.f60]) ?_
  refine awp_seq ?_
  refine awp_region_run (sh := []) tyOk (by simp [go_sem] <;> rfl) ?_
  refine awp_seq ?_
  refine awp_region_run (sh := []) tyOk (by simp [go_sem] <;> rfl) ?_
  refine awp_seq ?_
  refine awp_seq ?_
  refine awp_region_run (sh := []) tyOk (by simp [go_sem] <;> rfl) ?_
  refine awp_adopt' 3 24 4 (by simp [go_sem] <;> rfl) ?_
  refine awp_block ?_
  refine awp_loop_headK σ.objs.length (σ.toks.length + 1) 1 [0, 2] (fun k : Nat => [(3, .acc ((outN l (dsym) k).map enc) σ.toks.length), (4, .pv (.int .i64 ↑k))]) (fun k => { σ with toks := σ.toks ++ [⟨k, 24, 4⟩] }) (fun k => k ≤ l.length) (fun k => l.length - k) 0 (Nat.zero_le _) ⟨by simp [go_sem, outN_zero], rfl, by simp, by simp, by simp [go_sem, outN_zero], fun ob h => .inl (by simpa [go_sem, outN_zero] using h), by simp [go_sem]⟩ ?_
  intro k hk
  refine awp_seq ?_
  refine awp_seq ?_
  refine awp_region_run (sh := []) tyOk (by simp [go_sem] <;> rfl) ?_
  refine awp_cond (by first | rfl | (simp [go_sem] <;> rfl)) (fun h0 => ?_) (fun h0 => ?_)
  · have hlt : k < l.length := by simp at h0; omega
    have hw : IntKind.i64.wrap (↑k + 1) = (k : Int) + 1 := wrap_succ (by omega)
    obtain ⟨x, hx, hxm⟩ := get_lt hlt
    have hon := outN_next (h := dsym) hx
    have hol := outN_len (l := l) (h := dsym) hk
    have hbb : (k + 1) * 56 ≤ 140737488355328 := by omega
    refine awp_skip ?_
    refine awp_seq ?_
    refine awp_block ?_
    refine awp_reg ?_
    refine al_run 5 (sh := []) tyOk (by simp [go_sem, hx, hol, hbb] <;> rfl) ?_
    refine al_fn rfl rfl rfl (by simp [go_sem, hx, hol, hbb] <;> rfl) call77 ((c_Sym01 x) _ (by exact hgl)) (by simp [go_sem, hx, hol, hbb] <;> rfl) (by simp [go_sem, hx, hol, hbb]) rfl rfl ?_
    refine al_run 3 (sh := []) tyOk (by simp [go_sem, hx, hol, hbb] <;> rfl) ?_
    refine al_nil ?_
    refine awp_region_run (sh := []) tyOk (by simp [go_sem, hx, hol, hbb] <;> rfl) ?_
    exact next_intro (k + 1) σ.objs.length (σ.toks.length + 1) 1 (hlt) (by omega) ⟨by simp [go_sem, hx, hol, hbb, hw, hon], rfl, by simp, by simp, by simp [go_sem, hx, hol, hbb, hw, hon], fun ob h => .inl (by simpa [go_sem, hx, hol, hbb, hw, hon] using h), by simp [go_sem]⟩
  · have hke : k = l.length := by simp at h0; omega
    subst hke
    refine awp_exit ?_
    refine then_exit ?_
    refine then_exit ?_
    refine inBlock_hit ?_
    refine awp_seq ?_
    refine awp_reg ?_
    refine al_run 1 (sh := []) tyOk (by simp [go_sem, outN_all] <;> rfl) ?_
    refine al_fn rfl rfl rfl (by simp [go_sem, outN_all] <;> rfl) call59 ((c_List01 (l.map dsym) (by simpa using hl)) _ (by exact hgl)) (by simp [go_sem, outN_all] <;> rfl) (by simp [go_sem, outN_all]) rfl rfl ?_
    refine al_run 1 (sh := []) tyOk (by simp [go_sem, outN_all] <;> rfl) ?_
    refine al_nil ?_
    refine awp_ret ?_
    refine ends_ret (by simp [go_sem] <;> rfl) (by simp [go_sem]) ?_
    exact ⟨by simp [go_sem, symsD], by simp [go_sem]⟩

set_option maxHeartbeats 1000000 in
theorem c_Find (l : List Df) (hl : l.length ≤ 1000000000) (d : D) (hs : ∀ x, x ∈ l → x.lab.size ≤ 1000000000) : Pur Tryz.prog (GL kr) 39 [.pv (.slice (l.map encDf)), .pv (enc d)] (.pv (.int .i64 (findI l d))) := by
  refine pur_of fun σ hgl => ?_
  refine acalls_of tyOk Tryz.func39 rfl (by simp [Tryz.f39]) ?_
  refine awp_seq ?_
  refine awp_region_run (sh := []) tyOk (by simp [go_sem] <;> rfl) ?_
  refine awp_seq ?_
  refine awp_seq ?_
  refine awp_region_run (sh := []) tyOk (by simp [go_sem] <;> rfl) ?_
  refine awp_block ?_
  refine awp_loop_headK σ.objs.length σ.toks.length 1 [0, 3, 4] (fun k : Nat => [(5, .pv (.int .i64 ↑k))]) (fun k => σ) (fun k => k ≤ l.length ∧ NotYet (fun x => deq x.lab d) l k) (fun k => l.length - k) 0 (⟨Nat.zero_le _, .zero⟩) ⟨by simp [go_sem], rfl, by simp, by simp, by simp [go_sem], fun ob h => .inl (by simpa [go_sem] using h), by simp [go_sem]⟩ ?_
  rintro k ⟨hk, hn⟩
  refine awp_seq ?_
  refine awp_seq ?_
  refine awp_region_run (sh := []) tyOk (by simp [go_sem] <;> rfl) ?_
  refine awp_cond (by first | rfl | (simp [go_sem] <;> rfl)) (fun h0 => ?_) (fun h0 => ?_)
  · have hlt : k < l.length := by simp at h0; omega
    have hw : IntKind.i64.wrap (↑k + 1) = (k : Int) + 1 := wrap_succ (by omega)
    obtain ⟨x, hx, hxm⟩ := get_lt hlt
    refine awp_skip ?_
    refine awp_seq ?_
    refine awp_block ?_
    refine awp_seq ?_
    refine awp_regDP tyOk tySz 6 (by kernel_rfl) (by decide) ?_
    refine ul_run 6 (by simp [go_sem, hx] <;> rfl) ?_
    refine ul_nil ?_
    refine al_fn rfl rfl rfl (by simp [go_sem, hx] <;> rfl) call15 ((c_Same x.lab (hs x hxm) d) _ (by exact hgl)) (by simp [go_sem, hx] <;> rfl) (by simp [go_sem, hx]) rfl rfl ?_
    refine al_nil ?_
    refine awp_cond (by first | rfl | (simp [go_sem, hx] <;> rfl)) (fun h1 => ?_) (fun h1 => ?_)
    · refine awp_seq ?_
      refine awp_region_run (sh := []) tyOk (by simp [go_sem, hx] <;> rfl) ?_
      refine awp_ret ?_
      refine inBlock_ret ?_
      refine then_ret ?_
      refine then_ret ?_
      refine inBlock_ret ?_
      refine then_ret ?_
      refine ends_ret (by simp [go_sem] <;> rfl) (by simp [go_sem]) ?_
      have hfi : findI l d = (k : Int) := idxOf_found hn hx h1
      exact ⟨by simp [go_sem, hfi], by simp [go_sem]⟩
    · refine awp_skip ?_
      refine awp_region_run (sh := []) tyOk (by simp [go_sem, hx] <;> rfl) ?_
      exact next_intro (k + 1) σ.objs.length σ.toks.length 1 (⟨hlt, hn.succ hx h1⟩) (by omega) ⟨by simp [go_sem, hx, hw], rfl, by simp, by simp, by simp [go_sem, hx, hw], fun ob h => .inl (by simpa [go_sem, hx, hw] using h), by simp [go_sem]⟩
  · have hke : k = l.length := by simp at h0; omega
    subst hke
    have hno : findI l d = -1 := idxOf_none hn
    refine awp_exit ?_
    refine then_exit ?_
    refine then_exit ?_
    refine inBlock_hit ?_
    refine awp_seq ?_
    refine awp_region_run (sh := []) tyOk (by simp [go_sem] <;> rfl) ?_
    refine awp_ret ?_
    refine ends_ret (by simp [go_sem] <;> rfl) (by simp [go_sem]) ?_
    exact ⟨by simp [go_sem, hno], by simp [go_sem]⟩

end Go.Proofs.YtienmmfjjffjaaaGreatDoor

/- The specification: expressions in order, calls. -/
namespace Go.Proofs.YtienmmfjjffjaaaGreatDoor
open Go Go.Aw
variable {kr : ResO}
end Go.Proofs.YtienmmfjjffjaaaGreatDoor

/- The specification: names, keys, bodies. -/
namespace Go.Proofs.YtienmmfjjffjaaaGreatDoor
open Go Go.Aw
variable {kr : ResO}
set_option maxHeartbeats 1000000 in
theorem c_key (d : D) (h0 : -9223372036854775808 ≤ d.num) (h1 : d.num ≤ 9223372036854775807) : Pur Tryz.prog (GL kr) 42 [.pv (enc d)] (.pv (.str (keyS d))) := by
  refine pur_of fun σ hgl => ?_
  refine acalls_of tyOk Tryz.func42 rfl (by simp [Tryz.f42]) ?_
  refine awp_seq ?_
  refine awp_region_run (sh := []) tyOk (by simp [go_sem] <;> rfl) ?_
  refine awp_seq ?_
  refine awp_seq ?_
  refine awp_region_run (sh := []) tyOk (by simp [go_sem] <;> rfl) ?_
  refine awp_cond (by first | rfl | (simp [go_sem] <;> rfl)) (fun h5 => ?_) (fun h5 => ?_)
  · refine awp_seq ?_
    refine awp_region_run (sh := []) tyOk (by simp [go_sem] <;> rfl) ?_
    refine awp_ret ?_
    refine then_ret ?_
    refine ends_ret (by simp [go_sem] <;> rfl) (by simp [go_sem]) ?_
    exact ⟨by simp only [keyS, h5, Bool.true_or, Bool.or_true, Bool.false_or, Bool.or_false, Bool.true_and, Bool.and_true, Bool.false_and, Bool.and_false, Bool.not_true, Bool.not_false, Bool.false_eq_true, if_true, if_false]; simp [go_sem], by simp [go_sem]⟩
  · refine awp_skip ?_
    refine awp_seq ?_
    refine awp_reg ?_
    refine al_run 2 (sh := []) tyOk (by simp [go_sem] <;> rfl) ?_
    refine al_fn rfl rfl rfl (by simp [go_sem] <;> rfl) call84 ((c_FormatInt d.num h0 h1) _ (by exact hgl)) (by simp [go_sem] <;> rfl) (by simp [go_sem]) rfl rfl ?_
    refine al_run 1 (sh := []) tyOk (by simp [go_sem] <;> rfl) ?_
    refine al_nil ?_
    refine awp_ret ?_
    refine ends_ret (by simp [go_sem] <;> rfl) (by simp [go_sem]) ?_
    exact ⟨by simp only [keyS, h5, Bool.true_or, Bool.or_true, Bool.false_or, Bool.or_false, Bool.true_and, Bool.and_true, Bool.false_and, Bool.and_false, Bool.not_true, Bool.not_false, Bool.false_eq_true, if_true, if_false]; simp [go_sem], by simp [go_sem]⟩

set_option maxHeartbeats 1000000 in
theorem c_refNames (d : D) (hd : d.size ≤ 1000000000) (hf : formed d = true) : Pur Tryz.prog (GL kr) 43 [.pv (enc d)] (.tuple [.pv (encN (names d)), .pv (.bool (names d).isSome)]) := by
  have hkl := D.kids_length_lt d
  refine pur_of fun σ hgl => ?_
  refine acalls_of tyOk Tryz.func43 rfl (by simp [Tryz.f43]) ?_
  refine awp_seq ?_
  refine awp_region_run (sh := []) tyOk (by simp [go_sem] <;> rfl) ?_
  refine awp_seq ?_
  refine awp_seq ?_
  refine awp_region_run (sh := []) tyOk (by simp [go_sem] <;> rfl) ?_
  refine awp_cond (by first | rfl | (simp [go_sem] <;> rfl)) (fun h0 => ?_) (fun h0 => ?_)
  · refine awp_seq ?_
    refine awp_region_run (sh := []) tyOk (by simp [go_sem] <;> rfl) ?_
    refine awp_ret ?_
    refine then_ret ?_
    refine ends_ret (by simp [go_sem] <;> rfl) (by simp [go_sem]) ?_
    exact ⟨by simp only [names, encN, h0, Bool.true_or, Bool.or_true, Bool.false_or, Bool.or_false, Bool.true_and, Bool.and_true, Bool.false_and, Bool.and_false, Bool.not_true, Bool.not_false, Bool.false_eq_true, if_true, if_false]; simp [go_sem], by simp [go_sem]⟩
  · refine awp_skip ?_
    refine awp_seq ?_
    refine awp_region_run (sh := []) tyOk (by simp [go_sem] <;> rfl) ?_
    refine awp_seq ?_
    refine awp_seq ?_
    refine awp_region_run (sh := []) tyOk (by simp [go_sem] <;> rfl) ?_
    refine awp_adopt' 4 9 1 (by simp [go_sem] <;> rfl) ?_
    refine awp_block ?_
    refine awp_loop_headK σ.objs.length (σ.toks.length + 1) 1 [1, 2, 3] (fun k : Nat => [(4, .acc ((textsL (d.kids.take k)).map .str) σ.toks.length), (5, .pv (.int .i64 ↑k))]) (fun k => { σ with toks := σ.toks ++ [⟨k, 9, 1⟩] }) (fun k => k ≤ d.kids.length ∧ names d = namesGo (textsL (d.kids.take k)) (d.kids.drop k)) (fun k => d.kids.length - k) 0 (⟨Nat.zero_le _, by simp only [names, h0, Bool.false_eq_true, if_false]; rfl⟩) ⟨by simp [go_sem, textsL_nil], rfl, by simp, by simp, by simp [go_sem, textsL_nil], fun ob h => .inl (by simpa [go_sem, textsL_nil] using h), by simp [go_sem]⟩ ?_
    rintro k ⟨hk, hn⟩
    refine awp_seq ?_
    refine awp_seq ?_
    refine awp_region_run (sh := []) tyOk (by simp [go_sem] <;> rfl) ?_
    refine awp_cond (by first | rfl | (simp [go_sem] <;> rfl)) (fun h1 => ?_) (fun h1 => ?_)
    · have hlt : k < d.kids.length := by simp at h1; omega
      have hw : IntKind.i64.wrap (↑k + 1) = (k : Int) + 1 := wrap_succ (by omega)
      obtain ⟨x, hx, hxm⟩ := get_lt hlt
      have ht := textsL_next hx
      have htl : (textsL (d.kids.take k)).length = k := by rw [textsL_length, List.length_take]; omega
      have hb : (k + 1) * 16 ≤ 140737488355328 := by omega
      have hst := namesGo_step hx
      have hfx := formed_kids hf hxm
      rw [← any_comm] at hst
      refine awp_skip ?_
      refine awp_seq ?_
      refine awp_block ?_
      refine awp_seq ?_
      refine awp_region_run (sh := []) tyOk (by simp [go_sem, hx, htl, hb, allSz_str] <;> rfl) ?_
      refine awp_seq ?_
      refine awp_seq ?_
      refine awp_reg ?_
      refine al_run 8 (sh := []) tyOk (by simp [go_sem, hx, htl, hb, allSz_str] <;> rfl) ?_
      refine al_splitT 30 (by first | rfl | (simp [go_sem, hx, htl, hb, allSz_str] <;> rfl)) (fun h2 => ?_) (fun h2 => ?_)
      · have hnm : isName x = false := by unfold isName; rw [show (x.kind == 2) = false by simpa using h2]; rfl
        refine al_skip 3 30 false (by simp [go_sem]) (by simp [go_sem]) rfl rfl ?_
        refine al_run 2 (sh := []) tyOk (by simp [go_sem, hx, htl, hb, allSz_str] <;> rfl) ?_
        refine al_skip 3 35 false (by simp [go_sem]) (by simp [go_sem]) rfl rfl ?_
        refine al_run 1 (sh := []) tyOk (by simp [go_sem, hx, htl, hb, allSz_str] <;> rfl) ?_
        refine al_nil ?_
        refine awp_cond (b := true) (by simp [go_sem, hx, htl, hb, allSz_str, h0, h1, h2, hnm]) (fun h => ?_) (fun h => ?_)
        rotate_left
        · cases h
        refine awp_seq ?_
        refine awp_region_run (sh := []) tyOk (by simp [go_sem, hx, htl, hb, allSz_str] <;> rfl) ?_
        refine awp_ret ?_
        refine then_ret ?_
        refine inBlock_ret ?_
        refine then_ret ?_
        refine then_ret ?_
        refine inBlock_ret ?_
        refine then_ret ?_
        refine ends_ret (by simp [go_sem] <;> rfl) (by simp [go_sem]) ?_
        have hs : names d = none := by rw [hn, hst]; simp only [Bool.not_true, Bool.not_false, hx, htl, hb, allSz_str, h0, h1, h2, hnm, Bool.true_or, Bool.or_true, Bool.false_or, Bool.or_false, Bool.true_and, Bool.and_true, Bool.false_and, Bool.and_false, Bool.not_true, Bool.not_false, Bool.false_eq_true, if_true, if_false]
        exact ⟨by simp [go_sem, hs, encN], by simp [go_sem]⟩
      · have hnm : rname x.text = isName x := rname_eq hfx (by simpa using h2)
        refine al_runG (sh := []) 1 30 false false tyOk (by simp [go_sem]) rfl (by simp [go_sem]) rfl rfl (by simp [go_sem, hx, htl, hb, allSz_str, hnm] <;> rfl) ?_
        refine al_fnG 30 false false (by simp [go_sem]) rfl (by simp [go_sem]) rfl rfl (by simp [go_sem, hx, htl, hb, allSz_str, hnm] <;> rfl) call83 ((c_Name x.text) _ (by exact hgl)) (by simp [go_sem, hx, htl, hb, allSz_str, hnm] <;> rfl) (by simp [go_sem, hx, htl, hb, allSz_str, hnm]) rfl rfl ?_
        refine al_runG (sh := []) 1 30 false false tyOk (by simp [go_sem]) rfl (by simp [go_sem]) rfl rfl (by simp [go_sem, hx, htl, hb, allSz_str, hnm] <;> rfl) ?_
        refine al_run 2 (sh := []) tyOk (by simp [go_sem, hx, htl, hb, allSz_str, hnm] <;> rfl) ?_
        refine al_splitT 35 (by first | rfl | (simp [go_sem, hx, htl, hb, allSz_str, hnm] <;> rfl)) (fun h3 => ?_) (fun h3 => ?_)
        · refine al_skip 3 35 false (by simp [go_sem]) (by simp [go_sem]) rfl rfl ?_
          refine al_run 1 (sh := []) tyOk (by simp [go_sem, hx, htl, hb, allSz_str, hnm] <;> rfl) ?_
          refine al_nil ?_
          refine awp_cond (b := true) (by simp [go_sem, hx, htl, hb, allSz_str, hnm, h0, h1, h2, h3]) (fun h => ?_) (fun h => ?_)
          rotate_left
          · cases h
          refine awp_seq ?_
          refine awp_region_run (sh := []) tyOk (by simp [go_sem, hx, htl, hb, allSz_str, hnm] <;> rfl) ?_
          refine awp_ret ?_
          refine then_ret ?_
          refine inBlock_ret ?_
          refine then_ret ?_
          refine then_ret ?_
          refine inBlock_ret ?_
          refine then_ret ?_
          refine ends_ret (by simp [go_sem] <;> rfl) (by simp [go_sem]) ?_
          have hs : names d = none := by rw [hn, hst]; simp only [Bool.not_true, Bool.not_false, hx, htl, hb, allSz_str, hnm, h0, h1, h2, h3, Bool.true_or, Bool.or_true, Bool.false_or, Bool.or_false, Bool.true_and, Bool.and_true, Bool.false_and, Bool.and_false, Bool.not_true, Bool.not_false, Bool.false_eq_true, if_true, if_false]
          exact ⟨by simp [go_sem, hs, encN], by simp [go_sem]⟩
        · refine al_runG (sh := []) 2 35 false false tyOk (by simp [go_sem]) rfl (by simp [go_sem]) rfl rfl (by simp [go_sem, hx, htl, hb, allSz_str, hnm] <;> rfl) ?_
          refine al_fnG 35 false false (by simp [go_sem]) rfl (by simp [go_sem]) rfl rfl (by simp [go_sem, hx, htl, hb, allSz_str, hnm] <;> rfl) call85 ((c_Among (textsL (d.kids.take k)) (by omega) x.text) _ (by exact hgl)) (by simp [go_sem, hx, htl, hb, allSz_str, hnm] <;> rfl) (by simp [go_sem, hx, htl, hb, allSz_str, hnm]) rfl rfl ?_
          refine al_run 1 (sh := []) tyOk (by simp [go_sem, hx, htl, hb, allSz_str, hnm] <;> rfl) ?_
          refine al_nil ?_
          refine awp_cond (by first | rfl | (simp [go_sem, hx, htl, hb, allSz_str, hnm] <;> rfl)) (fun h4 => ?_) (fun h4 => ?_)
          · refine awp_seq ?_
            refine awp_region_run (sh := []) tyOk (by simp [go_sem, hx, htl, hb, allSz_str, hnm] <;> rfl) ?_
            refine awp_ret ?_
            refine then_ret ?_
            refine inBlock_ret ?_
            refine then_ret ?_
            refine then_ret ?_
            refine inBlock_ret ?_
            refine then_ret ?_
            refine ends_ret (by simp [go_sem] <;> rfl) (by simp [go_sem]) ?_
            have hs : names d = none := by rw [hn, hst]; simp only [Bool.not_true, Bool.not_false, hx, htl, hb, allSz_str, hnm, h0, h1, h2, h3, h4, Bool.true_or, Bool.or_true, Bool.false_or, Bool.or_false, Bool.true_and, Bool.and_true, Bool.false_and, Bool.and_false, Bool.not_true, Bool.not_false, Bool.false_eq_true, if_true, if_false]
            exact ⟨by simp [go_sem, hs, encN], by simp [go_sem]⟩
          · refine awp_skip ?_
            refine awp_region_run (sh := []) tyOk (by simp [go_sem, hx, htl, hb, allSz_str, hnm] <;> rfl) ?_
            refine awp_region_run (sh := []) tyOk (by simp [go_sem, hx, htl, hb, allSz_str, hnm] <;> rfl) ?_
            exact next_intro (k + 1) σ.objs.length (σ.toks.length + 1) 1 (⟨hlt, by rw [hn, hst]; simp only [h0, h1, h2, h3, h4, Bool.true_or, Bool.or_true, Bool.false_or, Bool.or_false, Bool.true_and, Bool.and_true, Bool.false_and, Bool.and_false, Bool.not_true, Bool.not_false, Bool.false_eq_true, if_true, if_false]⟩) (by omega) ⟨by simp [go_sem, hx, htl, hb, allSz_str, hnm, hw, ht], rfl, by simp, by simp, by simp [go_sem, hx, htl, hb, allSz_str, hnm, hw, ht], fun ob h => .inl (by simpa [go_sem, hx, htl, hb, allSz_str, hnm, hw, ht] using h), by simp [go_sem]⟩
    · have hke : k = d.kids.length := by simp at h1; omega
      subst hke
      have htl : (textsL (d.kids.take d.kids.length)) = textsL d.kids := by rw [List.take_length]
      refine awp_exit ?_
      refine then_exit ?_
      refine then_exit ?_
      refine inBlock_hit ?_
      refine awp_seq ?_
      refine awp_region_run (sh := []) tyOk (by simp [go_sem] <;> rfl) ?_
      refine awp_ret ?_
      refine ends_ret (by simp [go_sem] <;> rfl) (by simp [go_sem]) ?_
      have hs : names d = some (textsL d.kids) := by rw [hn, namesGo_end, htl]
      exact ⟨by simp [go_sem, hs, encN, htl], by simp [go_sem]⟩

end Go.Proofs.YtienmmfjjffjaaaGreatDoor
