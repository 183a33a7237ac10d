/- Part of the proof that the statement holds for every input that its row lets in: the contracts of the program's functions, printed by a program out of annotations; the statement itself stands at the end of the last part. -/
import Derived.Test.YtienmmfjjffjaaaGreatDoorZS3
import Derived.Test.YtienmmfjjffjaaaGreatDoorZA3
import Derived.Test.YtienmmfjjffjaaaGreatDoorZS2
import Derived.Test.YtienmmfjjffjaaaGreatDoorRows
import Derived.Test.YtienmmfjjffjaaaGreatDoorZA4
import Derived.Test.YtienmmfjjffjaaaGreatDoorCards
import Derived.Test.YtienmmfjjffjaaaGreatDoorTie
set_option linter.unusedSimpArgs false
set_option linter.unusedVariables false
/- Expressions of programs, by the specification; data that are cut. -/
namespace Go.Proofs.YtienmmfjjffjaaaGreatDoor
open Go Go.Aw
variable {kr : ResO}
set_option maxHeartbeats 1000000 in
theorem c_named (s : ByteArray) (hs : s.size ≤ 40) : Pur Tryz.prog (GL kr) 74 [.pv (.str s)] (.pv (enc (namX s))) := by
 have hcat : 2 + (s).size ≤ 9223372036854775807 := by have := hs; omega
 refine pur_of fun σ hgl => ?_
 refine acalls_of tyOk Tryz.func74 rfl (by simp [Tryz.f74]) ?_
 refine awp_seq (aR (by simp [go_sem, hcat] <;> rfl) ?_)
 refine awp_seq (awp_reg ?_)
 refine aL 2 (by simp [go_sem, hcat] <;> rfl) ?_
 refine aF call77 ((c_Sym01 (xS s)) _ (by exact hgl)) (by simp [go_sem, hcat] <;> rfl) (by simp [go_sem, hcat, xS]) ?_
 refine aL 1 (by simp [go_sem, hcat] <;> rfl) ?_
 refine al_nil ?_
 refine awp_ret ?_
 refine ends_ret (by simp [go_sem, hcat] <;> rfl) (by simp [go_sem]) ?_
 exact ⟨by simp [go_sem, hcat, namX], by simp [go_sem]⟩

set_option maxHeartbeats 1000000 in
theorem c_called (n : Int) (h0 : 0 ≤ n) (h1 : n ≤ 2147483647) : Pur Tryz.prog (GL kr) 75 [.pv (.int .i64 n)] (.pv (enc (labX n))) := by
 have hcat : 2 + (itoaB n).size ≤ 9223372036854775807 := by have := itoaB_size (n := n) (by omega) (by omega); omega
 refine pur_of fun σ hgl => ?_
 refine acalls_of tyOk Tryz.func75 rfl (by simp [Tryz.f75]) ?_
 refine awp_seq (aR (by simp [go_sem, hcat] <;> rfl) ?_)
 refine awp_seq (awp_reg ?_)
 refine aL 1 (by simp [go_sem, hcat] <;> rfl) ?_
 refine aF call84 ((c_FormatInt n (by omega) (by omega)) _ (by exact hgl)) (by simp [go_sem, hcat] <;> rfl) (by simp [go_sem, hcat]) ?_
 refine aL 1 (by simp [go_sem, hcat] <;> rfl) ?_
 refine aF call77 ((c_Sym01 (fS n)) _ (by exact hgl)) (by simp [go_sem, hcat] <;> rfl) (by simp [go_sem, hcat, fS]) ?_
 refine aL 1 (by simp [go_sem, hcat] <;> rfl) ?_
 refine al_nil ?_
 refine awp_ret ?_
 refine ends_ret (by simp [go_sem, hcat] <;> rfl) (by simp [go_sem]) ?_
 exact ⟨by simp [go_sem, hcat, labX], by simp [go_sem]⟩

theorem label_bound {f : D} (h : isLabel f = true) (hf : formed f = true) : 0 ≤ f.num ∧ f.num ≤ 2147483647 := by
  rcases isLabel_kind h with hk | hk
  · exact label_num h hk
  · rw [(formed_sym hf hk).1]; omega
theorem rexpr_leaf' {lab nm : D → D} {bare : Bool} {d : D} (hg : GoodE d) (h2 : (d.kind == 2) = false) (h : d.kind = 1 ∨ word d = sQuote) : rexpr lab nm bare d = d := by
  rcases okE_kind hg.ok with hk | hk | hk
  · exact rexpr_num (by rw [hk]; rfl)
  · rw [hk] at h2; cases h2
  · rcases h with h | h
    · omega
    · rw [(hg.word hk).1] at h
      exact rexpr_quote (by rw [hk]; rfl) (by rw [hk]; rfl) (by simpa using h)

set_option maxHeartbeats 1000000 in
theorem c_sexpr (d : D) : ∀ (hg : GoodE d) (hd : d.size ≤ 900000000), Pur Tryz.prog (GL kr) 76 [.pv (enc d)] (.pv (enc (rexpr labN nmX true d))) := by
 induction d using D.ind with
 | _ kind num text kids ih =>
 generalize hD : D.mk kind num text kids = d at *
 have hk : d.kids = kids := by rw [← hD]; rfl
 clear hD
 subst hk
 have hkl := D.kids_length_lt d
 intro hg hd
 have hpl := parts_len d
 have hkd := hg.kids
 refine pur_of fun σ hgl => ?_
 refine acalls_of tyOk Tryz.func76 rfl (by simp [Tryz.f76]) ?_
 refine awp_seq (aR (by simp [go_sem] <;> rfl) ?_)
 refine awp_seq (awp_seq (aR (by simp [go_sem] <;> rfl) ?_))
 refine awp_cond (by first | rfl | (simp [go_sem] <;> rfl)) (fun h0 => ?_) (fun h0 => ?_)
 ·have hs2 : (d.kind == 2) = true := h0
  have hs1 : (d.kind == 1) = false := by have := hs2; simp only [beq_iff_eq] at this; rw [this]; rfl
  refine awp_seq (awp_reg ?_)
  refine aL 2 (by simp [go_sem] <;> rfl) ?_
  refine aF call74 ((c_named d.text (formed_text hg.1)) _ (by exact hgl)) (by simp [go_sem] <;> rfl) (by simp [go_sem]) ?_
  refine aL 1 (by simp [go_sem] <;> rfl) ?_
  refine al_nil ?_
  refine awp_ret ?_
  refine then_ret ?_
  refine ends_ret (by simp [go_sem] <;> rfl) (by simp [go_sem]) ?_
  exact ⟨by simp [go_sem, rexpr_sym hs1 hs2, nmX], by simp [go_sem]⟩
 ·have e2 : (d.kind == 2) = false := h0
  refine awp_skip ?_
  refine awp_seq (awp_reg ?_)
  refine aL 1 (by simp [go_sem] <;> rfl) ?_
  refine aF call82 ((c_Word d) _ (by exact hgl)) (by simp [go_sem] <;> rfl) (by simp [go_sem]) ?_
  refine aL 1 (by simp [go_sem] <;> rfl) ?_
  refine al_nil ?_
  refine awp_seq (awp_seq (awp_reg ?_))
  refine aL 4 (by simp [go_sem] <;> rfl) ?_
  refine al_splitT 18 (by first | rfl | (simp [go_sem] <;> rfl)) (fun h1 => ?_) (fun h1 => ?_)
  ·refine aK 2 18 false ?_
   refine aL 1 (by simp [go_sem] <;> rfl) ?_
   refine al_nil ?_
   refine awp_cond (b := true) (by simp [go_sem, h0, h1]) (fun h => ?_) (fun h => ?_)
   rotate_left
   ·cases h
   refine awp_seq (aR (by simp [go_sem] <;> rfl) ?_)
   refine awp_ret ?_
   refine then_ret ?_
   refine ends_ret (by simp [go_sem] <;> rfl) (by simp [go_sem]) ?_
   have hs : rexpr labN nmX true d = d := rexpr_leaf' hg e2 (by first | exact .inl (by simpa using h1) | exact .inr (of_decide_eq_true h1))
   exact ⟨by simp [go_sem, hs], by simp [go_sem]⟩
  ·have h1n : (d.kind == 1) = false := h1
   refine aLG 2 18 false (by simp [go_sem] <;> rfl) ?_
   refine aL 1 (by simp [go_sem] <;> rfl) ?_
   refine al_nil ?_
   refine awp_cond (by first | rfl | (simp [go_sem] <;> rfl)) (fun h2 => ?_) (fun h2 => ?_)
   ·refine awp_seq ?_
    refine aR (by simp [go_sem] <;> rfl) ?_
    refine awp_ret ?_
    refine then_ret ?_
    refine ends_ret (by simp [go_sem] <;> rfl) (by simp [go_sem]) ?_
    have hs : rexpr labN nmX true d = d := rexpr_leaf' hg e2 (by first | exact .inl (by simpa using h2) | exact .inr (of_decide_eq_true h2))
    exact ⟨by simp [go_sem, hs], by simp [go_sem]⟩
   ·have hq : decide (word d = sQuote) = false := h2
    have hk3 : d.kind = 3 := by rcases okE_kind hg.ok with e | e | e; (have h1 := h1n; rw [e] at h1; exact absurd h1 (by decide)); (rw [e] at e2; exact absurd e2 (by decide)); exact e
    have hw := (hg.word hk3).1
    have e1 : (d.kind == 1) = false := h1n
    obtain ⟨x0, r0, hx⟩ := kids_cons (okE_ne hg.ok hk3)
    have hx0 : d.kids[0]? = some x0 := by rw [hx]; rfl
    have hh := head_cons hx
    rw [hw] at hq
    refine awp_skip ?_
    refine awp_seq (aR (by simp [go_sem, hx0] <;> rfl) ?_)
    refine awp_seq (awp_seq (aR (by simp [go_sem, hx0] <;> rfl) ?_))
    refine awp_block ?_
    refine awp_seq (aR (by simp [go_sem, hx0] <;> rfl) ?_)
    refine awp_cond (by first | rfl | (simp [go_sem, hx0] <;> rfl)) (fun h3 => ?_) (fun h3 => ?_)
    ·have h2l := okE_two hg.ok hk3 (.inl (by rw [← hw]; exact of_decide_eq_true h3))
     obtain ⟨x1, hx1, hx1m⟩ := get_lt (l := d.kids) (k := 1) (by omega)
     have hd1 : d1 d.kids = x1 := getD_of hx1
     obtain ⟨pre, hpre⟩ : ∃ pre, pre = [x0, nmX x1] := ⟨_, rfl⟩
     have hsp := rexpr_let (lab := labN) (nm := nmX) (bare := true) e1 e2 hq (by rw [← hw]; exact h3)
     rw [hh, hd1, ← hpre] at hsp
     refine awp_regDC tyOk tySz 10 (by kernel_rfl) (by decide) ?_
     refine ul_run 9 (by simp [go_sem, hx0, hx1] <;> rfl) ?_
     refine ul_fn (by first | (intro _ _ hh; exact hh) | simp [go_sem]) rfl rfl rfl rfl (by simp [go_sem, hx0, hx1] <;> rfl) call74 ((c_named x1.text (formed_text (formed_kids hg.1 hx1m))) _ (by exact hgl)) (by simp [go_sem, hx0, hx1] <;> rfl) (by simp [go_sem, hx0, hx1]) rfl rfl ?_
     refine ul_nil ?_
     refine aL 2 (by simp [go_sem, hx0, hx1] <;> rfl) ?_
     refine al_nil ?_
     refine awp_seq (awp_reg ?_)
     refine aL 1 (by simp [go_sem, hx0, hx1] <;> rfl) ?_
     refine aF call88 ((c_Kids d hg.two) _ (by exact hgl)) (by simp [go_sem, hx0, hx1] <;> rfl) (by simp [go_sem, hx0, hx1]) ?_
     refine aL 1 (by simp [go_sem, hx0, hx1, hkd] <;> rfl) ?_
     refine al_nil ?_
     refine awp_seq (awp_seq (aR (by simp [go_sem, hx0, hx1, hkd] <;> rfl) ?_))
     refine awp_adopt' 4 24 4 (by simp [go_sem] <;> rfl) ?_
     refine awp_block ?_
     refine awp_loop_headK σ.objs.length (σ.toks.length + 1) 2 [2, 5] (fun k : Nat => [(4, .acc ((outK pre (parts d) (rexpr labN nmX true) k).map enc) σ.toks.length), (6, .pv (.int .i64 ↑k))]) (fun k => { σ with toks := σ.toks ++ [⟨pre.length + k, 24, 4⟩] }) (fun k => k ≤ (parts d).length) (fun k => (parts d).length - k) 0 (Nat.zero_le _) ⟨by simp [go_sem, hx0, hx1, hkd, hpre, outK_zero, nmX, labN], rfl, by simp, by simp, by simp [go_sem, hx0, hx1, hkd, hpre, outK_zero, nmX, labN], fun ob h => .inl (by simpa [go_sem, hx0, hx1, hkd, hpre, outK_zero, nmX, labN] using h), by simp [go_sem]⟩ ?_
     intro k hk
     refine awp_seq (awp_seq (aR (by simp [go_sem, hx0, hx1, hkd] <;> rfl) ?_))
     refine awp_cond (by first | rfl | (simp [go_sem, hx0, hx1, hkd] <;> rfl)) (fun h4 => ?_) (fun h4 => ?_)
     ·have hlt : k < (parts d).length := by simp at h4; omega
      have hw : IntKind.i64.wrap (↑k + 1) = (k : Int) + 1 := wrap_succ (by omega)
      obtain ⟨x, hx, hxm⟩ := get_lt hlt
      have hon := outK_next (pre := pre) (h := rexpr labN nmX true) hx
      have hol := outK_len (pre := pre) (h := rexpr labN nmX true) hk
      have hpr : pre.length ≤ 2 := by rw [hpre]; simp
      have hbb : (pre.length + k + 1) * 56 ≤ 140737488355328 := by omega
      refine awp_skip ?_
      refine awp_seq (awp_block ?_)
      refine awp_reg ?_
      refine aL 5 (by simp [go_sem, hx0, hx1, hkd, hx, hol, hbb] <;> rfl) ?_
      refine aF call76 ((ih x (parts_mem hxm) (hg.part hxm) (by have := D.size_kid_lt (parts_mem hxm); omega)) _ (by exact hgl)) (by simp [go_sem, hx0, hx1, hkd, hx, hol, hbb] <;> rfl) (by simp [go_sem, hx0, hx1, hkd, hx, hol, hbb]) ?_
      refine aL 3 (by simp [go_sem, hx0, hx1, hkd, hx, hol, hbb] <;> rfl) ?_
      refine al_nil ?_
      refine aR (by simp [go_sem, hx0, hx1, hkd, hx, hol, hbb] <;> rfl) ?_
      exact next_intro (k + 1) σ.objs.length (σ.toks.length + 1) 2 (hlt) (by omega) ⟨by simp [go_sem, hx0, hx1, hkd, hx, hol, hbb, hw, hon, Nat.add_assoc], rfl, by simp, by simp, by simp [go_sem, hx0, hx1, hkd, hx, hol, hbb, hw, hon, Nat.add_assoc], fun ob h => .inl (by simpa [go_sem, hx0, hx1, hkd, hx, hol, hbb, hw, hon, Nat.add_assoc] using h), by simp [go_sem]⟩
     ·have hke : k = (parts d).length := by simp at h4; omega
      subst hke
      refine awp_exit ?_
      refine then_exit ?_
      refine then_exit ?_
      refine inBlock_hit ?_
      refine awp_seq (awp_reg ?_)
      refine aL 1 (by simp [go_sem, hx0, hx1, hkd, outK_all] <;> rfl) ?_
      refine aF call59 ((c_List01 (pre ++ (parts d).map (rexpr labN nmX true)) (by rw [hpre]; simp; omega)) _ (by exact hgl)) (by simp [go_sem, hx0, hx1, hkd, outK_all] <;> rfl) (by simp [go_sem, hx0, hx1, hkd, outK_all]) ?_
      refine aL 1 (by simp [go_sem, hx0, hx1, hkd, outK_all] <;> rfl) ?_
      refine al_nil ?_
      refine awp_ret ?_
      refine ends_ret (by simp [go_sem] <;> rfl) (by simp [go_sem]) ?_
      exact ⟨by simp [go_sem, hsp], by simp [go_sem]⟩
    ·have hnl : decide (word d = sLet) = false := h3
     refine awp_seq (aR (by simp [go_sem, hx0] <;> rfl) ?_)
     refine awp_cond (by first | rfl | (simp [go_sem, hx0] <;> rfl)) (fun h5 => ?_) (fun h5 => ?_)
     ·have h2l := okE_two hg.ok hk3 (.inr (by rw [← hw]; exact of_decide_eq_true h5))
      obtain ⟨x1, hx1, hx1m⟩ := get_lt (l := d.kids) (k := 1) (by omega)
      have hd1 : d1 d.kids = x1 := getD_of hx1
      have hic : isCall d = true := isCall_iff.2 ⟨hk3, by rw [← hw]; exact of_decide_eq_true h5⟩
      have hlb := label_bound (hg.label hic).2.1 (hg.label hic).2.2
      rw [hd1] at hlb
      obtain ⟨pre, hpre⟩ : ∃ pre, pre = [labN x1] := ⟨_, rfl⟩
      have hsp := rexpr_call (lab := labN) (nm := nmX) (bare := true) e1 e2 hq (by rw [← hw]; exact hnl) (by rw [← hw]; exact h5)
      rw [if_pos rfl, hd1, ← hpre] at hsp
      refine awp_reg ?_
      refine aL 5 (by simp [go_sem, hx0, hx1] <;> rfl) ?_
      refine aF call75 ((c_called x1.num hlb.1 hlb.2) _ (by exact hgl)) (by simp [go_sem, hx0, hx1] <;> rfl) (by simp [go_sem, hx0, hx1]) ?_
      refine aL 2 (by simp [go_sem, hx0, hx1] <;> rfl) ?_
      refine al_nil ?_
      refine awp_seq (awp_reg ?_)
      refine aL 1 (by simp [go_sem, hx0, hx1] <;> rfl) ?_
      refine aF call88 ((c_Kids d hg.two) _ (by exact hgl)) (by simp [go_sem, hx0, hx1] <;> rfl) (by simp [go_sem, hx0, hx1]) ?_
      refine aL 1 (by simp [go_sem, hx0, hx1, hkd] <;> rfl) ?_
      refine al_nil ?_
      refine awp_seq (awp_seq (aR (by simp [go_sem, hx0, hx1, hkd] <;> rfl) ?_))
      refine awp_adopt' 4 24 4 (by simp [go_sem] <;> rfl) ?_
      refine awp_block ?_
      refine awp_loop_headK σ.objs.length (σ.toks.length + 1) 2 [2, 5] (fun k : Nat => [(4, .acc ((outK pre (parts d) (rexpr labN nmX true) k).map enc) σ.toks.length), (6, .pv (.int .i64 ↑k))]) (fun k => { σ with toks := σ.toks ++ [⟨pre.length + k, 24, 4⟩] }) (fun k => k ≤ (parts d).length) (fun k => (parts d).length - k) 0 (Nat.zero_le _) ⟨by simp [go_sem, hx0, hx1, hkd, hpre, outK_zero, nmX, labN], rfl, by simp, by simp, by simp [go_sem, hx0, hx1, hkd, hpre, outK_zero, nmX, labN], fun ob h => .inl (by simpa [go_sem, hx0, hx1, hkd, hpre, outK_zero, nmX, labN] using h), by simp [go_sem]⟩ ?_
      intro k hk
      refine awp_seq (awp_seq (aR (by simp [go_sem, hx0, hx1, hkd] <;> rfl) ?_))
      refine awp_cond (by first | rfl | (simp [go_sem, hx0, hx1, hkd] <;> rfl)) (fun h6 => ?_) (fun h6 => ?_)
      ·have hlt : k < (parts d).length := by simp at h6; omega
       have hw : IntKind.i64.wrap (↑k + 1) = (k : Int) + 1 := wrap_succ (by omega)
       obtain ⟨x, hx, hxm⟩ := get_lt hlt
       have hon := outK_next (pre := pre) (h := rexpr labN nmX true) hx
       have hol := outK_len (pre := pre) (h := rexpr labN nmX true) hk
       have hpr : pre.length ≤ 2 := by rw [hpre]; simp
       have hbb : (pre.length + k + 1) * 56 ≤ 140737488355328 := by omega
       refine awp_skip ?_
       refine awp_seq (awp_block ?_)
       refine awp_reg ?_
       refine aL 5 (by simp [go_sem, hx0, hx1, hkd, hx, hol, hbb] <;> rfl) ?_
       refine aF call76 ((ih x (parts_mem hxm) (hg.part hxm) (by have := D.size_kid_lt (parts_mem hxm); omega)) _ (by exact hgl)) (by simp [go_sem, hx0, hx1, hkd, hx, hol, hbb] <;> rfl) (by simp [go_sem, hx0, hx1, hkd, hx, hol, hbb]) ?_
       refine aL 3 (by simp [go_sem, hx0, hx1, hkd, hx, hol, hbb] <;> rfl) ?_
       refine al_nil ?_
       refine aR (by simp [go_sem, hx0, hx1, hkd, hx, hol, hbb] <;> rfl) ?_
       exact next_intro (k + 1) σ.objs.length (σ.toks.length + 1) 2 (hlt) (by omega) ⟨by simp [go_sem, hx0, hx1, hkd, hx, hol, hbb, hw, hon, Nat.add_assoc], rfl, by simp, by simp, by simp [go_sem, hx0, hx1, hkd, hx, hol, hbb, hw, hon, Nat.add_assoc], fun ob h => .inl (by simpa [go_sem, hx0, hx1, hkd, hx, hol, hbb, hw, hon, Nat.add_assoc] using h), by simp [go_sem]⟩
      ·have hke : k = (parts d).length := by simp at h6; omega
       subst hke
       refine awp_exit ?_
       refine then_exit ?_
       refine then_exit ?_
       refine inBlock_hit ?_
       refine awp_seq (awp_reg ?_)
       refine aL 1 (by simp [go_sem, hx0, hx1, hkd, outK_all] <;> rfl) ?_
       refine aF call59 ((c_List01 (pre ++ (parts d).map (rexpr labN nmX true)) (by rw [hpre]; simp; omega)) _ (by exact hgl)) (by simp [go_sem, hx0, hx1, hkd, outK_all] <;> rfl) (by simp [go_sem, hx0, hx1, hkd, outK_all]) ?_
       refine aL 1 (by simp [go_sem, hx0, hx1, hkd, outK_all] <;> rfl) ?_
       refine al_nil ?_
       refine awp_ret ?_
       refine ends_ret (by simp [go_sem] <;> rfl) (by simp [go_sem]) ?_
       exact ⟨by simp [go_sem, hsp], by simp [go_sem]⟩
     ·obtain ⟨pre, hpre⟩ : ∃ pre, pre = [x0] := ⟨_, rfl⟩
      have hsp := rexpr_other (lab := labN) (nm := nmX) (bare := true) e1 e2 hq (by rw [← hw]; exact hnl) (by rw [← hw]; exact h5)
      rw [hh, ← hpre] at hsp
      refine aR (by simp [go_sem, hx0] <;> rfl) ?_
      refine awp_seq (awp_reg ?_)
      refine aL 1 (by simp [go_sem, hx0] <;> rfl) ?_
      refine aF call88 ((c_Kids d hg.two) _ (by exact hgl)) (by simp [go_sem, hx0] <;> rfl) (by simp [go_sem, hx0]) ?_
      refine aL 1 (by simp [go_sem, hx0, hkd] <;> rfl) ?_
      refine al_nil ?_
      refine awp_seq (awp_seq (aR (by simp [go_sem, hx0, hkd] <;> rfl) ?_))
      refine awp_adopt' 4 24 4 (by simp [go_sem] <;> rfl) ?_
      refine awp_block ?_
      refine awp_loop_headK σ.objs.length (σ.toks.length + 1) 2 [2, 5] (fun k : Nat => [(4, .acc ((outK pre (parts d) (rexpr labN nmX true) k).map enc) σ.toks.length), (6, .pv (.int .i64 ↑k))]) (fun k => { σ with toks := σ.toks ++ [⟨pre.length + k, 24, 4⟩] }) (fun k => k ≤ (parts d).length) (fun k => (parts d).length - k) 0 (Nat.zero_le _) ⟨by simp [go_sem, hx0, hkd, hpre, outK_zero, nmX, labN], rfl, by simp, by simp, by simp [go_sem, hx0, hkd, hpre, outK_zero, nmX, labN], fun ob h => .inl (by simpa [go_sem, hx0, hkd, hpre, outK_zero, nmX, labN] using h), by simp [go_sem]⟩ ?_
      intro k hk
      refine awp_seq (awp_seq (aR (by simp [go_sem, hx0, hkd] <;> rfl) ?_))
      refine awp_cond (by first | rfl | (simp [go_sem, hx0, hkd] <;> rfl)) (fun h7 => ?_) (fun h7 => ?_)
      ·have hlt : k < (parts d).length := by simp at h7; omega
       have hw : IntKind.i64.wrap (↑k + 1) = (k : Int) + 1 := wrap_succ (by omega)
       obtain ⟨x, hx, hxm⟩ := get_lt hlt
       have hon := outK_next (pre := pre) (h := rexpr labN nmX true) hx
       have hol := outK_len (pre := pre) (h := rexpr labN nmX true) hk
       have hpr : pre.length ≤ 2 := by rw [hpre]; simp
       have hbb : (pre.length + k + 1) * 56 ≤ 140737488355328 := by omega
       refine awp_skip ?_
       refine awp_seq (awp_block ?_)
       refine awp_reg ?_
       refine aL 5 (by simp [go_sem, hx0, hkd, hx, hol, hbb] <;> rfl) ?_
       refine aF call76 ((ih x (parts_mem hxm) (hg.part hxm) (by have := D.size_kid_lt (parts_mem hxm); omega)) _ (by exact hgl)) (by simp [go_sem, hx0, hkd, hx, hol, hbb] <;> rfl) (by simp [go_sem, hx0, hkd, hx, hol, hbb]) ?_
       refine aL 3 (by simp [go_sem, hx0, hkd, hx, hol, hbb] <;> rfl) ?_
       refine al_nil ?_
       refine aR (by simp [go_sem, hx0, hkd, hx, hol, hbb] <;> rfl) ?_
       exact next_intro (k + 1) σ.objs.length (σ.toks.length + 1) 2 (hlt) (by omega) ⟨by simp [go_sem, hx0, hkd, hx, hol, hbb, hw, hon, Nat.add_assoc], rfl, by simp, by simp, by simp [go_sem, hx0, hkd, hx, hol, hbb, hw, hon, Nat.add_assoc], fun ob h => .inl (by simpa [go_sem, hx0, hkd, hx, hol, hbb, hw, hon, Nat.add_assoc] using h), by simp [go_sem]⟩
      ·have hke : k = (parts d).length := by simp at h7; omega
       subst hke
       refine awp_exit ?_
       refine then_exit ?_
       refine then_exit ?_
       refine inBlock_hit ?_
       refine awp_seq (awp_reg ?_)
       refine aL 1 (by simp [go_sem, hx0, hkd, outK_all] <;> rfl) ?_
       refine aF call59 ((c_List01 (pre ++ (parts d).map (rexpr labN nmX true)) (by rw [hpre]; simp; omega)) _ (by exact hgl)) (by simp [go_sem, hx0, hkd, outK_all] <;> rfl) (by simp [go_sem, hx0, hkd, outK_all]) ?_
       refine aL 1 (by simp [go_sem, hx0, hkd, outK_all] <;> rfl) ?_
       refine al_nil ?_
       refine awp_ret ?_
       refine ends_ret (by simp [go_sem] <;> rfl) (by simp [go_sem]) ?_
       exact ⟨by simp [go_sem, hsp], by simp [go_sem]⟩

set_option maxHeartbeats 1000000 in
theorem c_refRight (a : List D) (hal : a.length ≤ 1000) (has : ∀ x, x ∈ a → x.size ≤ 1000) : Pur Tryz.prog (GL kr) 111 [.pv (.slice (a.map enc))] (.pv (.bool (allRight a))) := by
 refine pur_of fun σ hgl => ?_
 refine acalls_of tyOk Tryz.func111 rfl (by simp [Tryz.f111]) ?_
 refine awp_seq (aR (by simp [go_sem] <;> rfl) ?_)
 refine awp_seq (awp_seq (aR (by simp [go_sem] <;> rfl) ?_))
 refine awp_block ?_
 refine awp_loop_headK σ.objs.length σ.toks.length 0 [0, 2] (fun k : Nat => [(3, .pv (.int .i64 ↑k))]) (fun k => σ) (fun k => k ≤ a.length ∧ NotYet (fun x => dcheck x != 0) a k) (fun k => a.length - k) 0 (⟨Nat.zero_le _, .zero⟩) ⟨by simp [go_sem], rfl, by simp, by simp, by simp [go_sem], fun ob h => .inl (by simpa [go_sem] using h), by simp [go_sem]⟩ ?_
 rintro k ⟨hk, hn⟩
 refine awp_seq (awp_seq (aR (by simp [go_sem] <;> rfl) ?_))
 refine awp_cond (by first | rfl | (simp [go_sem] <;> rfl)) (fun h0 => ?_) (fun h0 => ?_)
 ·have hlt : k < a.length := by simp at h0; omega
  have hw : IntKind.i64.wrap (↑k + 1) = (k : Int) + 1 := wrap_succ (by omega)
  obtain ⟨x, hx, hxm⟩ := get_lt hlt
  refine awp_skip ?_
  refine awp_seq (awp_block ?_)
  refine awp_seq (awp_reg ?_)
  refine aL 4 (by simp [go_sem, hx] <;> rfl) ?_
  refine aF call29 ((c_Check01 x (by have := has x hxm; omega)) _ (by exact hgl)) (by simp [go_sem, hx] <;> rfl) (by simp [go_sem, hx]) ?_
  refine aL 1 (by simp [go_sem, hx] <;> rfl) ?_
  refine al_nil ?_
  refine awp_cond (by first | rfl | (simp [go_sem, hx] <;> rfl)) (fun h1 => ?_) (fun h1 => ?_)
  ·refine awp_seq ?_
   refine aR (by simp [go_sem, hx] <;> rfl) ?_
   refine awp_ret ?_
   refine inBlock_ret ?_
   refine then_ret ?_
   refine then_ret ?_
   refine inBlock_ret ?_
   refine then_ret ?_
   refine ends_ret (by simp [go_sem] <;> rfl) (by simp [go_sem]) ?_
   have hany : (a.any fun x => dcheck x != 0) = true := any_found (p := fun x => dcheck x != 0) hx h1
   exact ⟨by simp only [allRight, hany]; simp [go_sem], by simp [go_sem]⟩
  ·refine awp_skip ?_
   refine aR (by simp [go_sem, hx] <;> rfl) ?_
   exact next_intro (k + 1) σ.objs.length σ.toks.length 0 (⟨hlt, hn.succ hx h1⟩) (by omega) ⟨by simp [go_sem, hx, hw], rfl, by simp, by simp, by simp [go_sem, hx, hw], fun ob h => .inl (by simpa [go_sem, hx, hw] using h), by simp [go_sem]⟩
 ·have hke : k = a.length := by simp at h0; omega
  subst hke
  have hany := hn.any
  refine awp_exit ?_
  refine then_exit ?_
  refine then_exit ?_
  refine inBlock_hit ?_
  refine awp_seq (aR (by simp [go_sem] <;> rfl) ?_)
  refine awp_ret ?_
  refine ends_ret (by simp [go_sem] <;> rfl) (by simp [go_sem]) ?_
  exact ⟨by simp only [allRight, hany]; simp [go_sem], by simp [go_sem]⟩

set_option maxHeartbeats 1000000 in
theorem c_Fit (p : D) (R : Right p) (P : List Df) (hP : P = rdefs p) (a : List D) (hal : a.length ≤ 1000) (has : ∀ x, x ∈ a → x.size ≤ 1000) : Pur Tryz.prog (GL kr) 73 [.pv (.slice (P.map encDf)), .pv (.slice (a.map enc))] (.pv (.bool (fright p a))) := by
 obtain ⟨p0, pr, hpk⟩ := kids_cons R.ne
 have hph := head_cons hpk
 have hp0m : p0 ∈ p.kids := by rw [hpk]; simp
 obtain ⟨x0, x1, x2, ns, hkk, hns, htd, hxh, _⟩ := R.df hp0m
 have hd1 : d1 p.head.kids = x1 := by rw [hph, hkk]; rfl
 have hP0 : P[0]? = some ⟨x0, ns, x2⟩ := by rw [hP, R.rdefs, hpk, List.map_cons, htd]; rfl
 have hnl := names_len hns
 refine pur_of fun σ hgl => ?_
 refine acalls_of tyOk Tryz.func73 rfl (by simp [Tryz.f73]) ?_
 refine awp_seq (aR (by simp [go_sem, hP0, agg_df] <;> rfl) ?_)
 refine awp_seq (awp_seq (aR (by simp [go_sem, hP0, agg_df] <;> rfl) ?_))
 refine awp_cond (by first | rfl | (simp [go_sem, hP0, agg_df] <;> rfl)) (fun h0 => ?_) (fun h0 => ?_)
 ·refine awp_seq ?_
  refine aR (by simp [go_sem, hP0, agg_df] <;> rfl) ?_
  refine awp_ret ?_
  refine then_ret ?_
  refine ends_ret (by simp [go_sem] <;> rfl) (by simp [go_sem]) ?_
  have hs : fright p a = false := by have := h0; unfold fright; rw [hd1, ← hnl]; simp only [bne_iff_ne] at this; simp [this]
  exact ⟨by simp [go_sem, hs], by simp [go_sem]⟩
 ·refine awp_skip ?_
  refine awp_seq (awp_reg ?_)
  refine aL 1 (by simp [go_sem, hP0, agg_df] <;> rfl) ?_
  refine aF call111 ((c_refRight a hal has) _ (by exact hgl)) (by simp [go_sem, hP0, agg_df] <;> rfl) (by simp [go_sem, hP0, agg_df]) ?_
  refine aL 1 (by simp [go_sem, hP0, agg_df] <;> rfl) ?_
  refine al_nil ?_
  refine awp_ret ?_
  refine ends_ret (by simp [go_sem] <;> rfl) (by simp [go_sem]) ?_
  have hs : fright p a = allRight a := by have := h0; unfold fright; rw [hd1, ← hnl]; simp only [bne_eq_false_iff_eq] at this; simp [this]
  exact ⟨by simp [go_sem, hs], by simp [go_sem]⟩

theorem c_refCanonO (p : D) (R : Right p) (P CR : List Df) (hP : P = rdefs p) (hC : CR = refCanon p) : Pur Tryz.prog (GL kr) 24 [.pv (.slice (P.map encDf))] (.pv (.slice (CR.map encDf))) := by rw [hP, hC]; exact c_refCanon p R

set_option maxHeartbeats 1000000 in
theorem c_refExpr (p : D) (R : Right p) (hp : p.size ≤ 900000) (P : List Df) (hP : P = rdefs p) (a : List D) (hal : a.length ≤ 1000) (has : ∀ x, x ∈ a → x.size ≤ 1000) : Pur Tryz.prog (GL kr) 32 [.pv (.slice (P.map encDf)), .pv (.slice (a.map enc))] (.tuple [.pv (enc (fexpr p a).1), .pv (.int .i64 (fexpr p a).2)]) := by
 obtain ⟨C, hC⟩ : ∃ C, C = canonL (reach p) labX nmX true := ⟨_, rfl⟩
 obtain ⟨CR, hCR⟩ : ∃ C, C = refCanon p := ⟨_, rfl⟩
 have hdx := R.expr_defs
 rw [← hC, ← hCR] at hdx
 have hcl : CR.length = C.length := by rw [← hdx, List.length_mapIdx]
 have hcg := R.refCanon_len
 rw [← hCR] at hcg
 have hcy := fun (i : Nat) (y : Df) (h : CR[i]? = some y) => R.refCanon_good (hCR ▸ h)
 have hout : exprOut p a = dlist [dsym sRec, dlist C, dlist (labX 0 :: a.map quoteD)] := by unfold exprOut; rw [← hC]
 have hos := R.exprOut_size a
 rw [hout] at hos
 have hsa : D.sizes a ≤ 1000 * a.length := sizes_bound has
 refine pur_of fun σ hgl => ?_
 refine acalls_of tyOk Tryz.func32 rfl (by simp [Tryz.f32]) ?_
 refine awp_seq (aR (by simp [go_sem] <;> rfl) ?_)
 refine awp_seq (awp_seq (awp_reg ?_))
 refine aL 2 (by simp [go_sem] <;> rfl) ?_
 refine aF call73 ((c_Fit p R P hP a hal has) _ (by exact hgl)) (by simp [go_sem] <;> rfl) (by simp [go_sem]) ?_
 refine aL 1 (by simp [go_sem] <;> rfl) ?_
 refine al_nil ?_
 refine awp_cond (by first | rfl | (simp [go_sem] <;> rfl)) (fun h0 => ?_) (fun h0 => ?_)
 ·refine awp_seq ?_
  refine aR (by simp [go_sem] <;> rfl) ?_
  refine awp_ret ?_
  refine then_ret ?_
  refine ends_ret (by simp [go_sem] <;> rfl) (by simp [go_sem]) ?_
  have hs : fexpr p a = (dnone, 2) := by rw [fexpr_ok a R, ← hC, hout, ← hcl]; simp only [Bool.not_true, h0, bA, bB, bC, bD, bE, bF, bG, bH, bI, bJ, Bool.false_eq_true, if_true, if_false]
  exact ⟨by rw [hs]; simp [go_sem, enc_none], by simp [go_sem]⟩
 ·refine awp_skip ?_
  refine awp_seq (awp_reg ?_)
  refine aL 1 (by simp [go_sem] <;> rfl) ?_
  refine aF call24 ((c_refCanonO p R P CR hP hCR) _ (by exact hgl)) (by simp [go_sem] <;> rfl) (by simp [go_sem]) ?_
  refine aL 1 (by simp [go_sem] <;> rfl) ?_
  refine al_nil ?_
  refine awp_seq (awp_seq (aR (by simp [go_sem] <;> rfl) ?_))
  refine awp_cond (by first | rfl | (simp [go_sem] <;> rfl)) (fun h1 => ?_) (fun h1 => ?_)
  ·refine awp_seq ?_
   refine aR (by simp [go_sem] <;> rfl) ?_
   refine awp_ret ?_
   refine then_ret ?_
   refine ends_ret (by simp [go_sem] <;> rfl) (by simp [go_sem]) ?_
   have hs : fexpr p a = (dnone, 7) := by rw [fexpr_ok a R, ← hC, hout, ← hcl]; simp only [Bool.not_true, h0, h1, bA, bB, bC, bD, bE, bF, bG, bH, bI, bJ, Bool.false_eq_true, if_true, if_false]
   exact ⟨by rw [hs]; simp [go_sem, enc_none], by simp [go_sem]⟩
  ·refine awp_skip ?_
   refine awp_seq (aR (by simp [go_sem] <;> rfl) ?_)
   refine awp_seq (awp_seq (aR (by simp [go_sem] <;> rfl) ?_))
   refine awp_adopt' 7 24 4 (by simp [go_sem] <;> rfl) ?_
   refine awp_block ?_
   refine awp_loop_headK σ.objs.length (σ.toks.length + 1) 1 [1, 4, 5, 6] (fun k : Nat => [(7, .acc ((exprsK CR k).map enc) σ.toks.length), (8, .pv (.int .i64 ↑k))]) (fun k => { σ with toks := σ.toks ++ [⟨k, 24, 4⟩] }) (fun k => k ≤ CR.length) (fun k => CR.length - k) 0 (Nat.zero_le _) ⟨by simp [go_sem, exprsK_zero], rfl, by simp, by simp, by simp [go_sem, exprsK_zero], fun ob h => .inl (by simpa [go_sem, exprsK_zero] using h), by simp [go_sem]⟩ ?_
   intro k hk
   refine awp_seq (awp_seq (aR (by simp [go_sem] <;> rfl) ?_))
   refine awp_cond (by first | rfl | (simp [go_sem] <;> rfl)) (fun h2 => ?_) (fun h2 => ?_)
   ·have hlt : k < CR.length := by simp at h2; omega
    have hw : IntKind.i64.wrap (↑k + 1) = (k : Int) + 1 := wrap_succ (by omega)
    obtain ⟨y, hy, hym⟩ := get_lt hlt
    obtain ⟨hy1, hy2, hy3, hy4⟩ := hcy k y hy
    have hon := exprsK_next hy
    have hol := exprsK_len hk
    have hdf : dlist [labX k, dlist (y.ps.map namX), rexpr labN nmX true y.bod] = defX k y := rfl
    have hbb : (k + 1) * 56 ≤ 140737488355328 := by omega
    refine awp_skip ?_
    refine awp_seq (awp_block ?_)
    refine awp_seq (aR (by simp [go_sem, hy, hol, hbb] <;> rfl) ?_)
    refine awp_seq (awp_seq (aR (by simp [go_sem, hy, hol, hbb] <;> rfl) ?_))
    refine awp_adopt' 9 24 4 (by simp [go_sem] <;> rfl) ?_
    refine awp_block ?_
    refine awp_loop_headK σ.objs.length (σ.toks.length + 2) 1 [1, 4, 5, 6, 7, 8] (fun j : Nat => [(9, .acc ((outN y.ps namX j).map enc) (σ.toks.length + 1)), (10, .pv (.int .i64 ↑j))]) (fun j => { σ with toks := σ.toks ++ [⟨k, 24, 4⟩, ⟨j, 24, 4⟩] }) (fun j => j ≤ y.ps.length) (fun j => y.ps.length - j) 0 (Nat.zero_le _) ⟨by simp [go_sem, hy, hol, hbb, outN_zero], rfl, by simp, by simp, by simp [go_sem, hy, hol, hbb, outN_zero], fun ob h => .inl (by simpa [go_sem, hy, hol, hbb, outN_zero] using h), by simp [go_sem]⟩ ?_
    intro j hk
    refine awp_seq (awp_seq (aR (by simp [go_sem, hy, hol, hbb] <;> rfl) ?_))
    refine awp_cond (by first | rfl | (simp [go_sem, hy, hol, hbb] <;> rfl)) (fun h3 => ?_) (fun h3 => ?_)
    ·have hlt : j < y.ps.length := by simp at h3; omega
     have hw : IntKind.i64.wrap (↑j + 1) = (j : Int) + 1 := wrap_succ (by omega)
     obtain ⟨s, hs, hsm⟩ := get_lt hlt
     have hpn := outN_next (h := namX) hs
     have hpl := outN_len (l := y.ps) (h := namX) (k := j) (by omega)
     have hbj : (j + 1) * 56 ≤ 140737488355328 := by omega
     refine awp_skip ?_
     refine awp_seq (awp_block ?_)
     refine awp_reg ?_
     refine aL 9 (by simp [go_sem, hy, hol, hbb, hs, hpl, hbj] <;> rfl) ?_
     refine aF call74 ((c_named s (hy4 s hsm)) _ (by exact hgl)) (by simp [go_sem, hy, hol, hbb, hs, hpl, hbj] <;> rfl) (by simp [go_sem, hy, hol, hbb, hs, hpl, hbj]) ?_
     refine aL 3 (by simp [go_sem, hy, hol, hbb, hs, hpl, hbj] <;> rfl) ?_
     refine al_nil ?_
     refine aR (by simp [go_sem, hy, hol, hbb, hs, hpl, hbj] <;> rfl) ?_
     exact next_intro (j + 1) σ.objs.length (σ.toks.length + 2) 1 (hlt) (by omega) ⟨by simp [go_sem, hy, hol, hbb, hs, hpl, hbj, hw, hpn], rfl, by simp, by simp, by simp [go_sem, hy, hol, hbb, hs, hpl, hbj, hw, hpn], fun ob h => .inl (by simpa [go_sem, hy, hol, hbb, hs, hpl, hbj, hw, hpn] using h), by simp [go_sem]⟩
    ·have hke : j = y.ps.length := by simp at h3; omega
     subst hke
     refine awp_exit ?_
     refine then_exit ?_
     refine then_exit ?_
     refine inBlock_hit ?_
     refine awp_regDC tyOk tySz 14 (by kernel_rfl) (by decide) ?_
     refine ul_run 2 (by simp [go_sem, hy, hol, hbb, outN_all] <;> rfl) ?_
     refine ul_fn (by first | (intro _ _ hh; exact hh) | simp [go_sem]) rfl rfl rfl rfl (by simp [go_sem, hy, hol, hbb, outN_all] <;> rfl) call75 ((c_called k (by omega) (by omega)) _ (by exact hgl)) (by simp [go_sem, hy, hol, hbb, outN_all] <;> rfl) (by simp [go_sem, hy, hol, hbb, outN_all]) rfl rfl ?_
     refine ul_run 1 (by simp [go_sem, hy, hol, hbb, outN_all] <;> rfl) ?_
     refine ul_fn (by first | (intro _ _ hh; exact hh) | simp [go_sem]) rfl rfl rfl rfl (by simp [go_sem, hy, hol, hbb, outN_all] <;> rfl) call59 ((c_List01 (y.ps.map namX) (by simp; omega)) _ (by exact hgl)) (by simp [go_sem, hy, hol, hbb, outN_all] <;> rfl) (by simp [go_sem, hy, hol, hbb, outN_all]) rfl rfl ?_
     refine ul_run 5 (by simp [go_sem, hy, hol, hbb, outN_all] <;> rfl) ?_
     refine ul_fn (by first | (intro _ _ hh; exact hh) | simp [go_sem]) rfl rfl rfl rfl (by simp [go_sem, hy, hol, hbb, outN_all] <;> rfl) call76 ((c_sexpr y.bod hy1 (by omega)) _ (by exact hgl)) (by simp [go_sem, hy, hol, hbb, outN_all] <;> rfl) (by simp [go_sem, hy, hol, hbb, outN_all]) rfl rfl ?_
     refine ul_run 1 (by simp [go_sem, hy, hol, hbb, outN_all] <;> rfl) ?_
     refine ul_fn (by first | (intro _ _ hh; exact hh) | simp [go_sem]) rfl rfl rfl rfl (by simp [go_sem, hy, hol, hbb, outN_all] <;> rfl) call59 ((c_List01 [labX k, dlist (y.ps.map namX), rexpr labN nmX true y.bod] (by simp)) _ (by exact hgl)) (by simp [go_sem, hy, hol, hbb, outN_all] <;> rfl) (by simp [go_sem, hy, hol, hbb, outN_all]) rfl rfl ?_
     refine ul_run 1 (by simp [go_sem, hy, hol, hbb, outN_all, hdf] <;> rfl) ?_
     refine ul_nil ?_
     refine aL 2 (by simp [go_sem, hy, hol, hbb, outN_all, hdf] <;> rfl) ?_
     refine al_nil ?_
     refine aR (by simp [go_sem, hy, hol, hbb, outN_all, hdf] <;> rfl) ?_
     exact next_intro (k + 1) σ.objs.length (σ.toks.length + 1) 1 (hlt) (by omega) ⟨by simp [go_sem, hy, hol, hbb, outN_all, hdf, hw, hon], rfl, by simp, by simp, by simp [go_sem, hy, hol, hbb, outN_all, hdf, hw, hon], fun ob h => .inl (by simpa [go_sem, hy, hol, hbb, outN_all, hdf, hw, hon] using h), by simp [go_sem]⟩
   ·have hke : k = CR.length := by simp at h2; omega
    subst hke
    have hoa : exprsK CR CR.length = C := by rw [exprsK_all, hdx]
    refine awp_exit ?_
    refine then_exit ?_
    refine then_exit ?_
    refine inBlock_hit ?_
    refine awp_seq (awp_reg ?_)
    refine aF call75 ((c_called 0 (by decide) (by decide)) _ (by exact hgl)) (by simp [go_sem, hoa] <;> rfl) (by simp [go_sem, hoa]) ?_
    refine aL 2 (by simp [go_sem, hoa] <;> rfl) ?_
    refine al_nil ?_
    refine awp_seq (awp_seq (aR (by simp [go_sem, hoa] <;> rfl) ?_))
    refine awp_adopt' 11 24 4 (by simp [go_sem] <;> rfl) ?_
    refine awp_block ?_
    refine awp_loop_headK σ.objs.length (σ.toks.length + 2) 1 [1, 4, 5, 7] (fun k : Nat => [(11, .acc ((outK [labX 0] a quoteD k).map enc) (σ.toks.length + 1)), (12, .pv (.int .i64 ↑k))]) (fun k => { σ with toks := σ.toks ++ [⟨CR.length, 24, 4⟩, ⟨1 + k, 24, 4⟩] }) (fun k => k ≤ a.length) (fun k => a.length - k) 0 (Nat.zero_le _) ⟨by simp [go_sem, hoa, outK_zero], rfl, by simp, by simp, by simp [go_sem, hoa, outK_zero], fun ob h => .inl (by simpa [go_sem, hoa, outK_zero] using h), by simp [go_sem]⟩ ?_
    intro k hk
    refine awp_seq (awp_seq (aR (by simp [go_sem, hoa] <;> rfl) ?_))
    refine awp_cond (by first | rfl | (simp [go_sem, hoa] <;> rfl)) (fun h4 => ?_) (fun h4 => ?_)
    ·have hlt : k < a.length := by simp at h4; omega
     have hw : IntKind.i64.wrap (↑k + 1) = (k : Int) + 1 := wrap_succ (by omega)
     obtain ⟨x, hx, hxm⟩ := get_lt hlt
     have hon := outK_next (pre := [labX 0]) (h := quoteD) hx
     have hol := outK_len (pre := [labX 0]) (h := quoteD) hk
     have hqd : dlist [dsym sQuote, x] = quoteD x := rfl
     rw [show ([labX 0] : List D).length = 1 from rfl] at hol
     have hbb : (1 + k + 1) * 56 ≤ 140737488355328 := by omega
     refine awp_skip ?_
     refine awp_seq (awp_block ?_)
     refine awp_regDC tyOk tySz 9 (by kernel_rfl) (by decide) ?_
     refine ul_run 1 (by simp [go_sem, hoa, hx, hol, hbb] <;> rfl) ?_
     refine ul_fn (by first | (intro _ _ hh; exact hh) | simp [go_sem]) rfl rfl rfl rfl (by simp [go_sem, hoa, hx, hol, hbb] <;> rfl) call77 ((c_Sym01 sQuote) _ (by exact hgl)) (by simp [go_sem, hoa, hx, hol, hbb] <;> rfl) (by simp [go_sem, hoa, hx, hol, hbb, eQuote]) rfl rfl ?_
     refine ul_run 5 (by simp [go_sem, hoa, hx, hol, hbb] <;> rfl) ?_
     refine ul_fn (by first | (intro _ _ hh; exact hh) | simp [go_sem]) rfl rfl rfl rfl (by simp [go_sem, hoa, hx, hol, hbb] <;> rfl) call59 ((c_List01 [dsym sQuote, x] (by simp)) _ (by exact hgl)) (by simp [go_sem, hoa, hx, hol, hbb] <;> rfl) (by simp [go_sem, hoa, hx, hol, hbb]) rfl rfl ?_
     refine ul_run 1 (by simp [go_sem, hoa, hx, hol, hbb, hqd] <;> rfl) ?_
     refine ul_nil ?_
     refine aL 2 (by simp [go_sem, hoa, hx, hol, hbb, hqd] <;> rfl) ?_
     refine al_nil ?_
     refine aR (by simp [go_sem, hoa, hx, hol, hbb, hqd] <;> rfl) ?_
     exact next_intro (k + 1) σ.objs.length (σ.toks.length + 2) 1 (hlt) (by omega) ⟨by simp [go_sem, hoa, hx, hol, hbb, hqd, hw, hon, Nat.add_assoc], rfl, by simp, by simp, by simp [go_sem, hoa, hx, hol, hbb, hqd, hw, hon, Nat.add_assoc], fun ob h => .inl (by simpa [go_sem, hoa, hx, hol, hbb, hqd, hw, hon, Nat.add_assoc] using h), by simp [go_sem]⟩
    ·have hke : k = a.length := by simp at h4; omega
     subst hke
     refine awp_exit ?_
     refine then_exit ?_
     refine then_exit ?_
     refine inBlock_hit ?_
     refine awp_seq (awp_reg ?_)
     refine aF call77 ((c_Sym01 sRec) _ (by exact hgl)) (by simp [go_sem, hoa, outK_all] <;> rfl) (by simp [go_sem, hoa, outK_all, eRec]) ?_
     refine aL 1 (by simp [go_sem, hoa, outK_all] <;> rfl) ?_
     refine aF call59 ((c_List01 C (by omega)) _ (by exact hgl)) (by simp [go_sem, hoa, outK_all] <;> rfl) (by simp [go_sem, hoa, outK_all]) ?_
     refine aL 1 (by simp [go_sem, hoa, outK_all] <;> rfl) ?_
     refine aF call59 ((c_List01 (labX 0 :: a.map quoteD) (by simp; omega)) _ (by exact hgl)) (by simp [go_sem, hoa, outK_all] <;> rfl) (by simp [go_sem, hoa, outK_all]) ?_
     refine aL 1 (by simp [go_sem, hoa, outK_all] <;> rfl) ?_
     refine aF call59 ((c_List01 [dsym sRec, dlist C, dlist (labX 0 :: a.map quoteD)] (by simp)) _ (by exact hgl)) (by simp [go_sem, hoa, outK_all] <;> rfl) (by simp [go_sem, hoa, outK_all]) ?_
     refine aL 2 (by simp [go_sem, hoa, outK_all] <;> rfl) ?_
     refine al_nil ?_
     refine awp_seq (awp_seq (awp_reg ?_))
     refine aL 1 (by simp [go_sem, hoa, outK_all] <;> rfl) ?_
     refine aF call29 ((c_Check01 (dlist [dsym sRec, dlist C, dlist (labX 0 :: a.map quoteD)]) (by omega)) _ (by exact hgl)) (by simp [go_sem, hoa, outK_all] <;> rfl) (by simp [go_sem, hoa, outK_all]) ?_
     refine aL 1 (by simp [go_sem, hoa, outK_all] <;> rfl) ?_
     refine al_nil ?_
     refine awp_cond (by first | rfl | (simp [go_sem, hoa, outK_all] <;> rfl)) (fun h5 => ?_) (fun h5 => ?_)
     ·refine awp_seq ?_
      refine aR (by simp [go_sem, hoa, outK_all] <;> rfl) ?_
      refine awp_ret ?_
      refine then_ret ?_
      refine ends_ret (by simp [go_sem] <;> rfl) (by simp [go_sem]) ?_
      have hs : fexpr p a = (dnone, 3) := by rw [fexpr_ok a R, ← hC, hout, ← hcl]; simp only [Bool.not_true, hoa, outK_all, h0, h1, h5, bA, bB, bC, bD, bE, bF, bG, bH, bI, bJ, Bool.false_eq_true, if_true, if_false]
      exact ⟨by rw [hs]; simp [go_sem, enc_none], by simp [go_sem]⟩
     ·refine awp_skip ?_
      refine awp_seq (aR (by simp [go_sem, hoa, outK_all] <;> rfl) ?_)
      refine awp_ret ?_
      refine ends_ret (by simp [go_sem] <;> rfl) (by simp [go_sem]) ?_
      have hs : fexpr p a = (dlist [dsym sRec, dlist C, dlist (labX 0 :: a.map quoteD)], 0) := by rw [fexpr_ok a R, ← hC, hout, ← hcl]; simp only [Bool.not_true, hoa, outK_all, h0, h1, h5, bA, bB, bC, bD, bE, bF, bG, bH, bI, bJ, Bool.false_eq_true, if_true, if_false]
      exact ⟨by rw [hs]; simp [go_sem, enc_none], by simp [go_sem]⟩

set_option maxHeartbeats 1000000 in
theorem c_CutM (d : D) (m : Nat) (dp : Int) (hm0 : 0 < m) (hm : m ≤ 3000) (hd1 : 1 ≤ dp) (hd2 : dp ≤ 2000) (σ : Store) (hgl : σ.gl = (GL kr)) : ACalls Tryz.prog 35 [.pv (enc d), .pv (.int .i64 (m : Int)), .pv (.int .i64 dp)] σ (fun r σ' => ∃ d' : D, r = .pv (enc d') ∧ σ' = σ ∧ d'.size ≤ m) := by
 refine ACalls.less (R := fun r σ' => ∃ d' : D, WVt σ.objs.length σ.toks.length 0 r (.pv (enc d')) ∧ σ'.cut σ.objs.length σ.toks.length = σ ∧ d'.size ≤ m) ?_ (fun r σ' ⟨d', h1, h2, h3⟩ => ⟨_, _, _, h1, Nat.le_refl _, Nat.le_refl _, fun ob hob => .inl (by rw [← h2]; exact hob), ⟨d', rfl, h2, h3⟩⟩)
 refine acalls_of tyOk Tryz.func35 rfl (by simp [Tryz.f35]) ?_
 refine awp_seq (aR (by simp [go_sem] <;> rfl) ?_)
 refine awp_seq (awp_region_run (sh := [10]) tyOk (by simp [go_sem] <;> rfl) ?_)
 refine awp_seq (awp_reg ?_)
 refine aL 3 (by simp [go_sem] <;> rfl) ?_
 refine al_callW rfl rfl rfl (by simp [go_sem] <;> rfl) call79 (c_cut d σ.objs.length m dp _ (by exact hgl) (by simp [go_sem]) hm0 hm hd1 hd2) (by simp [go_sem] <;> rfl) (by simp [go_sem]) rfl rfl ?_
 rintro r σ' ⟨d', lv', rfl, rfl, hsz'⟩
 refine aL 1 (by simp [go_sem] <;> rfl) ?_
 refine al_nil ?_
 refine awp_ret ?_
 refine ends_ret (by simp [go_sem] <;> rfl) (by simp [go_sem]) ?_
 exact ⟨d', by simp [go_sem], by simp [setC, go_sem], by omega⟩

set_option maxHeartbeats 1000000 in
theorem c_CutAll (a : List D) (σ : Store) (hgl : σ.gl = (GL kr)) : ACalls Tryz.prog 30 [.pv (.slice (a.map enc))] σ (fun r σ' => ∃ b : List D, r = .pv (.slice (b.map enc)) ∧ σ' = σ ∧ b.length ≤ 10 ∧ ∀ x, x ∈ b → x.size ≤ 1000) := by
 refine ACalls.less (R := fun r σ' => ∃ b : List D, WVt σ.objs.length σ.toks.length 0 r (.pv (.slice (b.map enc))) ∧ σ'.cut σ.objs.length σ.toks.length = σ ∧ b.length ≤ 10 ∧ ∀ x, x ∈ b → x.size ≤ 1000) ?_ (fun r σ' ⟨d', h1, h2, h3⟩ => ⟨_, _, _, h1, Nat.le_refl _, Nat.le_refl _, fun ob hob => .inl (by rw [← h2]; exact hob), ⟨d', rfl, h2, h3⟩⟩)
 refine acalls_of tyOk Tryz.func30 rfl (by simp [Tryz.f30]) ?_
 refine awp_seq (aR (by simp [go_sem] <;> rfl) ?_)
 refine awp_seq (aR (by simp [go_sem] <;> rfl) ?_)
 refine awp_seq (awp_seq (aR (by simp [go_sem] <;> rfl) ?_))
 refine awp_adopt' 3 24 4 (by simp [go_sem] <;> rfl) ?_
 refine awp_block ?_
 refine awp_loop_headK σ.objs.length (σ.toks.length + 1) 0 [0, 2] (fun i : List D => [(3, .acc (i.map enc) σ.toks.length), (4, .pv (.int .i64 ↑i.length))]) (fun i => { σ with toks := σ.toks ++ [⟨i.length, 24, 4⟩] }) (fun i => i.length ≤ 10 ∧ i.length ≤ a.length ∧ ∀ x, x ∈ i → x.size ≤ 1000) (fun i => a.length - i.length) [] (⟨Nat.zero_le _, Nat.zero_le _, fun x hx => by simp at hx⟩) ⟨by simp [go_sem], rfl, by simp, by simp, by simp [go_sem], fun ob h => .inl (by simpa [go_sem] using h), by simp [go_sem]⟩ ?_
 rintro i ⟨hi10, hil, his⟩
 refine awp_seq (awp_seq (awp_reg ?_))
 refine aL 5 (by simp [go_sem] <;> rfl) ?_
 refine al_splitT 9 (by first | rfl | (simp [go_sem] <;> rfl)) (fun h0 => ?_) (fun h0 => ?_)
 ·refine aLG 2 9 true (by simp [go_sem] <;> rfl) ?_
  refine aL 1 (by simp [go_sem] <;> rfl) ?_
  refine al_nil ?_
  refine awp_cond (by first | rfl | (simp [go_sem] <;> rfl)) (fun h1 => ?_) (fun h1 => ?_)
  ·have hlt : i.length < a.length := by simpa using h0
   have hl10 : i.length < 10 := by have := h1; simp at this; omega
   obtain ⟨x, hx, hxm⟩ := get_lt hlt
   have hbb : (i.length + 1) * 56 ≤ 140737488355328 := by omega
   have hw : IntKind.i64.wrap ((i.length : Int) + 1) = (i.length : Int) + 1 := wrap_succ (by omega)
   refine awp_skip ?_
   refine awp_seq (awp_block ?_)
   refine awp_reg ?_
   refine aL 5 (by simp [go_sem, hx, hbb] <;> rfl) ?_
   refine al_callW rfl rfl rfl (by simp [go_sem, hx, hbb] <;> rfl) call35 (c_CutM x 1000 1005 (by decide) (by decide) (by decide) (by decide) _ (by exact hgl)) (by simp [go_sem, hx, hbb] <;> rfl) (by simp [go_sem, hx, hbb]) rfl rfl ?_
   rintro r σ' ⟨d', rfl, rfl, hsz'⟩
   refine aL 3 (by simp [go_sem, hx, hbb] <;> rfl) ?_
   refine al_nil ?_
   refine aR (by simp [go_sem, hx, hbb] <;> rfl) ?_
   exact next_intro (i ++ [d']) σ.objs.length (σ.toks.length + 1) 0 (⟨by simp; omega, by simp; omega, fun x hx => by rcases List.mem_append.1 hx with h | h; exact his x h; simp at h; subst h; exact hsz'⟩) (by simp; omega) ⟨by simp [go_sem, hx, hbb, hw], rfl, by simp, by simp, by simp [go_sem, hx, hbb, hw], fun ob h => .inl (by simpa [go_sem, hx, hbb, hw] using h), by simp [go_sem]⟩
  ·refine awp_exit ?_
   refine then_exit ?_
   refine then_exit ?_
   refine inBlock_hit ?_
   refine awp_seq (aR (by simp [go_sem] <;> rfl) ?_)
   refine awp_ret ?_
   refine ends_ret (by simp [go_sem] <;> rfl) (by simp [go_sem]) ?_
   exact ⟨i, by simp [go_sem], by simp [go_sem], hi10, his⟩
 ·refine aK 2 9 true ?_
  refine aL 1 (by simp [go_sem] <;> rfl) ?_
  refine al_nil ?_
  refine awp_cond (b := false) (by simp [go_sem, h0]) (fun h => ?_) (fun h => ?_)
  ·cases h
  refine awp_exit ?_
  refine then_exit ?_
  refine then_exit ?_
  refine inBlock_hit ?_
  refine awp_seq (aR (by simp [go_sem] <;> rfl) ?_)
  refine awp_ret ?_
  refine ends_ret (by simp [go_sem] <;> rfl) (by simp [go_sem]) ?_
  exact ⟨i, by simp [go_sem], by simp [go_sem], hi10, his⟩

end Go.Proofs.YtienmmfjjffjaaaGreatDoor

/- The specification: Join; FlatJoins. -/
namespace Go.Proofs.YtienmmfjjffjaaaGreatDoor
open Go Go.Aw
variable {kr : ResO}
end Go.Proofs.YtienmmfjjffjaaaGreatDoor

/- FlatJoins. -/
namespace Go.Proofs.YtienmmfjjffjaaaGreatDoor
open Go Go.Aw
variable {kr : ResO}
theorem c_refCheckO (p : D) (hp : p.size ≤ 900000000) (l : List Df) (e : Int) (hl : l = rdefs p) (he : e = fcheck p) : Pur Tryz.prog (GL kr) 10 [.pv (enc p)] (.tuple [.pv (.slice (l.map encDf)), .pv (.int .i64 e)]) := by rw [hl, he]; exact c_refCheck p hp
end Go.Proofs.YtienmmfjjffjaaaGreatDoor

/- FlatExprs. -/
namespace Go.Proofs.YtienmmfjjffjaaaGreatDoor
open Go Go.Aw
variable {kr : ResO}
theorem c_flat_ExprO (p : D) (hp : p.size ≤ 900000) (a : List D) (hal : a.length ≤ 1000) (has : ∀ x, x ∈ a → x.size ≤ 1000) (z : D × Int) (hz : z = fexpr p a) : Pur Tryz.prog (GL kr) 31 [.pv (enc p), .pv (.slice (a.map enc))] (.tuple [.pv (enc z.1), .pv (.int .i64 z.2)]) := by rw [hz]; exact c_flat_Expr p hp a hal has
theorem c_refExprO (p : D) (R : Right p) (hp : p.size ≤ 900000) (P : List Df) (hP : P = rdefs p) (a : List D) (hal : a.length ≤ 1000) (has : ∀ x, x ∈ a → x.size ≤ 1000) (z : D × Int) (hz : z = fexpr p a) : Pur Tryz.prog (GL kr) 32 [.pv (.slice (P.map encDf)), .pv (.slice (a.map enc))] (.tuple [.pv (enc z.1), .pv (.int .i64 z.2)]) := by rw [hz]; exact c_refExpr p R hp P hP a hal has

set_option maxHeartbeats 1000000 in
theorem c_FlatExprs (p : D) (args : List D) (σ : Store) (hσ : σ = ⟨(GL kr), [], []⟩) : PurAt Tryz.prog σ 6 [.pv (enc p), .pv (.slice (args.map enc))] (.pv (.bool true)) := by
 have hgl : σ.gl = (GL kr) := by rw [hσ]
 have hdn := deq_refl dnone
 refine purAt_of ?_
 refine acalls_of tyOk Tryz.func6 rfl (by simp [Tryz.f6]) ?_
 refine awp_seq (aR (by simp [go_sem, hdn, enc_none] <;> rfl) ?_)
 refine awp_seq (awp_reg ?_)
 refine aL 1 (by simp [go_sem, hdn, enc_none] <;> rfl) ?_
 refine al_callW rfl rfl rfl (by simp [go_sem, hdn, enc_none] <;> rfl) call9 (c_Cut17 p σ hgl) (by simp [go_sem, hdn, enc_none] <;> rfl) (by simp [go_sem, hdn, enc_none]) rfl rfl ?_
 rintro r σ1 ⟨x, rfl, hs1, hx⟩
 rw [hs1]
 clear hs1 σ1
 refine aL 1 (by simp [go_sem, hdn, enc_none] <;> rfl) ?_
 refine al_callW rfl rfl rfl (by simp [go_sem, hdn, enc_none] <;> rfl) call30 (c_CutAll args σ hgl) (by simp [go_sem, hdn, enc_none] <;> rfl) (by simp [go_sem, hdn, enc_none]) rfl rfl ?_
 rintro r σ1 ⟨a, rfl, hs1, ha10, has⟩
 rw [hs1]
 clear hs1 σ1
 refine aL 3 (by simp [go_sem, hdn, enc_none] <;> rfl) ?_
 refine al_nil ?_
 refine awp_seq ?_
 obtain ⟨z, hz⟩ : ∃ z, z = fexpr x a := ⟨_, rfl⟩
 obtain ⟨X, hX⟩ : ∃ z, z = rdefs x := ⟨_, rfl⟩
 obtain ⟨ex, hex⟩ : ∃ z, z = fcheck x := ⟨_, rfl⟩
 refine awp_reg ?_
 refine aL 1 (by simp [go_sem, hdn, enc_none] <;> rfl) ?_
 refine aF call10 ((c_refCheckO x (by omega) X ex hX hex) _ (by exact hgl)) (by simp [go_sem, hdn, enc_none] <;> rfl) (by simp [go_sem, hdn, enc_none]) ?_
 refine aL 5 (by simp [go_sem, hdn, enc_none] <;> rfl) ?_
 refine al_nil ?_
 refine awp_seq (awp_reg ?_)
 refine aL 2 (by simp [go_sem, hdn, enc_none] <;> rfl) ?_
 refine aF call31 ((c_flat_ExprO x (by omega) a (by omega) has z hz) _ (by exact hgl)) (by simp [go_sem, hdn, enc_none] <;> rfl) (by simp [go_sem, hdn, enc_none]) ?_
 refine aL 6 (by simp [go_sem, hdn, enc_none] <;> rfl) ?_
 refine al_nil ?_
 refine awp_seq (aR (by simp [go_sem, hdn, enc_none] <;> rfl) ?_)
 refine awp_seq (awp_seq (aR (by simp [go_sem, hdn, enc_none] <;> rfl) ?_))
 refine awp_cond (by first | rfl | (simp [go_sem, hdn, enc_none] <;> rfl)) (fun h0 => ?_) (fun h0 => ?_)
 ·have R : Right x := ⟨by rw [← hex]; simpa using h0, by omega⟩
  have hdz := deq_refl z.1
  refine awp_reg ?_
  refine aL 2 (by simp [go_sem, hdn, enc_none, hdz] <;> rfl) ?_
  refine aF call32 ((c_refExprO x R (by omega) X hX a (by omega) has z hz) _ (by exact hgl)) (by simp [go_sem, hdn, enc_none, hdz] <;> rfl) (by simp [go_sem, hdn, enc_none, hdz]) ?_
  refine aL 5 (by simp [go_sem, hdn, enc_none, hdz] <;> rfl) ?_
  refine al_nil ?_
  refine awp_seq (awp_reg ?_)
  refine aL 4 (by simp [go_sem, hdn, enc_none, hdz] <;> rfl) ?_
  refine al_splitT 39 (by first | rfl | (simp [go_sem, hdn, enc_none, hdz] <;> rfl)) (fun h1 => ?_) (fun h1 => ?_)
  ·refine aLG 2 39 true (by simp [go_sem, hdn, enc_none, hdz] <;> rfl) ?_
   refine al_fnG 39 true true (by simp [go_sem]) rfl (by simp [go_sem]) rfl rfl (by simp [go_sem, hdn, enc_none, hdz] <;> rfl) call15 ((c_Same z.1 (by have := fexpr_size x a; rw [← hz] at this; omega) z.1) _ (by exact hgl)) (by simp [go_sem, hdn, enc_none, hdz] <;> rfl) (by simp [go_sem, hdn, enc_none, hdz]) rfl rfl ?_
   refine aL 2 (by simp [go_sem, hdn, enc_none, hdz] <;> rfl) ?_
   refine al_splitT 44 (by first | rfl | (simp [go_sem, hdn, enc_none, hdz] <;> rfl)) (fun h2 => ?_) (fun h2 => ?_)
   ·refine al_fnG 44 true true (by simp [go_sem]) rfl (by simp [go_sem]) rfl rfl (by simp [go_sem, hdn, enc_none, hdz] <;> rfl) call16 (c_alive σ hσ) (by simp [go_sem, hdn, enc_none, hdz] <;> rfl) (by simp [go_sem, hdn, enc_none, hdz]) rfl rfl ?_
    refine aL 2 (by simp [go_sem, hdn, enc_none, hdz] <;> rfl) ?_
    refine al_nil ?_
    refine awp_ret ?_
    refine ends_ret (by simp [go_sem, hdn, enc_none, hdz] <;> rfl) (by simp [go_sem]) ?_
    exact ⟨by simp [go_sem], by simp [go_sem]⟩
   ·first | (cases h2; done) | (simp at h2; done)
  ·first | (cases h1; done) | (simp at h1; done)
 ·have hJ := fexpr_bad a (by rw [← hex]; exact h0)
  rw [← hz, ← hex] at hJ
  refine awp_skip ?_
  refine awp_seq (awp_reg ?_)
  refine aL 4 (by simp [go_sem, hdn, enc_none, hJ] <;> rfl) ?_
  refine al_splitT 39 (by first | rfl | (simp [go_sem, hdn, enc_none, hJ] <;> rfl)) (fun h3 => ?_) (fun h3 => ?_)
  ·refine aLG 2 39 true (by simp [go_sem, hdn, enc_none, hJ] <;> rfl) ?_
   refine al_fnG 39 true true (by simp [go_sem]) rfl (by simp [go_sem]) rfl rfl (by simp [go_sem, hdn, enc_none, hJ] <;> rfl) call15 ((c_Same z.1 (by have := fexpr_size x a; rw [← hz] at this; omega) z.1) _ (by exact hgl)) (by simp [go_sem, hdn, enc_none, hJ] <;> rfl) (by simp [go_sem, hdn, enc_none, hJ]) rfl rfl ?_
   refine aL 2 (by simp [go_sem, hdn, enc_none, hJ] <;> rfl) ?_
   refine al_splitT 44 (by first | rfl | (simp [go_sem, hdn, enc_none, hJ] <;> rfl)) (fun h4 => ?_) (fun h4 => ?_)
   ·refine al_fnG 44 true true (by simp [go_sem]) rfl (by simp [go_sem]) rfl rfl (by simp [go_sem, hdn, enc_none, hJ] <;> rfl) call16 (c_alive σ hσ) (by simp [go_sem, hdn, enc_none, hJ] <;> rfl) (by simp [go_sem, hdn, enc_none, hJ]) rfl rfl ?_
    refine aL 2 (by simp [go_sem, hdn, enc_none, hJ] <;> rfl) ?_
    refine al_nil ?_
    refine awp_ret ?_
    refine ends_ret (by simp [go_sem, hdn, enc_none, hJ] <;> rfl) (by simp [go_sem]) ?_
    exact ⟨by simp [go_sem], by simp [go_sem]⟩
   ·first | (cases h4; done) | (simp at h4; done)
  ·first | (cases h3; done) | (simp at h3; done)

end Go.Proofs.YtienmmfjjffjaaaGreatDoor

/- The laid tables and the data of this seat, as abstract values. -/
namespace Go.Proofs.YtienmmfjjffjaaaGreatDoor
open Go Go.Aw
variable {kr : ResO}
theorem dty : DatumTy Tryz.prog 24 22 3 2 9 :=
  { und := ⟨_, _, _, _, Tryz.underlying24, rfl, rfl, rfl, rfl, rfl, rfl, rfl, rfl⟩, i := Tryz.underlying3, n := Tryz.underlying2, s := Tryz.underlying9, k := Tryz.underlying22, cD := by kernel_rfl, ci := by kernel_rfl, cn := by kernel_rfl, cs := by kernel_rfl, ck := by kernel_rfl }
theorem gReserved : Tryz.prog.globalNamed "pagoda/node.reserved" = some 0 := by kernel_rfl
theorem gPrim : Tryz.prog.globalNamed "pagoda/prim.names" = some 1 := by kernel_rfl
theorem tReserved : (Tryz.prog.globals[0]?).map (·.type) = some 70 := by kernel_rfl
theorem tPrim : (Tryz.prog.globals[1]?).map (·.type) = some 126 := by kernel_rfl
theorem tPow : (Tryz.prog.globals[2]?).map (·.type) = some 154 := by kernel_rfl
theorem rows_pow : (Rows.laid_internal_strconv_uint64pow10 : DataW Unit) = Lib.tabData .u64 Lib.pow10Tab := by kernel_rfl
/-- What the row's listed variables are when the call begins. -/
theorem of_laid {W : World} (h : laidMetH Tryz.prog [("math/bits.deBruijn32tab", Rows.laid_math_bits_deBruijn32tab), ("math/bits.deBruijn64tab", Rows.laid_math_bits_deBruijn64tab), ("internal/strconv.uint64pow10", Rows.laid_internal_strconv_uint64pow10), ("pagoda/node.reserved", Rows.laid_pagoda_node_reserved), ("pagoda/prim.names", Rows.laid_pagoda_prim_names)] W) :
    ∃ kr : ResO, ∀ n p, (n, p) ∈ (GL kr) → RP W.heap.size (fun _ _ => False) W p (.pointer (some ⟨n, 0, none⟩)) := by
  rw [MakeChecks.laidMetH_plain _ _ _ (by kernel_rfl)] at h
  obtain ⟨ps, ⟨_, _, _, _, _, _, _, _, _, _, ⟨_, _, _, _, _, _, _, _, _, _, ⟨g2, t2, cs2, f2, p2, q2, hg2, ht2, hv2, hd2, ⟨g0, t0, cs0, f0, p0, q0, hg0, ht0, hv0, hd0, ⟨g1, t1, cs1, f1, p1, q1, hg1, ht1, hv1, hd1, _, _⟩, _⟩, _⟩, _⟩, _⟩, _, _⟩ := h
  obtain rfl := Option.some.inj (gReserved.symm.trans hg0)
  obtain rfl := Option.some.inj (gPrim.symm.trans hg1)
  obtain rfl := Option.some.inj (gPow.symm.trans hg2)
  obtain rfl := Option.some.inj (tReserved.symm.trans ht0)
  obtain rfl := Option.some.inj (tPrim.symm.trans ht1)
  obtain rfl := Option.some.inj (tPow.symm.trans ht2)
  obtain ⟨b, l, hc0, hl, hrp0⟩ := open_set (S := fun _ _ => False) (names := resNames) Tryz.underlying70 Tryz.underlying9 Tryz.underlying4 hd0
  obtain ⟨v, hc1, hone, hrp1⟩ := open_table (S := fun _ _ => False) (L := primNames) Tryz.underlying126 Tryz.underlying127 Tryz.underlying9 Tryz.underlying3 rfl rfl (by kernel_rfl) (by kernel_rfl) (by kernel_rfl) hd1
  rw [rows_pow] at hd2
  have hc2 := Lib.cells_of_tab Tryz.underlying154 Tryz.underlying140 (by kernel_rfl) (by kernel_rfl) hd2
  have hblk : ∃ e c, W.heap[(2 : Nat)]? = some (.cells (Lib.pow10Tab.map (Value.int .u64)).toArray e c) := by
    simp only [World.var?, gPow, Option.bind_some] at hv2
    split at hv2
    · rename_i cs e c hh
      cases hv2
      refine ⟨e, c, ?_⟩
      rw [hh, ← Array.toArray_toList (xs := cs2), hc2]
    · cases hv2
  obtain ⟨e2, c2, hblk⟩ := hblk
  have hcell0 : W.cell? ⟨0, 0, none⟩ = some (.map (some b)) := by
    have := World.var?_cell hg0 hv0 0
    rw [Array.eq_one_of_toList hc0] at this
    simpa using this
  have hcell1 : W.cell? ⟨1, 0, none⟩ = some v := by
    have := World.var?_cell hg1 hv1 0
    rw [Array.eq_one_of_toList hc1] at this
    simpa using this
  refine ⟨resO l hl, fun n p hm => ?_⟩
  simp only [GL, flatG, List.cons_append, List.nil_append, List.mem_cons, Prod.mk.injEq, List.not_mem_nil, or_false] at hm
  rcases hm with ⟨rfl, rfl⟩ | ⟨rfl, rfl⟩ | ⟨rfl, rfl⟩
  · rw [resV_of hl] at hrp0
    exact rp_var (cell_lt hcell0) hcell0 rfl hrp0
  · rw [primV_of] at hrp1
    exact rp_var (cell_lt hcell1) hcell1 hone hrp1
  · refine RP.tab ?_ hblk
    by_cases hlt : 2 < W.heap.size
    · exact hlt
    · rw [Array.getElem?_eq_none (by show W.heap.size ≤ _; omega)] at hblk; cases hblk

end Go.Proofs.YtienmmfjjffjaaaGreatDoor

/- FlatExprs: for every datum and every list of data the law returns true, and they read as they did. -/
namespace Go.Proofs.YtienmmfjjffjaaaGreatDoor
open Go Go.Aw
variable {kr : ResO}
open Go.ChangeShapes Go.WideShapes Go.ChangeAt Go.WideMaps Go.WideElems Go.RowKit
theorem own : ownKnob Tryz.prog.godebug = none := by kernel_rfl
theorem laidOut : laidOutB Tryz.prog = true := by kernel_rfl
theorem door_met (os : Os) (args : Array Value) : laidMetH Tryz.prog Rows.flatExprsRow.laid ((World.doorLaid Tryz.prog 90 os).forCall (fun _ _ => 0) ⟨#[], args, []⟩).memory :=
  laidMetH_of_parts3 (fuel := 8) (laidMet_of_run' 8 (by kernel_rfl) (by kernel_rfl)) (by kernel_rfl) (by kernel_rfl)
/-- The call, as the machine makes it. -/
theorem flatExprs_calls {W : World} (hL : laidMetH Tryz.prog Rows.flatExprsRow.laid W) {v0 v1 : Value} {d0 : D} {d1 : List D} (h0 : RP W.heap.size (fun _ _ => False) W (enc d0) v0) (h1 : RP W.heap.size (fun _ _ => False) W (.slice (d1.map enc)) v1) :
    Calls Tryz.prog 6 #[v0, v1] W fun r W' => r = .returned (.bool true) ∧ Below W.heap.size W W' := by
  obtain ⟨kr, hg⟩ := of_laid hL
  refine (c_FlatExprs (kr := kr) d0 d1 ⟨(GL kr), [], []⟩ rfl (g0 W) W [v0, v1] (inv0 hg) rfl (fun i x v hx hv => ?_)).mono ?_
  · match i with
    | 0 => simp at hx hv; subst hx hv; exact .pv h0
    | 1 => simp at hx hv; subst hx hv; exact .pv h1
    | i + 2 => simp at hx
  · rintro r W' ⟨v, x, σ', g', rfl, ⟨rfl, rfl⟩, _, hext, hra⟩
    rw [hra.pv_inv.bool_inv]
    exact ⟨rfl, below_of hext⟩
abbrev zeroDatum : Value := .agg #[.int .i64 0, .int .i64 0, .string ⟨#[]⟩, .slice none 0 0]
set_option maxRecDepth 100000 in
theorem flatExprs_lifted (os : Os) (started : os.Started) (H : Type) (enc' : TypeId × Value → H) :
    ReturnsInHanded {} Tryz.checked os 6 .any (fun w args => (Rows.flatExprsSpec.pre enc' Tryz.prog Tryz.f6 [] false w args ∧ laidMetH Tryz.prog Rows.flatExprsRow.laid w) ∧ sizedMet enc' Tryz.prog Tryz.f6 (OpenSpec.ofChange Rows.flatExprsSpec) false w args)
      (Rows.flatExprsSpec.post enc' Tryz.prog Tryz.f6 false true false false) := by
  refine returnsInHanded_of_change_and (C := Tryz.checked) (X := fun w _ => laidMetH Tryz.prog Rows.flatExprsRow.laid w) (fun _ _ _ hh h => h.of_heap hh) own started (by kernel_rfl) Tryz.func6
    (ChangeSpec.witness_shaped (enc := enc') (C := Tryz.checked) (os := os) (X := fun w _ => laidMetH Tryz.prog Rows.flatExprsRow.laid w) false (World.doorLaid Tryz.prog 90 os) #[zeroDatum, .slice none 0 0] 8 rfl (World.shaped_of_RefB (by kernel_rfl) (by kernel_rfl)) (by kernel_rfl) (by kernel_rfl) (by kernel_rfl) (door_met os _)) ?_
  intro W base args ds gs before hval0 hW _ _ hL _
  have hW' := hW
  obtain ⟨p, q, hA0, hV, rfl, hfz, hnd⟩ := hW
  have hA : DataW.TrodAll enc' Tryz.prog W 0 (fun _ => true) true Tryz.f6.params.toList args.toList ds p := hA0
  rw [Tryz.params6] at hA
  obtain ⟨v0, v1, x0, x1, p0, p1, rfl, rfl, rfl, h0, h1⟩ := trodAll_two hA
  obtain ⟨rfl, rfl⟩ := trodVars_none hV
  clear hA0
  simp only [List.append_nil] at hW'
  obtain ⟨n0, t0⟩ := id h0
  obtain ⟨n1, t1⟩ := id h1
  obtain ⟨e0, u0, hc0, ho0, hr0⟩ := open_datum (S := fun _ _ => False) dty n0 _ _ t0
  have hv0 := open_agg hc0
  obtain ⟨e1, u1, hc1, hr1⟩ := open_data (S := fun _ _ => False) dty t1
  have hv1 := open_sliceV dty.k (hval0 1 22 v1 rfl rfl) hc1
  clear hval0
  have hlt := hW'.lt
  refine (flatExprs_calls hL (hv0 ▸ rp_datum ho0 hr0) (hv1 ▸ hr1)).mono fun r W' ⟨hr, hb⟩ => ?_
  subst hr
  exact ⟨_, rfl, post_of_below (pa := p0 ++ p1) (pv := []) hW' (fun _ _ _ => trodAll_mk1 (shut_bool Tryz.underlying4 true))
    (fun sp hs => trodAll_mk2 (Trod_stays laidOut (by kernel_rfl) (of_decide_eq_true (by kernel_rfl)) h0 (fun x hx => hb.same (hlt x (by simp [hx]))) (fun x hx => hs x (by simp [hx]))) (Trod_stays laidOut (by kernel_rfl) (of_decide_eq_true (by kernel_rfl)) h1 (fun x hx => hb.same (hlt x (by simp [hx]))) (fun x hx => hs x (by simp [hx]))))
    (fun _ _ => rfl) (by simp) hb (ok_one (by kernel_rfl) rfl (okWide_bool_mk Tryz.underlying4 _))⟩
theorem flatExprs_holds : Rows.FlatExprsSaid :=
  OpenClaim.holds_of_wide 6 Tryz.f6 rfl rfl rfl rfl rfl rfl rfl ⟨rfl, rfl, rfl, rfl, rfl⟩ rfl rfl rfl rfl rfl (by kernel_rfl) Tryz.func6 (by kernel_rfl)
    (of_decide_eq_true (by kernel_rfl)) (by unfold Func.isWrapper; rw [if_neg (by decide +kernel)]; exact ⟨rfl, rfl⟩)
    (fun os started H enc _ => flatExprs_lifted os started H enc)
/-- The tied card. -/
theorem flatExprsCard_holds : Rows.FlatExprsCardSaid :=
  Claim7.holds_tied_plain_at .later [] [.data, .data, .data, .mapped, .data] true (true, "90130382fac7d9d0ed5a2357e0a309ea32f779a7967c3879cd180699234b33dc") false
    flatExprs_holds (fun _ h => by cases h) (by kernel_rfl) (fun _ h => by cases h) flatExprs_row_tie rfl ⟨rfl, rfl⟩ (by kernel_rfl) rfl
    (fun f fn hf hfn => by
      obtain rfl : f = 6 := Option.some.inj ((show Tryz.prog.funcNamed "pagoda/pagodalaw17.FlatExprs" = some 6 by kernel_rfl).symm.trans hf) |>.symm
      obtain rfl : fn = Tryz.f6 := (Option.some.inj (Tryz.func6.symm.trans hfn)).symm
      exact ⟨by kernel_rfl, fun j t ht => by
        rw [Tryz.params6] at ht
        rcases j with _ | _ | j
        · obtain rfl : 24 = t := by simpa using ht
          exact (show Tryz.prog.wantsStandIn 24 = false by kernel_rfl)
        · obtain rfl : 22 = t := by simpa using ht
          exact (show Tryz.prog.wantsStandIn 22 = false by kernel_rfl)
        · simp at ht⟩)
    (by kernel_rfl)
end Go.Proofs.YtienmmfjjffjaaaGreatDoor
