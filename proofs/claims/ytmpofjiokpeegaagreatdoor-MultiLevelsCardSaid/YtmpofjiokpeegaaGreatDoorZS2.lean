/- Part of the proof that the statement holds for every input that its row lets in: the contracts of the program's functions, printed by a program out of annotations; the statement itself stands at the end of the last part. -/
import Derived.Test.YtmpofjiokpeegaaGreatDoorZS1
import Derived.Test.YtmpofjiokpeegaaGreatDoorZA3
import Derived.Test.YtmpofjiokpeegaaGreatDoorZA4
import Derived.Test.YtmpofjiokpeegaaGreatDoorRows
import Derived.Test.YtmpofjiokpeegaaGreatDoorCards
import Derived.Test.YtmpofjiokpeegaaGreatDoorTie
set_option linter.unusedSimpArgs false
set_option linter.unusedVariables false
/- What is bound. -/
namespace Go.Proofs.YtmpofjiokpeegaaGreatDoor
open Go Go.Aw
variable {kr : KR}
set_option maxHeartbeats 1000000 in
theorem c_mark (d : D) : ∀ (hok : OkM d) (hd : d.size ≤ 1000000000) (S : List ByteArray) (σ : Store) (om : Nat) (hgl : σ.gl = (GL kr)) (ho : σ.objs[om]? = some (.map (tK S) (tV S))), ACalls Tryz.prog 82 [.pv (enc d), .map om] σ (fun r σ' => r = .tuple [] ∧ σ' = setS σ om ((mbnd d).foldl addS S)) := by
 induction d using D.ind with
 | _ kind num text kids ih =>
 generalize hD : D.mk kind num text kids = d at *
 have hk : d.kids = kids := by rw [← hD]; rfl
 clear hD
 subst hk
 have hkl := D.kids_length_lt d
 have hil := inner_len d
 have hls := fun (s : St) (x : ByteArray) (ok : Bool) => look_sh (S := kr) (ty := ty) (s := s) (t := 131) (x := x) (ok := ok) rfl rfl rfl rfl rfl rfl rfl
 intro hok hd S σ om hgl ho
 have hgs : lookupG σ.gl 0 = some (.ptr [.map (shK kr) (shV kr)]) := by rw [hgl]; exact gl_sh
 have hol := (List.getElem?_eq_some_iff.1 ho).1
 have hgt := fun (R : List ByteArray) => setS_get (σ := σ) (o := om) (S := R) hol
 refine acalls_of tyOk Tryz.func82 rfl (by simp [Tryz.f82]) ?_
 refine awp_seq (aR (by simp [go_sem, hgs, hls, encSh, okAV, hgt, setS_set, setS_gl] <;> rfl) ?_)
 refine awp_seq (awp_seq (awp_reg ?_))
 refine aL 4 (by simp [go_sem, hgs, hls, encSh, okAV, hgt, setS_set, setS_gl] <;> rfl) ?_
 refine al_splitT 11 (by first | rfl | (simp [go_sem, hgs, hls, encSh, okAV, hgt, setS_set, setS_gl] <;> rfl)) (fun h0 => ?_) (fun h0 => ?_)
 ·have hk3 : d.kind = 3 := by simpa using h0
  have hot := hok.self hk3
  obtain ⟨x0, r, hks⟩ := kids_cons hot.1
  have hx0 : d.kids[0]? = some x0 := by rw [hks]; rfl
  have hh := head_cons hks
  refine aLG 6 11 true (by simp [go_sem, hgs, hls, encSh, okAV, hgt, setS_set, setS_gl, hx0] <;> rfl) ?_
  refine aL 1 (by simp [go_sem, hgs, hls, encSh, okAV, hgt, setS_set, setS_gl, hx0] <;> rfl) ?_
  refine al_nil ?_
  refine awp_cond (by first | rfl | (simp [go_sem, hgs, hls, encSh, okAV, hgt, setS_set, setS_gl, hx0] <;> rfl)) (fun h1 => ?_) (fun h1 => ?_)
  ·have hq : d.head.text ≠ sQuote := by rw [hh]; exact of_decide_eq_false ((Bool.not_eq_true' _).mp h1)
   have hsn := hot.2 hq
   rw [hh] at hsn
   have hsh : ((shp x0.text).getD (0, 0)).1 = shN x0.text := shN_getD
   have hs2 := shN_le x0.text
   have hwr : IntKind.i64.wrap (1 + (shN x0.text : Int)) = 1 + (shN x0.text : Int) := wrap_id (by omega) (by omega)
   have hle : 1 + (shN x0.text : Int) ≤ d.kids.length := by omega
   have h0le : (0 : Int) ≤ 1 + (shN x0.text : Int) := by omega
   have h1le : (1 : Int) ≤ 1 + (shN x0.text : Int) := by omega
   have htn : (1 + (shN x0.text : Int)).toNat = 1 + shN x0.text := by omega
   obtain ⟨L1, hL1⟩ : ∃ L1, L1 = (d.kids.drop 1).take (shN x0.text) := ⟨_, rfl⟩
   have htk := take_tail enc d.kids (shN x0.text)
   rw [← hL1] at htk
   have hnd := nmsD_head hks
   rw [← hL1] at hnd
   have hl1 : L1.length ≤ 2 := by rw [hL1]; simp; omega
   have how : ownN d = L1.map D.text := by unfold ownN; rw [if_pos (by rw [hk3]; simpa using hq), hnd]
   refine awp_seq (awp_regDE tyOk tySz (by kernel_rfl) ?_)
   refine ul_run 14 (by simp [go_sem, hgs, hls, encSh, okAV, hgt, setS_set, setS_gl, hx0, hsh, hwr, hle, h0le, h1le, htn, htk] <;> rfl) ?_
   refine ul_nil ?_
   refine awp_block ?_
   refine awp_loop_headK σ.objs.length σ.toks.length 1 [1, 2, 30, 31] (fun k : Nat => [(32, .pv (.int .i64 ↑k))]) (fun k => setS σ om (((L1.map D.text).take k).foldl addS S)) (fun k => k ≤ L1.length) (fun k => L1.length - k) 0 (Nat.zero_le _) ⟨by show setS σ om S = _; rw [setS_self ho]; simp [go_sem], rfl, by simp, by simp, by simp [go_sem, hgs, hls, encSh, okAV, hgt, setS_set, setS_gl, hx0, hsh, hwr, hle, h0le, h1le, htn, htk, hol, setS_no, setS_nt], fun ob h => setS_mem h, by simp [go_sem]⟩ ?_
   intro k hk
   refine awp_seq (aR (by simp [go_sem, hgs, hls, encSh, okAV, hgt, setS_set, setS_gl, hx0, hsh, hwr, hle, h0le, h1le, htn, htk] <;> rfl) ?_)
   refine awp_seq (awp_cond (by first | rfl | (simp [go_sem, hgs, hls, encSh, okAV, hgt, setS_set, setS_gl, hx0, hsh, hwr, hle, h0le, h1le, htn, htk] <;> rfl)) (fun h2 => ?_) (fun h2 => ?_))
   ·have hlt : k < L1.length := by simp at h2; omega
    have hw : IntKind.i64.wrap (↑k + 1) = (k : Int) + 1 := wrap_succ (by omega)
    obtain ⟨x, hx, hxm⟩ := get_lt hlt
    have hpk := fun (s : St) (x : ByteArray) (ho : s.σ.objs[om]? = some (.map (tK (((L1.map D.text).take k).foldl addS S)) (tV (((L1.map D.text).take k).foldl addS S)))) => put_set (ty := ty) (s := s) (t := 107) (o := om) rfl rfl rfl rfl ho x
    have htx : ((L1.map D.text).take (k + 1)).foldl addS S = addS (((L1.map D.text).take k).foldl addS S) x.text := by rw [take_next (l := L1.map D.text) (k := k) (x := x.text) (by simp [hx])]; simp
    refine awp_skip ?_
    refine awp_seq (awp_block ?_)
    refine awp_seq (aR (by simp [go_sem, hgs, hls, encSh, okAV, hgt, setS_set, setS_gl, hx0, hsh, hwr, hle, h0le, h1le, htn, htk, hx, hpk] <;> rfl) ?_)
    refine aR (by simp [go_sem, hgs, hls, encSh, okAV, hgt, setS_set, setS_gl, hx0, hsh, hwr, hle, h0le, h1le, htn, htk, hx, hpk] <;> rfl) ?_
    refine aR (by simp [go_sem, hgs, hls, encSh, okAV, hgt, setS_set, setS_gl, hx0, hsh, hwr, hle, h0le, h1le, htn, htk, hx, hpk] <;> rfl) ?_
    exact next_intro (k + 1) σ.objs.length σ.toks.length 1 (hlt) (by omega) ⟨by show setS σ om _ = Store.cut _ _ _; rw [htx]; first | exact setS_cut.symm | (show _ = Store.cut (setS (setS σ om _) om _) _ _; rw [setS_set]; exact setS_cut.symm), rfl, by simp, by simp, by simp [go_sem, hgs, hls, encSh, okAV, hgt, setS_set, setS_gl, hx0, hsh, hwr, hle, h0le, h1le, htn, htk, hx, hpk, hw, hol, setS_no, setS_nt], fun ob h => setS_mem h, by simp [go_sem]⟩
   ·have hke : k = L1.length := by simp at h2; omega
    subst hke
    have hta : (L1.map D.text).foldl addS S = mkK d S 0 := by rw [mkK_zero, how]
    refine awp_exit ?_
    refine then_exit ?_
    refine then_exit ?_
    refine inBlock_hit ?_
    refine awp_seq (awp_reg ?_)
    refine aL 1 (by simp [go_sem, hgs, hls, encSh, okAV, hgt, setS_set, setS_gl, hx0, hsh, hwr, hle, h0le, h1le, htn, htk, hta] <;> rfl) ?_
    refine aF call113 ((c_Inner d (fun h => (hok.self h).1) (fun h => (hok.self h).2)) _ (by exact hgl)) (by simp [go_sem, hgs, hls, encSh, okAV, hgt, setS_set, setS_gl, hx0, hsh, hwr, hle, h0le, h1le, htn, htk, hta] <;> rfl) (by simp [go_sem, hgs, hls, encSh, okAV, hgt, setS_set, setS_gl, hx0, hsh, hwr, hle, h0le, h1le, htn, htk, hta]) ?_
    refine aL 2 (by simp [go_sem, hgs, hls, encSh, okAV, hgt, setS_set, setS_gl, hx0, hsh, hwr, hle, h0le, h1le, htn, htk, hta] <;> rfl) ?_
    refine al_nil ?_
    refine awp_block ?_
    refine awp_loop_headK σ.objs.length σ.toks.length 1 [1, 41, 42] (fun k : Nat => [(43, .pv (.int .i64 ↑k))]) (fun k => setS σ om (mkK d S k)) (fun k => k ≤ (inner d).length) (fun k => (inner d).length - k) 0 (Nat.zero_le _) ⟨by show setS σ om (mkK d S 0) = _; first | exact setS_cut.symm | (simp [go_sem, hta, setS_cut]; done) | (rw [mkK_zero, how]; show setS σ om S = _; rw [setS_self ho]; simp [go_sem]) | (rw [← hta]; exact setS_cut.symm), rfl, by simp, by simp, by simp [go_sem, hgs, hls, encSh, okAV, hgt, setS_set, setS_gl, hx0, hsh, hwr, hle, h0le, h1le, htn, htk, hta, hol, setS_no, setS_nt], fun ob h => setS_mem h, by simp [go_sem]⟩ ?_
    intro k hk
    refine awp_seq (aR (by simp [go_sem, hgs, hls, encSh, okAV, hgt, setS_set, setS_gl, hx0, hsh, hwr, hle, h0le, h1le, htn, htk, hta] <;> rfl) ?_)
    refine awp_seq (awp_cond (by first | rfl | (simp [go_sem, hgs, hls, encSh, okAV, hgt, setS_set, setS_gl, hx0, hsh, hwr, hle, h0le, h1le, htn, htk, hta] <;> rfl)) (fun h3 => ?_) (fun h3 => ?_))
    ·have hlt : k < (inner d).length := by simp at h3; omega
     have hw : IntKind.i64.wrap (↑k + 1) = (k : Int) + 1 := wrap_succ (by omega)
     obtain ⟨x, hx, hxm⟩ := get_lt hlt
     have hcn := mkK_next (S := S) hx
     refine awp_skip ?_
     refine awp_seq (awp_block ?_)
     refine awp_seq (aR (by simp [go_sem, hgs, hls, encSh, okAV, hgt, setS_set, setS_gl, hx0, hsh, hwr, hle, h0le, h1le, htn, htk, hta, hx] <;> rfl) ?_)
     refine awp_reg ?_
     refine aL 2 (by simp [go_sem, hgs, hls, encSh, okAV, hgt, setS_set, setS_gl, hx0, hsh, hwr, hle, h0le, h1le, htn, htk, hta, hx] <;> rfl) ?_
     refine al_callW rfl rfl rfl (by simp [go_sem, hgs, hls, encSh, okAV, hgt, setS_set, setS_gl, hx0, hsh, hwr, hle, h0le, h1le, htn, htk, hta, hx] <;> rfl) call82 (ih x (inner_mem hxm) (hok.part hxm) (by have := D.size_kid_lt (inner_mem hxm); omega) (mkK d S k) _ om (by exact hgl) (hgt _)) (by simp [go_sem, hgs, hls, encSh, okAV, hgt, setS_set, setS_gl, hx0, hsh, hwr, hle, h0le, h1le, htn, htk, hta, hx] <;> rfl) (by simp [go_sem, hgs, hls, encSh, okAV, hgt, setS_set, setS_gl, hx0, hsh, hwr, hle, h0le, h1le, htn, htk, hta, hx]) rfl rfl ?_
     rintro r σ' ⟨rfl, rfl⟩
     refine al_nil ?_
     refine aR (by simp [go_sem, hgs, hls, encSh, okAV, hgt, setS_set, setS_gl, hx0, hsh, hwr, hle, h0le, h1le, htn, htk, hta, hx] <;> rfl) ?_
     exact next_intro (k + 1) σ.objs.length σ.toks.length 1 (hlt) (by omega) ⟨by show setS σ om (mkK d S (k + 1)) = Store.cut _ _ _; rw [hcn]; first | exact setS_cut.symm | (show _ = Store.cut (setS (setS σ om _) om _) _ _; rw [setS_set]; exact setS_cut.symm) | simp [go_sem, setS_cut], rfl, by simp, by simp, by simp [go_sem, hgs, hls, encSh, okAV, hgt, setS_set, setS_gl, hx0, hsh, hwr, hle, h0le, h1le, htn, htk, hta, hx, hw, hol, setS_no, setS_nt], fun ob h => setS_mem h, by simp [go_sem]⟩
    ·have hke : k = (inner d).length := by simp at h3; omega
     subst hke
     have hca := mkK_all (d := d) (S := S)
     refine awp_exit ?_
     refine then_exit ?_
     refine then_exit ?_
     refine inBlock_hit ?_
     refine ends_normal (by simp [go_sem] <;> rfl) (by simp [go_sem]) ?_
     exact ⟨by simp [go_sem], by simp [go_sem, hca]⟩
  ·have how : ownN d = [] := by unfold ownN; rw [if_neg (by rw [hh]; simp at h1; simp [h1, sQuote])]
   refine awp_skip ?_
   refine awp_seq (awp_reg ?_)
   refine aL 1 (by simp [go_sem, hgs, hls, encSh, okAV, hgt, setS_set, setS_gl, hx0] <;> rfl) ?_
   refine aF call113 ((c_Inner d (fun h => (hok.self h).1) (fun h => (hok.self h).2)) _ (by exact hgl)) (by simp [go_sem, hgs, hls, encSh, okAV, hgt, setS_set, setS_gl, hx0] <;> rfl) (by simp [go_sem, hgs, hls, encSh, okAV, hgt, setS_set, setS_gl, hx0]) ?_
   refine aL 2 (by simp [go_sem, hgs, hls, encSh, okAV, hgt, setS_set, setS_gl, hx0] <;> rfl) ?_
   refine al_nil ?_
   refine awp_block ?_
   refine awp_loop_headK σ.objs.length σ.toks.length 1 [1, 41, 42] (fun k : Nat => [(43, .pv (.int .i64 ↑k))]) (fun k => setS σ om (mkK d S k)) (fun k => k ≤ (inner d).length) (fun k => (inner d).length - k) 0 (Nat.zero_le _) ⟨by show setS σ om (mkK d S 0) = _; first | exact setS_cut.symm | (simp [go_sem, hta, setS_cut]; done) | (rw [mkK_zero, how]; show setS σ om S = _; rw [setS_self ho]; simp [go_sem]) | (rw [← hta]; exact setS_cut.symm), rfl, by simp, by simp, by simp [go_sem, hgs, hls, encSh, okAV, hgt, setS_set, setS_gl, hx0, hol, setS_no, setS_nt], fun ob h => setS_mem h, by simp [go_sem]⟩ ?_
   intro k hk
   refine awp_seq (aR (by simp [go_sem, hgs, hls, encSh, okAV, hgt, setS_set, setS_gl, hx0] <;> rfl) ?_)
   refine awp_seq (awp_cond (by first | rfl | (simp [go_sem, hgs, hls, encSh, okAV, hgt, setS_set, setS_gl, hx0] <;> rfl)) (fun h4 => ?_) (fun h4 => ?_))
   ·have hlt : k < (inner d).length := by simp at h4; omega
    have hw : IntKind.i64.wrap (↑k + 1) = (k : Int) + 1 := wrap_succ (by omega)
    obtain ⟨x, hx, hxm⟩ := get_lt hlt
    have hcn := mkK_next (S := S) hx
    refine awp_skip ?_
    refine awp_seq (awp_block ?_)
    refine awp_seq (aR (by simp [go_sem, hgs, hls, encSh, okAV, hgt, setS_set, setS_gl, hx0, hx] <;> rfl) ?_)
    refine awp_reg ?_
    refine aL 2 (by simp [go_sem, hgs, hls, encSh, okAV, hgt, setS_set, setS_gl, hx0, hx] <;> rfl) ?_
    refine al_callW rfl rfl rfl (by simp [go_sem, hgs, hls, encSh, okAV, hgt, setS_set, setS_gl, hx0, hx] <;> rfl) call82 (ih x (inner_mem hxm) (hok.part hxm) (by have := D.size_kid_lt (inner_mem hxm); omega) (mkK d S k) _ om (by exact hgl) (hgt _)) (by simp [go_sem, hgs, hls, encSh, okAV, hgt, setS_set, setS_gl, hx0, hx] <;> rfl) (by simp [go_sem, hgs, hls, encSh, okAV, hgt, setS_set, setS_gl, hx0, hx]) rfl rfl ?_
    rintro r σ' ⟨rfl, rfl⟩
    refine al_nil ?_
    refine aR (by simp [go_sem, hgs, hls, encSh, okAV, hgt, setS_set, setS_gl, hx0, hx] <;> rfl) ?_
    exact next_intro (k + 1) σ.objs.length σ.toks.length 1 (hlt) (by omega) ⟨by show setS σ om (mkK d S (k + 1)) = Store.cut _ _ _; rw [hcn]; first | exact setS_cut.symm | (show _ = Store.cut (setS (setS σ om _) om _) _ _; rw [setS_set]; exact setS_cut.symm) | simp [go_sem, setS_cut], rfl, by simp, by simp, by simp [go_sem, hgs, hls, encSh, okAV, hgt, setS_set, setS_gl, hx0, hx, hw, hol, setS_no, setS_nt], fun ob h => setS_mem h, by simp [go_sem]⟩
   ·have hke : k = (inner d).length := by simp at h4; omega
    subst hke
    have hca := mkK_all (d := d) (S := S)
    refine awp_exit ?_
    refine then_exit ?_
    refine then_exit ?_
    refine inBlock_hit ?_
    refine ends_normal (by simp [go_sem] <;> rfl) (by simp [go_sem]) ?_
    exact ⟨by simp [go_sem], by simp [go_sem, hca]⟩
 ·have how : ownN d = [] := by unfold ownN; rw [if_neg (by rw [h0]; simp)]
  refine aK 6 11 true ?_
  refine aL 1 (by simp [go_sem, hgs, hls, encSh, okAV, hgt, setS_set, setS_gl] <;> rfl) ?_
  refine al_nil ?_
  refine awp_cond (b := false) (by simp [go_sem, hgs, hls, encSh, okAV, hgt, setS_set, setS_gl, h0]) (fun h => ?_) (fun h => ?_)
  ·cases h
  refine awp_skip ?_
  refine awp_seq (awp_reg ?_)
  refine aL 1 (by simp [go_sem, hgs, hls, encSh, okAV, hgt, setS_set, setS_gl] <;> rfl) ?_
  refine aF call113 ((c_Inner d (fun h => (hok.self h).1) (fun h => (hok.self h).2)) _ (by exact hgl)) (by simp [go_sem, hgs, hls, encSh, okAV, hgt, setS_set, setS_gl] <;> rfl) (by simp [go_sem, hgs, hls, encSh, okAV, hgt, setS_set, setS_gl]) ?_
  refine aL 2 (by simp [go_sem, hgs, hls, encSh, okAV, hgt, setS_set, setS_gl] <;> rfl) ?_
  refine al_nil ?_
  refine awp_block ?_
  refine awp_loop_headK σ.objs.length σ.toks.length 1 [1, 41, 42] (fun k : Nat => [(43, .pv (.int .i64 ↑k))]) (fun k => setS σ om (mkK d S k)) (fun k => k ≤ (inner d).length) (fun k => (inner d).length - k) 0 (Nat.zero_le _) ⟨by show setS σ om (mkK d S 0) = _; first | exact setS_cut.symm | (simp [go_sem, hta, setS_cut]; done) | (rw [mkK_zero, how]; show setS σ om S = _; rw [setS_self ho]; simp [go_sem]) | (rw [← hta]; exact setS_cut.symm), rfl, by simp, by simp, by simp [go_sem, hgs, hls, encSh, okAV, hgt, setS_set, setS_gl, hol, setS_no, setS_nt], fun ob h => setS_mem h, by simp [go_sem]⟩ ?_
  intro k hk
  refine awp_seq (aR (by simp [go_sem, hgs, hls, encSh, okAV, hgt, setS_set, setS_gl] <;> rfl) ?_)
  refine awp_seq (awp_cond (by first | rfl | (simp [go_sem, hgs, hls, encSh, okAV, hgt, setS_set, setS_gl] <;> rfl)) (fun h5 => ?_) (fun h5 => ?_))
  ·have hlt : k < (inner d).length := by simp at h5; omega
   have hw : IntKind.i64.wrap (↑k + 1) = (k : Int) + 1 := wrap_succ (by omega)
   obtain ⟨x, hx, hxm⟩ := get_lt hlt
   have hcn := mkK_next (S := S) hx
   refine awp_skip ?_
   refine awp_seq (awp_block ?_)
   refine awp_seq (aR (by simp [go_sem, hgs, hls, encSh, okAV, hgt, setS_set, setS_gl, hx] <;> rfl) ?_)
   refine awp_reg ?_
   refine aL 2 (by simp [go_sem, hgs, hls, encSh, okAV, hgt, setS_set, setS_gl, hx] <;> rfl) ?_
   refine al_callW rfl rfl rfl (by simp [go_sem, hgs, hls, encSh, okAV, hgt, setS_set, setS_gl, hx] <;> rfl) call82 (ih x (inner_mem hxm) (hok.part hxm) (by have := D.size_kid_lt (inner_mem hxm); omega) (mkK d S k) _ om (by exact hgl) (hgt _)) (by simp [go_sem, hgs, hls, encSh, okAV, hgt, setS_set, setS_gl, hx] <;> rfl) (by simp [go_sem, hgs, hls, encSh, okAV, hgt, setS_set, setS_gl, hx]) rfl rfl ?_
   rintro r σ' ⟨rfl, rfl⟩
   refine al_nil ?_
   refine aR (by simp [go_sem, hgs, hls, encSh, okAV, hgt, setS_set, setS_gl, hx] <;> rfl) ?_
   exact next_intro (k + 1) σ.objs.length σ.toks.length 1 (hlt) (by omega) ⟨by show setS σ om (mkK d S (k + 1)) = Store.cut _ _ _; rw [hcn]; first | exact setS_cut.symm | (show _ = Store.cut (setS (setS σ om _) om _) _ _; rw [setS_set]; exact setS_cut.symm) | simp [go_sem, setS_cut], rfl, by simp, by simp, by simp [go_sem, hgs, hls, encSh, okAV, hgt, setS_set, setS_gl, hx, hw, hol, setS_no, setS_nt], fun ob h => setS_mem h, by simp [go_sem]⟩
  ·have hke : k = (inner d).length := by simp at h5; omega
   subst hke
   have hca := mkK_all (d := d) (S := S)
   refine awp_exit ?_
   refine then_exit ?_
   refine then_exit ?_
   refine inBlock_hit ?_
   refine ends_normal (by simp [go_sem] <;> rfl) (by simp [go_sem]) ?_
   exact ⟨by simp [go_sem], by simp [go_sem, hca]⟩

end Go.Proofs.YtmpofjiokpeegaaGreatDoor

/- Renaming. -/
namespace Go.Proofs.YtmpofjiokpeegaaGreatDoor
open Go Go.Aw
variable {kr : KR}
set_option maxHeartbeats 1000000 in
theorem c_ClipP (l : List (ByteArray × ByteArray)) : Pur Tryz.prog (GL kr) 131 [.pv (.slice (l.map encPair))] (.full (l.map encPair)) := by
 refine pur_of fun σ hgl => ?_
 refine acalls_of tyOk Tryz.func131 rfl (by simp [Tryz.f131]) ?_
 refine awp_seq (aR (by simp [go_sem] <;> rfl) ?_)
 refine awp_seq (aR (by simp [go_sem] <;> rfl) ?_)
 refine awp_ret ?_
 refine ends_ret (by simp [go_sem] <;> rfl) (by simp [go_sem]) ?_
 exact ⟨by simp [go_sem], by simp [go_sem]⟩

def dCells (d : D) : List AV := [.pv (.int .i64 d.kind), .pv (.int .i64 d.num), .pv (.str d.text), .pv (.slice (d.kids.map enc))]
theorem encPair_cells (p : ByteArray × ByteArray) : (encPair p).cells = [.str p.1, .str p.2] := rfl
@[go_sem] theorem allSz_pair (l : List (ByteArray × ByteArray)) : allSz 2 (l.map encPair) = true := by simp [allSz, encPair_cells]
/-- The store when the search is over: a name was found. -/
structure RenSt (σ : Store) (d : D) (cs : List AV) (l : Nat) (st : LoopState) (pe : Option Code) (τ : Store) : Prop where
  gl : τ.gl = σ.gl
  toks : τ.toks = σ.toks
  low : τ.objs.take σ.objs.length = σ.objs
  b0 : τ.objs[σ.objs.length]? = some (.box (dCells d))
  b1 : τ.objs[σ.objs.length + 1]? = some (.box cs)
  loop : ∃ T N ps asg body, τ.objs[σ.objs.length + 3]? = some (.loop l st pe T N ps asg body)

set_option maxHeartbeats 1000000 in
theorem c_renamed (d : D) : ∀ (hg : GoodM d) (env : List ByteArray) (hb : env.length + 3 * d.size ≤ 1000000000) (σ : Store) (hgl : σ.gl = (GL kr)), PurAt Tryz.prog σ 79 [.pv (enc d), .pv (.slice ((envP env).map encPair)), .func (.func 80) []] (.pv (enc (mren d env))) := by
 induction d using D.ind with
 | _ kind num text kids ih =>
 generalize hD : D.mk kind num text kids = d at *
 have hk : d.kids = kids := by rw [← hD]; rfl
 clear hD
 subst hk
 have hkl := D.kids_length_lt d
 have hil := inner_len d
 have hls := fun (s : St) (x : ByteArray) (ok : Bool) => look_sh (S := kr) (ty := ty) (s := s) (t := 131) (x := x) (ok := ok) rfl rfl rfl rfl rfl rfl rfl
 intro hg env hb σ hgl
 refine purAt_of ?_
 have hgs : lookupG σ.gl 0 = some (.ptr [.map (shK kr) (shV kr)]) := by rw [hgl]; exact gl_sh
 have hpl := envP_length env
 refine acalls_of tyOk Tryz.func79 rfl (by simp [Tryz.f79]) ?_
 refine awp_seq (awp_region_run (sh := [3, 6]) tyOk (by simp [go_sem, hgs, hls, encSh, okAV] <;> rfl) ?_)
 refine awp_seq (awp_seq (aR (by simp [go_sem, hgs, hls, encSh, okAV] <;> rfl) ?_))
 refine awp_cond (by first | rfl | (simp [go_sem, hgs, hls, encSh, okAV] <;> rfl)) (fun h0 => ?_) (fun h0 => ?_)
 ·refine awp_seq ?_
  refine awp_seq (awp_reg ?_)
  refine aL 1 (by simp [go_sem, hgs, hls, encSh, okAV] <;> rfl) ?_
  refine al_callW rfl rfl rfl (by simp [go_sem, hgs, hls, encSh, okAV] <;> rfl) call130 (c_BackMake ((envP env).map encPair) _) (by simp [go_sem, hgs, hls, encSh, okAV] <;> rfl) (by simp [go_sem, hgs, hls, encSh, okAV]) rfl rfl ?_
  rintro r σ' ⟨rfl, rfl⟩
  refine al_nil ?_
  refine awp_block ?_
  refine awp_rangeFunc [3, 6] (by simp [go_sem, hgs, hls, encSh, okAV] <;> rfl) call181 (by simp [go_sem]) (by simp [go_sem, keepT, hgs, hls, encSh, okAV]) (by decide) fun l => ?_
  refine acalls_gen ?_
  intro ST hST
  simp only [go_sem, keepT, List.map_cons, List.map_nil, List.append_assoc, List.cons_append, List.nil_append] at hST
  have hb0 : ST.objs[σ.objs.length]? = some (.box (dCells d)) := by rw [hST]; simp [go_sem, dCells]
  have hb1 : ST.objs[σ.objs.length + 1]? = some (.box [.pv (.int .i64 0), .pv (.int .i64 0), .pv (.str ⟨#[]⟩), .pv .nils]) := by rw [hST]; simp [go_sem]
  have hb2 : ST.objs[σ.objs.length + 2]? = some (.box [.pv (.slice ((envP env).map encPair))]) := by rw [hST]; simp [go_sem]
  have hglS : ST.gl = σ.gl := by rw [hST]
  have hts : ST.toks = σ.toks := by rw [hST]
  have hlow : ST.objs.take σ.objs.length = σ.objs := by rw [hST]; simp [go_sem]
  have hlen : ST.objs.length = σ.objs.length + 4 := by rw [hST]; simp [go_sem]
  obtain ⟨T0, ps0, as0, bd0, hL⟩ : ∃ T0 ps0 as0 bd0, ST.objs[σ.objs.length + 3]? = some (.loop l .ready none T0 115 ps0 as0 bd0) := ⟨_, _, _, _, by rw [hST]; exact get_app4⟩
  have hround : ∀ (i : Nat) (τ : Store), i < (envP env).length → (τ = ST ∧ NoneLast env d.text i) → ACallsY Tryz.prog l (backArgs (envP env) i) τ fun r τ' => (r = .pv (.bool true) ∧ τ' = ST ∧ NoneLast env d.text (i + 1)) ∨ (r = .pv (.bool false) ∧ ∃ q : Nat, lastI env d.text = some q ∧ RenSt σ d (dCells (dsym (namedB q))) l .done (some .ret) τ') := by
   rintro i τ hi ⟨hτ, hno⟩
   rw [hτ]
   obtain ⟨q, x, hidx, hget, hba⟩ := back_at hi
   rw [envP_get] at hget
   obtain ⟨y, hy, rfl⟩ := Option.map_eq_some_iff.1 hget
   rw [hba]
   have hqe : env.length - 1 - i = q := by omega
   rw [← hqe] at hy
   refine acallsY_of (o := σ.objs.length + 3) (by rw [hST]; exact get_app4) rfl rfl ?_
   refine aR (by simp [go_sem, hgs, hls, encSh, okAV, hb0, hb1, hL, encPair, dCells, set_ne, set_at] <;> rfl) ?_
   refine ⟨_, _, _, _, _, _, Eq.trans (b := some (.loop l .ready none T0 115 ps0 as0 bd0)) (by simp [go_sem, hgs, hls, encSh, okAV, hb0, hb1, hL, encPair, dCells, set_ne, set_at]) rfl, ?_⟩
   refine awp_block ?_
   refine awp_seq (aR (by simp [go_sem, hgs, hls, encSh, okAV, hb0, hb1, hL, encPair, dCells, set_ne, set_at] <;> rfl) ?_)
   refine awp_cond (by first | rfl | (simp [go_sem, hgs, hls, encSh, okAV, hb0, hb1, hL, encPair, dCells, set_ne, set_at] <;> rfl)) (fun h1 => ?_) (fun h1 => ?_)
   ·refine awp_seq ?_
    refine awp_reg ?_
    refine aL 2 (by simp [go_sem, hgs, hls, encSh, okAV, hb0, hb1, hL, encPair, dCells, set_ne, set_at] <;> rfl) ?_
    refine aF call60 ((c_flat_Sym (namedB q)) _ (by exact hglS.trans hgl)) (by simp [go_sem, hgs, hls, encSh, okAV, hb0, hb1, hL, encPair, dCells, set_ne, set_at] <;> rfl) (by simp [go_sem, hgs, hls, encSh, okAV, hb0, hb1, hL, encPair, dCells, set_ne, set_at]) ?_
    refine aL 1 (by simp [go_sem, hgs, hls, encSh, okAV, hb0, hb1, hL, encPair, dCells, set_ne, set_at] <;> rfl) ?_
    refine al_nil ?_
    refine awp_ret ?_
    refine inBlock_ret ?_
    refine ⟨_, _, _, _, _, _, Eq.trans (b := some (.loop l .busy none T0 115 ps0 as0 bd0)) (by simp [go_sem, hgs, hls, encSh, okAV, hb0, hb1, hL, encPair, dCells, set_ne, set_at]) rfl, ?_⟩
    have hyd : y = d.text := of_decide_eq_true h1
    rw [hyd] at hy
    have hqf := lastI_found hno (by omega) hy
    rw [hqe] at hqf
    refine .inr ⟨rfl, q, hqf, ?_⟩
    refine ⟨?_, ?_, ?_, ?_, ?_, ?_⟩
    · exact hglS
    · exact hts
    · simp [Store.rec_, go_sem, take_set_le, hlow]
    · simp [Store.rec_, go_sem, set_ne, hb0]
    · simp [Store.rec_, go_sem, set_ne, set_at, hb1, dCells, dsym, D.kind, D.num, D.text, D.kids]
    · exact ⟨T0, 115, ps0, as0, bd0, by simp [Store.rec_, go_sem, set_ne, set_at, hL]⟩
   ·refine awp_skip ?_
    refine ⟨_, _, _, _, _, _, Eq.trans (b := some (.loop l .busy none T0 115 ps0 as0 bd0)) (by simp [go_sem, hgs, hls, encSh, okAV, hb0, hb1, hL, encPair, dCells, set_ne, set_at]) rfl, ?_⟩
    refine .inl ⟨rfl, ?_, hno.succ hy h1⟩
    simp only [Store.rec_, List.set_set]
    rw [set_self hL]
  refine (ACalls.args (c_Back (envP env) (by omega) (σ.objs.length + 2) l (fun i τ => τ = ST ∧ NoneLast env d.text i) (fun τ => ∃ q : Nat, lastI env d.text = some q ∧ RenSt σ d (dCells (dsym (namedB q))) l .done (some .ret) τ) (fun i τ h => by rw [h.1]; exact hb2) hround ST ⟨rfl, .zero⟩) (by simp [go_sem, hgs, hls, encSh, okAV])).mono ?_
  rintro _ τ' (⟨hτ, hno⟩ | ⟨q, hq, hgl2, htk2, hlo2, hc0, hc1, T1, N1, ps1, as1, bd1, hc3⟩)
  ·rw [hτ]
   rw [hpl] at hno
   have hln := lastI_none hno
   refine ⟨_, _, _, _, _, _, _, Eq.trans (b := some (.loop l .ready none T0 115 ps0 as0 bd0)) (by simp [go_sem, hgs, hls, encSh, okAV, hL, hb0, hb1, dCells, set_ne, set_at]) rfl, by decide, ?_⟩
   refine awp_seq (aR (by simp [go_sem, hgs, hls, encSh, okAV, hL, hb0, hb1, dCells, set_ne, set_at] <;> rfl) ?_)
   refine awp_ret ?_
   refine then_ret ?_
   have hM : mren d env = d := by rw [mren_eq, if_pos h0, hln]
   refine ends_ret (by simp [go_sem, hb0, hb1, hL, set_ne, set_at] <;> rfl) (by simp [go_sem]) ?_
   exact ⟨by simp [go_sem, hM], by simp [go_sem, take_set_le, hlow, hts, hglS]⟩
  ·refine ⟨_, _, _, _, _, _, _, Eq.trans (b := some (.loop l .done (some .ret) T1 N1 ps1 as1 bd1)) (by simp [go_sem, hgs, hls, encSh, okAV, hc0, hc1, hc3, dCells, set_ne, set_at]) rfl, by decide, ?_⟩
   refine awp_ret ?_
   refine inBlock_ret ?_
   refine then_ret ?_
   refine then_ret ?_
   have hM : mren d env = dsym (namedB q) := by rw [mren_eq, if_pos h0, hq]
   refine ends_ret (by simp [go_sem, hc0, hc1, hc3, set_ne, set_at, dCells] <;> rfl) (by simp [go_sem]) ?_
   exact ⟨by simp [go_sem, hM, enc_sym, dsym], by simp [go_sem, take_set_le, hlo2, htk2, hgl2]⟩
 ·refine awp_skip ?_
  refine awp_seq (awp_seq (awp_reg ?_))
  refine aL 4 (by simp [go_sem, hgs, hls, encSh, okAV] <;> rfl) ?_
  refine al_splitT 36 (by first | rfl | (simp [go_sem, hgs, hls, encSh, okAV] <;> rfl)) (fun h2 => ?_) (fun h2 => ?_)
  ·refine aK 6 36 false ?_
   refine aL 1 (by simp [go_sem, hgs, hls, encSh, okAV] <;> rfl) ?_
   refine al_nil ?_
   refine awp_cond (b := true) (by simp [go_sem, hgs, hls, encSh, okAV, h0, h2]) (fun h => ?_) (fun h => ?_)
   rotate_left
   ·cases h
   refine awp_seq (aR (by simp [go_sem, hgs, hls, encSh, okAV] <;> rfl) ?_)
   refine awp_ret ?_
   refine then_ret ?_
   have hM : mren d env = d := by rw [mren_eq, if_neg (by rw [h0]; decide), if_pos h2]
   refine ends_ret (by simp [go_sem] <;> rfl) (by simp [go_sem]) ?_
   exact ⟨by simp [go_sem, hM], by simp [go_sem]⟩
  ·have hk3 : d.kind = 3 := by simpa using h2
   obtain ⟨x0, r, hks⟩ := kids_cons (hg.ne hk3)
   have hx0 : d.kids[0]? = some x0 := by rw [hks]; rfl
   have hh := head_cons hks
   refine aLG 6 36 false (by simp [go_sem, hgs, hls, encSh, okAV, hx0] <;> rfl) ?_
   refine aL 1 (by simp [go_sem, hgs, hls, encSh, okAV, hx0] <;> rfl) ?_
   refine al_nil ?_
   refine awp_cond (by first | rfl | (simp [go_sem, hgs, hls, encSh, okAV, hx0] <;> rfl)) (fun h3 => ?_) (fun h3 => ?_)
   ·refine awp_seq ?_
    refine aR (by simp [go_sem, hgs, hls, encSh, okAV, hx0] <;> rfl) ?_
    refine awp_ret ?_
    refine then_ret ?_
    have hM : mren d env = d := by rw [mren_eq, if_neg (by rw [h0]; decide), if_neg (by rw [h2]; decide), if_pos (by rw [hh]; exact h3)]
    refine ends_ret (by simp [go_sem] <;> rfl) (by simp [go_sem]) ?_
    exact ⟨by simp [go_sem, hM], by simp [go_sem]⟩
   ·have hq : d.head.text ≠ sQuote := by rw [hh]; exact of_decide_eq_false h3
    have hsn := hg.n hk3 hq
    have hnm := hg.nms hk3 hq
    have hlen := hg.inner_length hk3 hq
    rw [hh] at hsn hnm hlen
    have hsh : ((shp x0.text).getD (0, 0)).1 = shN x0.text := shN_getD
    have hs2 := shN_le x0.text
    have hwr : IntKind.i64.wrap (1 + (shN x0.text : Int)) = 1 + (shN x0.text : Int) := wrap_id (by omega) (by omega)
    have hle : 1 + (shN x0.text : Int) ≤ d.kids.length := by omega
    have h0le : (0 : Int) ≤ 1 + (shN x0.text : Int) := by omega
    have h1le : (1 : Int) ≤ 1 + (shN x0.text : Int) := by omega
    have htn : (1 + (shN x0.text : Int)).toNat = 1 + shN x0.text := by omega
    obtain ⟨L1, hL1⟩ : ∃ L1, L1 = (d.kids.drop 1).take (shN x0.text) := ⟨_, rfl⟩
    have htk := take_tail enc d.kids (shN x0.text)
    rw [← hL1] at htk
    have hnd := nmsD_head hks
    rw [← hL1] at hnd
    have hl1 : L1.length = shN x0.text := by rw [← hnm, hnd, List.length_map]
    refine awp_skip ?_
    refine awp_seq (awp_reg ?_)
    refine aL 1 (by simp [go_sem, hgs, hls, encSh, okAV, hx0, hsh, hwr, hle, h0le, h1le, htn, htk] <;> rfl) ?_
    refine aF call131 ((c_ClipP (envP env)) _ (by exact hgl)) (by simp [go_sem, hgs, hls, encSh, okAV, hx0, hsh, hwr, hle, h0le, h1le, htn, htk] <;> rfl) (by simp [go_sem, hgs, hls, encSh, okAV, hx0, hsh, hwr, hle, h0le, h1le, htn, htk]) ?_
    refine aL 1 (by simp [go_sem, hgs, hls, encSh, okAV, hx0, hsh, hwr, hle, h0le, h1le, htn, htk] <;> rfl) ?_
    refine al_nil ?_
    refine awp_seq (aR (by simp [go_sem, hgs, hls, encSh, okAV, hx0, hsh, hwr, hle, h0le, h1le, htn, htk] <;> rfl) ?_)
    refine awp_seq (awp_seq (awp_regDE tyOk tySz (by kernel_rfl) ?_))
    refine ul_run 14 (by simp [go_sem, hgs, hls, encSh, okAV, hx0, hsh, hwr, hle, h0le, h1le, htn, htk] <;> rfl) ?_
    refine ul_nil ?_
    refine awp_adopt' 9 150 2 (by simp [go_sem] <;> rfl) ?_
    refine awp_adopt' 10 9 1 (by simp [go_sem] <;> rfl) ?_
    refine awp_block ?_
    refine awp_loop_headK (σ.objs.length + 2) (σ.toks.length + 2) 0 [1, 2, 3, 6, 58, 59] (fun k : Nat => [(9, .acc ((envP (env ++ (L1.map D.text).take k)).map encPair) σ.toks.length), (10, .acc (((newN d env.length).map .str).take k) (σ.toks.length + 1)), (60, .pv (.int .i64 ↑k))]) (fun k => { σ with objs := σ.objs ++ [.box [.pv (.int .i64 d.kind), .pv (.int .i64 d.num), .pv (.str d.text), .pv (.slice (d.kids.map enc))], .box [.pv (.int .i64 0), .pv (.int .i64 0), .pv (.str ⟨#[]⟩), .pv .nils]], toks := σ.toks ++ [⟨env.length + k, 150, 2⟩, ⟨k, 9, 1⟩] }) (fun k => k ≤ L1.length) (fun k => L1.length - k) 0 (Nat.zero_le _) ⟨by simp [go_sem, hpl], rfl, by simp, by simp, by simp [go_sem, hgs, hls, encSh, okAV, hx0, hsh, hwr, hle, h0le, h1le, htn, htk], fun ob h => mem_app2 rfl rfl h, by simp [go_sem]⟩ ?_
    intro k hk
    refine awp_seq (aR (by simp [go_sem, hgs, hls, encSh, okAV, hx0, hsh, hwr, hle, h0le, h1le, htn, htk] <;> rfl) ?_)
    refine awp_seq (awp_cond (by first | rfl | (simp [go_sem, hgs, hls, encSh, okAV, hx0, hsh, hwr, hle, h0le, h1le, htn, htk] <;> rfl)) (fun h4 => ?_) (fun h4 => ?_))
    ·have hlt : k < L1.length := by simp at h4; omega
     have hw : IntKind.i64.wrap (↑k + 1) = (k : Int) + 1 := wrap_succ (by omega)
     obtain ⟨x, hx, hxm⟩ := get_lt hlt
     have hen := envP_next (env := env) (L := L1.map D.text) (k := k) (x := x.text) (by simp [hx])
     have hnt : ((newN d env.length).map PV.str).take (k + 1) = ((newN d env.length).map PV.str).take k ++ [.str (namedB ((env.length + k : Nat) : Int))] := take_next (by rw [List.getElem?_map, newN_get (by rw [hh]; omega)]; rfl)
     have hm : min k L1.length = k := by omega
     have hel : (envP (env ++ (L1.map D.text).take k)).length = env.length + k := by rw [envP_length]; simp; omega
     have hnl : (newN d env.length).length = L1.length := by rw [newN_len, hh, hl1]
     have hb2 : (env.length + k + 1) * 32 ≤ 140737488355328 := by omega
     have hb3 : (k + 1) * 16 ≤ 140737488355328 := by omega
     refine awp_skip ?_
     refine awp_seq (awp_block ?_)
     refine awp_seq (aR (by simp [go_sem, hgs, hls, encSh, okAV, hx0, hsh, hwr, hle, h0le, h1le, htn, htk, hx, hm, hel, hnl, hb2, hb3, encPair] <;> rfl) ?_)
     refine awp_seq (awp_regDC tyOk tySz 10 (by kernel_rfl) (by decide) ?_)
     refine ul_run 7 (by simp [go_sem, hgs, hls, encSh, okAV, hx0, hsh, hwr, hle, h0le, h1le, htn, htk, hx, hm, hel, hnl, hb2, hb3, encPair] <;> rfl) ?_
     refine ul_fn (by first | (intro _ _ hh; exact hh) | simp [go_sem]) rfl rfl rfl rfl (by simp [go_sem, hgs, hls, encSh, okAV, hx0, hsh, hwr, hle, h0le, h1le, htn, htk, hx, hm, hel, hnl, hb2, hb3, encPair] <;> rfl) call80 ((c_Plain_1 x.text ((env.length + k : Nat) : Int) (by omega) (by omega)) _ (by exact hgl)) (by simp [go_sem, hgs, hls, encSh, okAV, hx0, hsh, hwr, hle, h0le, h1le, htn, htk, hx, hm, hel, hnl, hb2, hb3, encPair] <;> rfl) (by simp [go_sem, hgs, hls, encSh, okAV, hx0, hsh, hwr, hle, h0le, h1le, htn, htk, hx, hm, hel, hnl, hb2, hb3, encPair]) rfl rfl ?_
     refine ul_run 2 (by simp [go_sem, hgs, hls, encSh, okAV, hx0, hsh, hwr, hle, h0le, h1le, htn, htk, hx, hm, hel, hnl, hb2, hb3, encPair] <;> rfl) ?_
     refine ul_nil ?_
     refine aL 1 (by simp [go_sem, hgs, hls, encSh, okAV, hx0, hsh, hwr, hle, h0le, h1le, htn, htk, hx, hm, hel, hnl, hb2, hb3, encPair] <;> rfl) ?_
     refine al_nil ?_
     refine awp_seq (aR (by simp [go_sem, hgs, hls, encSh, okAV, hx0, hsh, hwr, hle, h0le, h1le, htn, htk, hx, hm, hel, hnl, hb2, hb3, encPair] <;> rfl) ?_)
     refine aR (by simp [go_sem, hgs, hls, encSh, okAV, hx0, hsh, hwr, hle, h0le, h1le, htn, htk, hx, hm, hel, hnl, hb2, hb3, encPair] <;> rfl) ?_
     refine aR (by simp [go_sem, hgs, hls, encSh, okAV, hx0, hsh, hwr, hle, h0le, h1le, htn, htk, hx, hm, hel, hnl, hb2, hb3, encPair] <;> rfl) ?_
     exact next_intro (k + 1) (σ.objs.length + 2) (σ.toks.length + 2) 0 (hlt) (by omega) ⟨by simp [go_sem, hgs, hls, encSh, okAV, hx0, hsh, hwr, hle, h0le, h1le, htn, htk, hx, hm, hel, hnl, hb2, hb3, encPair, hw, hen, hnt, encPair, Nat.add_assoc], rfl, by simp, by simp, by simp [go_sem, hgs, hls, encSh, okAV, hx0, hsh, hwr, hle, h0le, h1le, htn, htk, hx, hm, hel, hnl, hb2, hb3, encPair, hw, hen, hnt, encPair, Nat.add_assoc], fun ob h => mem_app2 rfl rfl h, by simp [go_sem]⟩
    ·have hke : k = L1.length := by simp at h4; omega
     subst hke
     have hnl : (newN d env.length).length = L1.length := by rw [newN_len, hh, hl1]
     have hna : ((newN d env.length).map PV.str).take L1.length = (newN d env.length).map PV.str := List.take_of_length_le (by simp [hnl])
     refine awp_exit ?_
     refine then_exit ?_
     refine then_exit ?_
     refine inBlock_hit ?_
     refine awp_seq (aR (by simp [go_sem, hgs, hls, encSh, okAV, hx0, hsh, hwr, hle, h0le, h1le, htn, htk, hna] <;> rfl) ?_)
     refine awp_seq (awp_seq (awp_reg ?_))
     refine aL 1 (by simp [go_sem, hgs, hls, encSh, okAV, hx0, hsh, hwr, hle, h0le, h1le, htn, htk, hna] <;> rfl) ?_
     refine aF call113 ((c_Inner d hg.ne hg.n) _ (by exact hgl)) (by simp [go_sem, hgs, hls, encSh, okAV, hx0, hsh, hwr, hle, h0le, h1le, htn, htk, hna] <;> rfl) (by simp [go_sem, hgs, hls, encSh, okAV, hx0, hsh, hwr, hle, h0le, h1le, htn, htk, hna]) ?_
     refine aL 2 (by simp [go_sem, hgs, hls, encSh, okAV, hx0, hsh, hwr, hle, h0le, h1le, htn, htk, hna] <;> rfl) ?_
     refine al_nil ?_
     refine awp_adopt' 14 24 4 (by simp [go_sem] <;> rfl) ?_
     refine awp_block ?_
     refine awp_loop_headK (σ.objs.length + 2) (σ.toks.length + 3) 0 [1, 2, 3, 6, 9, 10, 84, 85] (fun k : Nat => [(14, .acc (((mapI (fun i x => mren x (env ++ bnd d i)) (inner d)).map enc).take k) (σ.toks.length + 2)), (86, .pv (.int .i64 ↑k))]) (fun k => { σ with objs := σ.objs ++ [.box [.pv (.int .i64 d.kind), .pv (.int .i64 d.num), .pv (.str d.text), .pv (.slice (d.kids.map enc))], .box [.pv (.int .i64 0), .pv (.int .i64 0), .pv (.str ⟨#[]⟩), .pv .nils]], toks := σ.toks ++ [⟨env.length + L1.length, 150, 2⟩, ⟨L1.length, 9, 1⟩, ⟨k, 24, 4⟩] }) (fun k => k ≤ (inner d).length) (fun k => (inner d).length - k) 0 (Nat.zero_le _) ⟨by simp [go_sem, hgs, hls, encSh, okAV, hx0, hsh, hwr, hle, h0le, h1le, htn, htk, hna], rfl, by simp, by simp, by simp [go_sem, hgs, hls, encSh, okAV, hx0, hsh, hwr, hle, h0le, h1le, htn, htk, hna], fun ob h => mem_app2 rfl rfl h, by simp [go_sem]⟩ ?_
     intro k hk
     refine awp_seq (aR (by simp [go_sem, hgs, hls, encSh, okAV, hx0, hsh, hwr, hle, h0le, h1le, htn, htk, hna] <;> rfl) ?_)
     refine awp_seq (awp_cond (by first | rfl | (simp [go_sem, hgs, hls, encSh, okAV, hx0, hsh, hwr, hle, h0le, h1le, htn, htk, hna] <;> rfl)) (fun h5 => ?_) (fun h5 => ?_))
     ·have hlt : k < (inner d).length := by simp at h5; omega
      have hw : IntKind.i64.wrap (↑k + 1) = (k : Int) + 1 := wrap_succ (by omega)
      obtain ⟨x, hx, hxm⟩ := get_lt hlt
      have hmn : ((mapI (fun i x => mren x (env ++ bnd d i)) (inner d)).map enc).take (k + 1) = ((mapI (fun i x => mren x (env ++ bnd d i)) (inner d)).map enc).take k ++ [enc (mren x (env ++ bnd d k))] := take_next (by rw [List.getElem?_map, mapI_get, hx]; rfl)
      have hm : min k (inner d).length = k := by omega
      have hb2 : (k + 1) * 56 ≤ 140737488355328 := by omega
      refine awp_skip ?_
      refine awp_seq (awp_block ?_)
      refine awp_seq (aR (by simp [go_sem, hgs, hls, encSh, okAV, hx0, hsh, hwr, hle, h0le, h1le, htn, htk, hna, hx, hm, hb2, mapI_length] <;> rfl) ?_)
      refine awp_seq (awp_reg ?_)
      refine aL 2 (by simp [go_sem, hgs, hls, encSh, okAV, hx0, hsh, hwr, hle, h0le, h1le, htn, htk, hna, hx, hm, hb2, mapI_length] <;> rfl) ?_
      refine aF call132 ((c_bound d hg k (by omega)) _ (by exact hgl)) (by simp [go_sem, hgs, hls, encSh, okAV, hx0, hsh, hwr, hle, h0le, h1le, htn, htk, hna, hx, hm, hb2, mapI_length] <;> rfl) (by simp [go_sem, hgs, hls, encSh, okAV, hx0, hsh, hwr, hle, h0le, h1le, htn, htk, hna, hx, hm, hb2, mapI_length]) ?_
      refine aL 2 (by simp [go_sem, hgs, hls, encSh, okAV, hx0, hsh, hwr, hle, h0le, h1le, htn, htk, hna, hx, hm, hb2, mapI_length] <;> rfl) ?_
      refine al_nil ?_
      refine awp_cond (by first | rfl | (simp [go_sem, hgs, hls, encSh, okAV, hx0, hsh, hwr, hle, h0le, h1le, htn, htk, hna, hx, hm, hb2, mapI_length] <;> rfl)) (fun h6 => ?_) (fun h6 => ?_)
      ·have hbn : bnd d k = L1.map D.text := ((hg.bnd_nms hk3 k).resolve_left (fun e => by rw [e] at h6; simp at h6)).trans hnd
       refine awp_reg ?_
       refine aL 4 (by simp [go_sem, hgs, hls, encSh, okAV, hx0, hsh, hwr, hle, h0le, h1le, htn, htk, hna, hx, hm, hb2, mapI_length] <;> rfl) ?_
       refine aF call79 (ih x (inner_mem hxm) (hg.part hxm) (env ++ bnd d k) (by have := bnd_len d k; have := D.size_kid_lt (inner_mem hxm); simp; omega) _ (by exact hgl)) (by simp [go_sem, hgs, hls, encSh, okAV, hx0, hsh, hwr, hle, h0le, h1le, htn, htk, hna, hx, hm, hb2, mapI_length] <;> rfl) (by simp [go_sem, hgs, hls, encSh, okAV, hx0, hsh, hwr, hle, h0le, h1le, htn, htk, hna, hx, hm, hb2, mapI_length, hbn]) ?_
       refine aL 3 (by simp [go_sem, hgs, hls, encSh, okAV, hx0, hsh, hwr, hle, h0le, h1le, htn, htk, hna, hx, hm, hb2, mapI_length] <;> rfl) ?_
       refine al_nil ?_
       refine aR (by simp [go_sem, hgs, hls, encSh, okAV, hx0, hsh, hwr, hle, h0le, h1le, htn, htk, hna, hx, hm, hb2, mapI_length] <;> rfl) ?_
       exact next_intro (k + 1) (σ.objs.length + 2) (σ.toks.length + 3) 0 (hlt) (by omega) ⟨by simp [go_sem, hgs, hls, encSh, okAV, hx0, hsh, hwr, hle, h0le, h1le, htn, htk, hna, hx, hm, hb2, mapI_length, hw, hmn], rfl, by simp, by simp, by simp [go_sem, hgs, hls, encSh, okAV, hx0, hsh, hwr, hle, h0le, h1le, htn, htk, hna, hx, hm, hb2, mapI_length, hw, hmn], fun ob h => mem_app2 rfl rfl h, by simp [go_sem]⟩
      ·have hbn : bnd d k = [] := by simpa using h6
       refine awp_reg ?_
       refine aL 4 (by simp [go_sem, hgs, hls, encSh, okAV, hx0, hsh, hwr, hle, h0le, h1le, htn, htk, hna, hx, hm, hb2, mapI_length] <;> rfl) ?_
       refine aF call79 (ih x (inner_mem hxm) (hg.part hxm) (env ++ bnd d k) (by have := bnd_len d k; have := D.size_kid_lt (inner_mem hxm); simp; omega) _ (by exact hgl)) (by simp [go_sem, hgs, hls, encSh, okAV, hx0, hsh, hwr, hle, h0le, h1le, htn, htk, hna, hx, hm, hb2, mapI_length] <;> rfl) (by simp [go_sem, hgs, hls, encSh, okAV, hx0, hsh, hwr, hle, h0le, h1le, htn, htk, hna, hx, hm, hb2, mapI_length, hbn]) ?_
       refine aL 3 (by simp [go_sem, hgs, hls, encSh, okAV, hx0, hsh, hwr, hle, h0le, h1le, htn, htk, hna, hx, hm, hb2, mapI_length] <;> rfl) ?_
       refine al_nil ?_
       refine aR (by simp [go_sem, hgs, hls, encSh, okAV, hx0, hsh, hwr, hle, h0le, h1le, htn, htk, hna, hx, hm, hb2, mapI_length] <;> rfl) ?_
       exact next_intro (k + 1) (σ.objs.length + 2) (σ.toks.length + 3) 0 (hlt) (by omega) ⟨by simp [go_sem, hgs, hls, encSh, okAV, hx0, hsh, hwr, hle, h0le, h1le, htn, htk, hna, hx, hm, hb2, mapI_length, hw, hmn], rfl, by simp, by simp, by simp [go_sem, hgs, hls, encSh, okAV, hx0, hsh, hwr, hle, h0le, h1le, htn, htk, hna, hx, hm, hb2, mapI_length, hw, hmn], fun ob h => mem_app2 rfl rfl h, by simp [go_sem]⟩
     ·have hke : k = (inner d).length := by simp at h5; omega
      subst hke
      have hma : ((mapI (fun i x => mren x (env ++ bnd d i)) (inner d)).map enc).take (inner d).length = (mapI (fun i x => mren x (env ++ bnd d i)) (inner d)).map enc := List.take_of_length_le (by simp [mapI_length])
      refine awp_exit ?_
      refine then_exit ?_
      refine then_exit ?_
      refine inBlock_hit ?_
      refine awp_seq (awp_reg ?_)
      refine aL 3 (by simp [go_sem, hgs, hls, encSh, okAV, hx0, hsh, hwr, hle, h0le, h1le, htn, htk, hna, hma] <;> rfl) ?_
      refine aF call114 ((c_with d (hg.ne hk3) (newN d env.length) (mapI (fun i x => mren x (env ++ bnd d i)) (inner d)) (by rw [newN_len, hh, mapI_length]; omega)) _ (by exact hgl)) (by simp [go_sem, hgs, hls, encSh, okAV, hx0, hsh, hwr, hle, h0le, h1le, htn, htk, hna, hma] <;> rfl) (by simp [go_sem, hgs, hls, encSh, okAV, hx0, hsh, hwr, hle, h0le, h1le, htn, htk, hna, hma]) ?_
      refine aL 1 (by simp [go_sem, hgs, hls, encSh, okAV, hx0, hsh, hwr, hle, h0le, h1le, htn, htk, hna, hma] <;> rfl) ?_
      refine al_nil ?_
      refine awp_ret ?_
      have hM : mren d env = dlist (d.head :: (newN d env.length).map dsym ++ mapI (fun i x => mren x (env ++ bnd d i)) (inner d)) := by rw [mren_eq, if_neg (by rw [h0]; decide), if_neg (by rw [h2]; decide), if_neg (by simpa using hq)]
      refine ends_ret (by simp [go_sem] <;> rfl) (by simp [go_sem]) ?_
      exact ⟨by simp [go_sem, hM], by simp [go_sem]⟩

end Go.Proofs.YtmpofjiokpeegaaGreatDoor

/- Plain, Same, Erase, Lifted. -/
namespace Go.Proofs.YtmpofjiokpeegaaGreatDoor
open Go Go.Aw
variable {kr : KR}
set_option maxHeartbeats 1000000 in
theorem c_flat_Own (d : D) (hd : d.size ≤ 1000000000) : Pur Tryz.prog (GL kr) 55 [.pv (enc d)] (.pv (enc d)) := by
 refine pur_of fun σ hgl => ?_
 refine acalls_of tyOk Tryz.func55 rfl (by simp [Tryz.f55]) ?_
 refine awp_seq (aR (by simp [go_sem] <;> rfl) ?_)
 refine awp_seq (awp_reg ?_)
 refine aL 1 (by simp [go_sem] <;> rfl) ?_
 refine aF call112 ((c_own d hd) _ (by exact hgl)) (by simp [go_sem] <;> rfl) (by simp [go_sem]) ?_
 refine aL 1 (by simp [go_sem] <;> rfl) ?_
 refine al_nil ?_
 refine awp_ret ?_
 refine ends_ret (by simp [go_sem] <;> rfl) (by simp [go_sem]) ?_
 exact ⟨by simp [go_sem], by simp [go_sem]⟩

set_option maxHeartbeats 1000000 in
theorem c_mPlain (d : D) (hd : d.size ≤ 100000000) : Pur Tryz.prog (GL kr) 36 [.pv (enc d)] (.tuple [.pv (enc (mplain d).1), .pv (.int .i64 (mplain d).2)]) := by
 refine pur_of fun σ hgl => ?_
 refine acalls_of tyOk Tryz.func36 rfl (by simp [Tryz.f36]) ?_
 refine awp_seq (aR (by simp [go_sem] <;> rfl) ?_)
 refine awp_seq (awp_seq (awp_reg ?_))
 refine aL 1 (by simp [go_sem] <;> rfl) ?_
 refine aF call21 ((c_mCheck d (by omega)) _ (by exact hgl)) (by simp [go_sem] <;> rfl) (by simp [go_sem]) ?_
 refine aL 1 (by simp [go_sem] <;> rfl) ?_
 refine al_nil ?_
 refine awp_seq (aR (by simp [go_sem] <;> rfl) ?_)
 refine awp_cond (by first | rfl | (simp [go_sem] <;> rfl)) (fun h0 => ?_) (fun h0 => ?_)
 ·refine awp_seq ?_
  refine aR (by simp [go_sem] <;> rfl) ?_
  refine awp_ret ?_
  refine then_ret ?_
  have hM : mplain d = (dnone, mcheck d) := by unfold mplain; rw [if_pos h0]
  refine ends_ret (by simp [go_sem] <;> rfl) (by simp [go_sem]) ?_
  exact ⟨by simp [go_sem, hM, enc_none], by simp [go_sem, setS_new]⟩
 ·have hz : mcheck d = 0 := by simpa using h0
  have hg := mcheck_good hz
  have henv : (envP ([] : List ByteArray)) = [] := rfl
  have hfl : (mfree d [] []).length ≤ d.size := by have := mfree_len d [] []; simpa using this
  obtain ⟨S, hS⟩ : ∃ S, S = mused d := ⟨_, rfl⟩
  have hS2 : (mbnd (mren d [])).foldl addS [] = S := hS.symm
  refine awp_skip ?_
  refine awp_seq (awp_reg ?_)
  refine aL 1 (by simp [go_sem, hS2, henv] <;> rfl) ?_
  refine aF call79 (c_renamed d hg [] (by simp; omega) _ (by exact hgl)) (by simp [go_sem, hS2, henv] <;> rfl) (by simp [go_sem, hS2, henv, henv]) ?_
  refine aL 2 (by simp [go_sem, hS2, henv] <;> rfl) ?_
  refine al_nil ?_
  refine awp_seq (aR (by simp [go_sem, hS2, henv] <;> rfl) ?_)
  refine awp_seq (awp_reg ?_)
  refine aL 2 (by simp [go_sem, hS2, henv] <;> rfl) ?_
  refine al_callW rfl rfl rfl (by simp [go_sem, hS2, henv] <;> rfl) call82 (c_mark (mren d []) (mren_ok hg []) (by have := mren_size hg []; omega) [] _ σ.objs.length (by exact hgl) (by simp [tK, tV])) (by simp [go_sem, hS2, henv] <;> rfl) (by simp [go_sem, hS2, henv]) rfl rfl ?_
  rintro r σ' ⟨rfl, rfl⟩
  refine al_nil ?_
  refine awp_seq (awp_seq (awp_reg ?_))
  refine aL 1 (by simp [go_sem, hS2, henv, setS_new] <;> rfl) ?_
  refine aF call62 ((c_FreeNames d hg hd) _ (by exact hgl)) (by simp [go_sem, hS2, henv, setS_new] <;> rfl) (by simp [go_sem, hS2, henv, setS_new]) ?_
  refine aL 2 (by simp [go_sem, hS2, henv, setS_new] <;> rfl) ?_
  refine al_nil ?_
  refine awp_block ?_
  refine awp_loop_headK (σ.objs.length + 1) σ.toks.length 3 [2, 3, 5, 6, 22, 23] (fun k : Nat => [(24, .pv (.int .i64 ↑k))]) (fun k => { σ with objs := σ.objs ++ [.map (tK S) (tV S)] }) (fun k => k ≤ (mfree d [] []).length ∧ NotYet (fun x => pname x && memB S x) (mfree d [] []) k) (fun k => (mfree d [] []).length - k) 0 (⟨Nat.zero_le _, .zero⟩) ⟨by simp [go_sem, hS2, henv, setS_new], rfl, by simp, by simp, by simp [go_sem, hS2, henv, setS_new], fun ob h => mem_app1 rfl h, by simp [go_sem]⟩ ?_
  rintro k ⟨hk, hn⟩
  refine awp_seq (aR (by simp [go_sem, hS2, henv, setS_new] <;> rfl) ?_)
  refine awp_seq (awp_cond (by first | rfl | (simp [go_sem, hS2, henv, setS_new] <;> rfl)) (fun h1 => ?_) (fun h1 => ?_))
  ·have hlt : k < (mfree d [] []).length := by simp at h1; omega
   have hw : IntKind.i64.wrap (↑k + 1) = (k : Int) + 1 := wrap_succ (by omega)
   obtain ⟨x, hx, hxm⟩ := get_lt hlt
   have hlk := fun (s : St) (ho : s.σ.objs[σ.objs.length]? = some (.map (tK S) (tV S))) => look_set (ty := ty) (s := s) (t := 107) (S := S) (o := σ.objs.length) rfl rfl rfl rfl rfl rfl rfl ho x
   refine awp_skip ?_
   refine awp_seq (awp_block ?_)
   refine awp_seq (aR (by simp [go_sem, hS2, henv, setS_new, hx, hlk] <;> rfl) ?_)
   refine awp_seq (awp_reg ?_)
   refine aL 1 (by simp [go_sem, hS2, henv, setS_new, hx, hlk] <;> rfl) ?_
   refine aF call83 ((c_plainName x (by have := free_short hg hxm; omega)) _ (by exact hgl)) (by simp [go_sem, hS2, henv, setS_new, hx, hlk] <;> rfl) (by simp [go_sem, hS2, henv, setS_new, hx, hlk]) ?_
   refine aL 1 (by simp [go_sem, hS2, henv, setS_new, hx, hlk] <;> rfl) ?_
   refine al_splitT 30 (by first | rfl | (simp [go_sem, hS2, henv, setS_new, hx, hlk] <;> rfl)) (fun h2 => ?_) (fun h2 => ?_)
   ·refine aLG 3 30 true (by simp [go_sem, hS2, henv, setS_new, hx, hlk] <;> rfl) ?_
    refine aL 1 (by simp [go_sem, hS2, henv, setS_new, hx, hlk] <;> rfl) ?_
    refine al_nil ?_
    refine awp_cond (by first | rfl | (simp [go_sem, hS2, henv, setS_new, hx, hlk] <;> rfl)) (fun h3 => ?_) (fun h3 => ?_)
    ·refine awp_seq ?_
     refine aR (by simp [go_sem, hS2, henv, setS_new, hx, hlk] <;> rfl) ?_
     refine awp_ret ?_
     refine inBlock_ret ?_
     refine then_ret ?_
     refine then_ret ?_
     refine inBlock_ret ?_
     refine then_ret ?_
     have hcl : mclash d = true := by unfold mclash; rw [← hS]; exact List.any_eq_true.2 ⟨x, hxm, by rw [h2, h3]; rfl⟩
     have hM : mplain d = (dnone, 6) := by unfold mplain; rw [if_neg (by rw [h0]; decide), if_pos hcl]
     refine ends_ret (by simp [go_sem] <;> rfl) (by simp [go_sem]) ?_
     exact ⟨by simp [go_sem, hM, enc_none], by simp [go_sem, setS_new]⟩
    ·refine awp_skip ?_
     refine aR (by simp [go_sem, hS2, henv, setS_new, hx, hlk] <;> rfl) ?_
     exact next_intro (k + 1) (σ.objs.length + 1) σ.toks.length 3 (⟨hlt, hn.succ hx (by simp [h0, h1, h2, h3])⟩) (by omega) ⟨by simp [go_sem, hS2, henv, setS_new, hx, hlk, hw], rfl, by simp, by simp, by simp [go_sem, hS2, henv, setS_new, hx, hlk, hw], fun ob h => mem_app1 rfl h, by simp [go_sem]⟩
   ·refine aK 3 30 true ?_
    refine aL 1 (by simp [go_sem, hS2, henv, setS_new, hx, hlk] <;> rfl) ?_
    refine al_nil ?_
    refine awp_cond (b := false) (by simp [go_sem, hS2, henv, setS_new, hx, hlk, h0, h1, h2]) (fun h => ?_) (fun h => ?_)
    ·cases h
    refine awp_skip ?_
    refine aR (by simp [go_sem, hS2, henv, setS_new, hx, hlk] <;> rfl) ?_
    exact next_intro (k + 1) (σ.objs.length + 1) σ.toks.length 3 (⟨hlt, hn.succ hx (by simp [h0, h1, h2])⟩) (by omega) ⟨by simp [go_sem, hS2, henv, setS_new, hx, hlk, hw], rfl, by simp, by simp, by simp [go_sem, hS2, henv, setS_new, hx, hlk, hw], fun ob h => mem_app1 rfl h, by simp [go_sem]⟩
  ·have hke : k = (mfree d [] []).length := by simp at h1; omega
   subst hke
   have hcl : mclash d = false := by unfold mclash; rw [← hS]; exact hn.any
   refine awp_exit ?_
   refine then_exit ?_
   refine then_exit ?_
   refine inBlock_hit ?_
   refine awp_seq (awp_seq (awp_reg ?_))
   refine aL 1 (by simp [go_sem, hS2, henv, setS_new] <;> rfl) ?_
   refine aF call61 ((c_datum_Check (mren d []) (by have := mren_size hg []; omega)) _ (by exact hgl)) (by simp [go_sem, hS2, henv, setS_new] <;> rfl) (by simp [go_sem, hS2, henv, setS_new]) ?_
   refine aL 1 (by simp [go_sem, hS2, henv, setS_new] <;> rfl) ?_
   refine al_nil ?_
   refine awp_cond (by first | rfl | (simp [go_sem, hS2, henv, setS_new] <;> rfl)) (fun h4 => ?_) (fun h4 => ?_)
   ·refine awp_seq ?_
    refine aR (by simp [go_sem, hS2, henv, setS_new] <;> rfl) ?_
    refine awp_ret ?_
    refine then_ret ?_
    have hM : mplain d = (dnone, 3) := by unfold mplain; rw [if_neg (by rw [h0]; decide), hcl, if_neg (by decide), if_pos h4]
    refine ends_ret (by simp [go_sem] <;> rfl) (by simp [go_sem]) ?_
    exact ⟨by simp [go_sem, hM, enc_none], by simp [go_sem, setS_new]⟩
   ·refine awp_skip ?_
    refine awp_seq (awp_reg ?_)
    refine aL 1 (by simp [go_sem, hS2, henv, setS_new] <;> rfl) ?_
    refine aF call55 ((c_flat_Own (mren d []) (by have := mren_size hg []; omega)) _ (by exact hgl)) (by simp [go_sem, hS2, henv, setS_new] <;> rfl) (by simp [go_sem, hS2, henv, setS_new]) ?_
    refine aL 2 (by simp [go_sem, hS2, henv, setS_new] <;> rfl) ?_
    refine al_nil ?_
    refine awp_ret ?_
    have hM : mplain d = (mren d [], 0) := by unfold mplain; rw [if_neg (by rw [h0]; decide), hcl, if_neg (by decide), if_neg (by rw [h4]; decide)]
    refine ends_ret (by simp [go_sem] <;> rfl) (by simp [go_sem]) ?_
    exact ⟨by simp [go_sem, hM, enc_none], by simp [go_sem, setS_new]⟩

set_option maxHeartbeats 1000000 in
theorem c_Erase_1 (d : D) (hd : okF d) : Pur Tryz.prog (GL kr) 78 [.pv (enc d)] (.pv (enc (eraseF d))) := by
 refine pur_of fun σ hgl => ?_
 refine acalls_of tyOk Tryz.func78 rfl (by simp [Tryz.f78]) ?_
 refine awp_seq (aR (by simp [go_sem] <;> rfl) ?_)
 refine awp_seq (awp_block ?_)
 refine awp_seq (awp_reg ?_)
 refine aL 1 (by simp [go_sem] <;> rfl) ?_
 refine aF call58 ((c_Is d sLift (fun h => (hd.1 h).1)) _ (by exact hgl)) (by simp [go_sem] <;> rfl) (by simp [go_sem, eLift]) ?_
 refine aL 1 (by simp [go_sem] <;> rfl) ?_
 refine al_nil ?_
 refine awp_cond (by first | rfl | (simp [go_sem] <;> rfl)) (fun h0 => ?_) (fun h0 => ?_)
 ·have hl2 := hd.2.1 h0
  obtain ⟨x1, hx1, hx1m⟩ := get_lt (l := d.kids) (k := 1) (by omega)
  have hd1 : d1 d.kids = x1 := getD_of hx1
  refine awp_seq (aR (by simp [go_sem, hx1] <;> rfl) ?_)
  refine awp_ret ?_
  refine inBlock_ret ?_
  refine then_ret ?_
  refine ends_ret (by simp [go_sem, hx1] <;> rfl) (by simp [go_sem]) ?_
  exact ⟨by simp only [eraseF, hx1, h0, hd1, bA, bB, bC, bD, bE, bF, bG, bH, bI, bJ, Bool.false_eq_true, if_true, if_false]; simp [go_sem], by simp [go_sem]⟩
 ·refine awp_seq ?_
  refine awp_reg ?_
  refine aL 1 (by simp [go_sem] <;> rfl) ?_
  refine aF call58 ((c_Is d sRun (fun h => (hd.1 h).1)) _ (by exact hgl)) (by simp [go_sem] <;> rfl) (by simp [go_sem, eRun]) ?_
  refine aL 1 (by simp [go_sem] <;> rfl) ?_
  refine al_nil ?_
  refine awp_cond (by first | rfl | (simp [go_sem] <;> rfl)) (fun h1 => ?_) (fun h1 => ?_)
  ·have hl3 := hd.2.2 h1
   obtain ⟨x2, hx2, hx2m⟩ := get_lt (l := d.kids) (k := 2) (by omega)
   have hd2 : d2 d.kids = x2 := getD_of hx2
   refine awp_seq (aR (by simp [go_sem, hx2] <;> rfl) ?_)
   refine awp_ret ?_
   refine inBlock_ret ?_
   refine then_ret ?_
   refine ends_ret (by simp [go_sem, hx2] <;> rfl) (by simp [go_sem]) ?_
   exact ⟨by simp only [eraseF, hx2, h0, h1, hd2, bA, bB, bC, bD, bE, bF, bG, bH, bI, bJ, Bool.false_eq_true, if_true, if_false]; simp [go_sem], by simp [go_sem]⟩
  ·refine awp_skip ?_
   refine awp_seq (aR (by simp [go_sem] <;> rfl) ?_)
   refine awp_ret ?_
   refine ends_ret (by simp [go_sem] <;> rfl) (by simp [go_sem]) ?_
   exact ⟨by simp only [eraseF, h0, h1, bA, bB, bC, bD, bE, bF, bG, bH, bI, bJ, Bool.false_eq_true, if_true, if_false]; simp [go_sem], by simp [go_sem]⟩

set_option maxHeartbeats 1000000 in
theorem c_mErase (d : D) (hd : d.size ≤ 100000000) : Pur Tryz.prog (GL kr) 34 [.pv (enc d)] (.tuple [.pv (enc (merase d).1), .pv (.int .i64 (merase d).2)]) := by
 refine pur_of fun σ hgl => ?_
 refine acalls_of tyOk Tryz.func34 rfl (by simp [Tryz.f34]) ?_
 refine awp_seq (aR (by simp [go_sem] <;> rfl) ?_)
 refine awp_seq (awp_seq (awp_reg ?_))
 refine aL 1 (by simp [go_sem] <;> rfl) ?_
 refine aF call21 ((c_mCheck d (by omega)) _ (by exact hgl)) (by simp [go_sem] <;> rfl) (by simp [go_sem]) ?_
 refine aL 1 (by simp [go_sem] <;> rfl) ?_
 refine al_nil ?_
 refine awp_seq (aR (by simp [go_sem] <;> rfl) ?_)
 refine awp_cond (by first | rfl | (simp [go_sem] <;> rfl)) (fun h0 => ?_) (fun h0 => ?_)
 ·refine awp_seq ?_
  refine aR (by simp [go_sem] <;> rfl) ?_
  refine awp_ret ?_
  refine then_ret ?_
  have hM : merase d = (dnone, mcheck d) := by unfold merase; rw [if_pos h0]
  refine ends_ret (by simp [go_sem] <;> rfl) (by simp [go_sem]) ?_
  exact ⟨by simp [go_sem, hM, enc_none], by simp [go_sem, setS_new]⟩
 ·have hz : mcheck d = 0 := by simpa using h0
  have hg := mcheck_good hz
  refine awp_skip ?_
  refine awp_seq (awp_reg ?_)
  refine aL 1 (by simp [go_sem] <;> rfl) ?_
  refine aF call56 (c_mapped d hg (by omega) 78 call78 eraseF σ hgl (fun x τ hτ hx => c_Erase_1 x hx τ hτ)) (by simp [go_sem] <;> rfl) (by simp [go_sem]) ?_
  refine aF call55 ((c_flat_Own (mmap eraseF d) (by have := merase_size hg; omega)) _ (by exact hgl)) (by simp [go_sem] <;> rfl) (by simp [go_sem]) ?_
  refine aL 2 (by simp [go_sem] <;> rfl) ?_
  refine al_nil ?_
  refine awp_ret ?_
  have hM : merase d = (mmap eraseF d, 0) := by unfold merase; rw [if_neg (by rw [h0]; decide)]
  refine ends_ret (by simp [go_sem] <;> rfl) (by simp [go_sem]) ?_
  exact ⟨by simp [go_sem, hM, enc_none], by simp [go_sem, setS_new]⟩

set_option maxHeartbeats 1000000 in
theorem c_Lifted_1 (d : D) (hd : okF d) : Pur Tryz.prog (GL kr) 57 [.pv (enc d)] (.pv (enc (liftF d))) := by
 refine pur_of fun σ hgl => ?_
 refine acalls_of tyOk Tryz.func57 rfl (by simp [Tryz.f57]) ?_
 refine awp_seq (aR (by simp [go_sem] <;> rfl) ?_)
 refine awp_seq (awp_seq (awp_reg ?_))
 refine aL 4 (by simp [go_sem] <;> rfl) ?_
 refine al_splitT 6 (by first | rfl | (simp [go_sem] <;> rfl)) (fun h0 => ?_) (fun h0 => ?_)
 ·refine aK 2 6 false ?_
  refine aL 2 (by simp [go_sem] <;> rfl) ?_
  refine aK 2 10 false ?_
  refine aL 1 (by simp [go_sem] <;> rfl) ?_
  refine al_nil ?_
  refine awp_cond (b := true) (by simp [go_sem, h0]) (fun h => ?_) (fun h => ?_)
  rotate_left
  ·cases h
  refine awp_seq (awp_regDC tyOk tySz 2 (by kernel_rfl) (by decide) ?_)
  refine ul_fn (by first | (intro _ _ hh; exact hh) | simp [go_sem]) rfl rfl rfl rfl (by simp [go_sem] <;> rfl) call60 ((c_flat_Sym sLift) _ (by exact hgl)) (by simp [go_sem] <;> rfl) (by simp [go_sem, eLift]) rfl rfl ?_
  refine ul_run 1 (by simp [go_sem] <;> rfl) ?_
  refine ul_nil ?_
  refine aL 1 (by simp [go_sem] <;> rfl) ?_
  refine aF call59 ((c_flat_List [dsym sLift, d]) _ (by exact hgl)) (by simp [go_sem] <;> rfl) (by simp [go_sem]) ?_
  refine aL 1 (by simp [go_sem] <;> rfl) ?_
  refine al_nil ?_
  refine awp_ret ?_
  refine then_ret ?_
  refine ends_ret (by simp [go_sem] <;> rfl) (by simp [go_sem]) ?_
  exact ⟨by simp only [liftF, h0, bA, bB, bC, bD, bE, bF, bG, bH, bI, bJ, Bool.false_eq_true, if_true, if_false]; simp [go_sem], by simp [go_sem]⟩
 ·refine aLG 1 6 false (by simp [go_sem] <;> rfl) ?_
  refine al_fnG 6 false false (by simp [go_sem]) rfl (by simp [go_sem]) rfl rfl (by simp [go_sem] <;> rfl) call58 ((c_Is d sQuote (fun h => (hd.1 h).1)) _ (by exact hgl)) (by simp [go_sem] <;> rfl) (by simp [go_sem, eQuote]) rfl rfl ?_
  refine aL 2 (by simp [go_sem] <;> rfl) ?_
  refine al_splitT 10 (by first | rfl | (simp [go_sem] <;> rfl)) (fun h1 => ?_) (fun h1 => ?_)
  ·refine aK 2 10 false ?_
   refine aL 1 (by simp [go_sem] <;> rfl) ?_
   refine al_nil ?_
   refine awp_cond (b := true) (by simp [go_sem, h0, h1]) (fun h => ?_) (fun h => ?_)
   rotate_left
   ·cases h
   refine awp_seq (awp_regDC tyOk tySz 2 (by kernel_rfl) (by decide) ?_)
   refine ul_fn (by first | (intro _ _ hh; exact hh) | simp [go_sem]) rfl rfl rfl rfl (by simp [go_sem] <;> rfl) call60 ((c_flat_Sym sLift) _ (by exact hgl)) (by simp [go_sem] <;> rfl) (by simp [go_sem, eLift]) rfl rfl ?_
   refine ul_run 1 (by simp [go_sem] <;> rfl) ?_
   refine ul_nil ?_
   refine aL 1 (by simp [go_sem] <;> rfl) ?_
   refine aF call59 ((c_flat_List [dsym sLift, d]) _ (by exact hgl)) (by simp [go_sem] <;> rfl) (by simp [go_sem]) ?_
   refine aL 1 (by simp [go_sem] <;> rfl) ?_
   refine al_nil ?_
   refine awp_ret ?_
   refine then_ret ?_
   refine ends_ret (by simp [go_sem] <;> rfl) (by simp [go_sem]) ?_
   exact ⟨by simp only [liftF, h0, h1, bA, bB, bC, bD, bE, bF, bG, bH, bI, bJ, Bool.false_eq_true, if_true, if_false]; simp [go_sem], by simp [go_sem]⟩
  ·refine aLG 1 10 false (by simp [go_sem] <;> rfl) ?_
   refine al_fnG 10 false false (by simp [go_sem]) rfl (by simp [go_sem]) rfl rfl (by simp [go_sem] <;> rfl) call58 ((c_Is d sFn (fun h => (hd.1 h).1)) _ (by exact hgl)) (by simp [go_sem] <;> rfl) (by simp [go_sem, eFn]) rfl rfl ?_
   refine aL 1 (by simp [go_sem] <;> rfl) ?_
   refine al_nil ?_
   refine awp_cond (by first | rfl | (simp [go_sem] <;> rfl)) (fun h2 => ?_) (fun h2 => ?_)
   ·refine awp_seq ?_
    refine awp_regDC tyOk tySz 2 (by kernel_rfl) (by decide) ?_
    refine ul_fn (by first | (intro _ _ hh; exact hh) | simp [go_sem]) rfl rfl rfl rfl (by simp [go_sem] <;> rfl) call60 ((c_flat_Sym sLift) _ (by exact hgl)) (by simp [go_sem] <;> rfl) (by simp [go_sem, eLift]) rfl rfl ?_
    refine ul_run 1 (by simp [go_sem] <;> rfl) ?_
    refine ul_nil ?_
    refine aL 1 (by simp [go_sem] <;> rfl) ?_
    refine aF call59 ((c_flat_List [dsym sLift, d]) _ (by exact hgl)) (by simp [go_sem] <;> rfl) (by simp [go_sem]) ?_
    refine aL 1 (by simp [go_sem] <;> rfl) ?_
    refine al_nil ?_
    refine awp_ret ?_
    refine then_ret ?_
    refine ends_ret (by simp [go_sem] <;> rfl) (by simp [go_sem]) ?_
    exact ⟨by simp only [liftF, h0, h1, h2, bA, bB, bC, bD, bE, bF, bG, bH, bI, bJ, Bool.false_eq_true, if_true, if_false]; simp [go_sem], by simp [go_sem]⟩
   ·refine awp_skip ?_
    refine awp_seq (aR (by simp [go_sem] <;> rfl) ?_)
    refine awp_ret ?_
    refine ends_ret (by simp [go_sem] <;> rfl) (by simp [go_sem]) ?_
    exact ⟨by simp only [liftF, h0, h1, h2, bA, bB, bC, bD, bE, bF, bG, bH, bI, bJ, Bool.false_eq_true, if_true, if_false]; simp [go_sem], by simp [go_sem]⟩

set_option maxHeartbeats 1000000 in
theorem c_mLifted (d : D) (hd : d.size ≤ 100000000) : Pur Tryz.prog (GL kr) 16 [.pv (enc d)] (.tuple [.pv (enc (mlifted d).1), .pv (.int .i64 (mlifted d).2)]) := by
 refine pur_of fun σ hgl => ?_
 refine acalls_of tyOk Tryz.func16 rfl (by simp [Tryz.f16]) ?_
 refine awp_seq (aR (by simp [go_sem] <;> rfl) ?_)
 refine awp_seq (awp_seq (awp_reg ?_))
 refine aL 1 (by simp [go_sem] <;> rfl) ?_
 refine aF call21 ((c_mCheck d (by omega)) _ (by exact hgl)) (by simp [go_sem] <;> rfl) (by simp [go_sem]) ?_
 refine aL 1 (by simp [go_sem] <;> rfl) ?_
 refine al_nil ?_
 refine awp_seq (aR (by simp [go_sem] <;> rfl) ?_)
 refine awp_cond (by first | rfl | (simp [go_sem] <;> rfl)) (fun h0 => ?_) (fun h0 => ?_)
 ·refine awp_seq ?_
  refine aR (by simp [go_sem] <;> rfl) ?_
  refine awp_ret ?_
  refine then_ret ?_
  have hM : mlifted d = (dnone, mcheck d) := by unfold mlifted; rw [if_pos h0]
  refine ends_ret (by simp [go_sem] <;> rfl) (by simp [go_sem]) ?_
  exact ⟨by simp [go_sem, hM, enc_none], by simp [go_sem, setS_new]⟩
 ·have hz : mcheck d = 0 := by simpa using h0
  have hg := mcheck_good hz
  refine awp_skip ?_
  refine awp_seq (awp_seq (awp_reg ?_))
  refine aL 1 (by simp [go_sem] <;> rfl) ?_
  refine aF call54 ((c_one d hg (by omega)) _ (by exact hgl)) (by simp [go_sem] <;> rfl) (by simp [go_sem]) ?_
  refine aL 1 (by simp [go_sem] <;> rfl) ?_
  refine al_nil ?_
  refine awp_cond (by first | rfl | (simp [go_sem] <;> rfl)) (fun h1 => ?_) (fun h1 => ?_)
  ·refine awp_seq ?_
   refine aR (by simp [go_sem] <;> rfl) ?_
   refine awp_ret ?_
   refine then_ret ?_
   have hM : mlifted d = (dnone, 13) := by unfold mlifted; rw [if_neg (by rw [h0]; decide), if_pos h1]
   refine ends_ret (by simp [go_sem] <;> rfl) (by simp [go_sem]) ?_
   exact ⟨by simp [go_sem, hM, enc_none], by simp [go_sem, setS_new]⟩
  ·refine awp_skip ?_
   refine awp_seq (awp_reg ?_)
   refine aL 1 (by simp [go_sem] <;> rfl) ?_
   refine aF call56 (c_mapped d hg (by omega) 57 call57 liftF σ hgl (fun x τ hτ hx => c_Lifted_1 x hx τ hτ)) (by simp [go_sem] <;> rfl) (by simp [go_sem]) ?_
   refine aF call55 ((c_flat_Own (mmap liftF d) (by have := mlifted_size hg; omega)) _ (by exact hgl)) (by simp [go_sem] <;> rfl) (by simp [go_sem]) ?_
   refine aL 2 (by simp [go_sem] <;> rfl) ?_
   refine al_nil ?_
   refine awp_seq (awp_seq (awp_reg ?_))
   refine aL 1 (by simp [go_sem] <;> rfl) ?_
   refine aF call61 ((c_datum_Check (mmap liftF d) (by have := mlifted_size hg; omega)) _ (by exact hgl)) (by simp [go_sem] <;> rfl) (by simp [go_sem]) ?_
   refine aL 1 (by simp [go_sem] <;> rfl) ?_
   refine al_nil ?_
   refine awp_cond (by first | rfl | (simp [go_sem] <;> rfl)) (fun h2 => ?_) (fun h2 => ?_)
   ·refine awp_seq ?_
    refine aR (by simp [go_sem] <;> rfl) ?_
    refine awp_ret ?_
    refine then_ret ?_
    have hM : mlifted d = (dnone, 3) := by unfold mlifted; rw [if_neg (by rw [h0]; decide), if_neg (by rw [h1]; decide), if_pos h2]
    refine ends_ret (by simp [go_sem] <;> rfl) (by simp [go_sem]) ?_
    exact ⟨by simp [go_sem, hM, enc_none], by simp [go_sem, setS_new]⟩
   ·refine awp_skip ?_
    refine awp_seq (aR (by simp [go_sem] <;> rfl) ?_)
    refine awp_ret ?_
    have hM : mlifted d = (mmap liftF d, 0) := by unfold mlifted; rw [if_neg (by rw [h0]; decide), if_neg (by rw [h1]; decide), if_neg (by rw [h2]; decide)]
    refine ends_ret (by simp [go_sem] <;> rfl) (by simp [go_sem]) ?_
    exact ⟨by simp [go_sem, hM, enc_none], by simp [go_sem, setS_new]⟩

end Go.Proofs.YtmpofjiokpeegaaGreatDoor

/- The specification: data, names, primitives. -/
namespace Go.Proofs.YtmpofjiokpeegaaGreatDoor
open Go Go.Aw
variable {kr : KR}
set_option maxHeartbeats 1000000 in
theorem c_cut (d : D) : ∀ (oc lf : Nat) (dp : Int) (σ : Store), σ.gl = (GL kr) → σ.objs[oc]? = some (.box [.pv (.int .i64 lf)]) → 0 < lf → lf ≤ 3000 → 1 ≤ dp → dp ≤ 2000 → ACalls Tryz.prog 96 [.ptr oc 0, .pv (enc d), .pv (.int .i64 dp)] σ (CutR oc lf σ) := by
 induction d using D.ind with
 | _ kind num text kids ih =>
 generalize hD : D.mk kind num text kids = d at *
 have hk : d.kids = kids := by rw [← hD]; rfl
 clear hD
 subst hk
 intro oc lf dp σ hgl hoc hlf0 hlf hdp hdp2
 have hol := (List.getElem?_eq_some_iff.1 hoc).1
 obtain ⟨tx, htx⟩ : ∃ tx : ByteArray, tx = d.text.extract 0 (if (42 : Int) < d.text.size then (42 : Int) else d.text.size).toNat := ⟨_, rfl⟩
 have hm1 : (0 : Int) ≤ (if (42 : Int) < d.text.size then (42 : Int) else d.text.size) := by split <;> omega
 have hm2 : (if (42 : Int) < d.text.size then (42 : Int) else d.text.size) ≤ d.text.size := by split <;> omega
 have hw1 : IntKind.i64.wrap ((lf : Int) - 1) = ((lf - 1 : Nat) : Int) := by rw [wrap_id (by omega) (by omega)]; omega
 refine cut_less (k := d.kind) (n := d.num) (tx := tx) ?_
 refine acalls_of tyOk Tryz.func96 rfl (by simp [Tryz.f96]) ?_
 refine awp_seq (aR (by simp [go_sem, hoc, hm1, hm2, hw1] <;> rfl) ?_)
 refine awp_seq (aR (by simp [go_sem, hoc, hm1, hm2, hw1] <;> rfl) ?_)
 refine awp_seq (awp_regDP tyOk tySz 13 (by kernel_rfl) (by decide) ?_)
 refine ul_run 13 (by simp [go_sem, hoc, hm1, hm2, hw1] <;> rfl) ?_
 refine ul_nil ?_
 refine aL 1 (by simp [go_sem, hoc, hm1, hm2, hw1] <;> rfl) ?_
 refine al_nil ?_
 refine awp_seq (awp_seq (aR (by simp [go_sem, hoc, hm1, hm2, hw1] <;> rfl) ?_))
 refine awp_adoptL' 2 3 24 4 (by simp [go_sem] <;> rfl) ?_
 refine awp_block ?_
 refine awp_loop_headKL σ.objs.length (σ.toks.length + 1) 3 [0, 2, 4, 6, 7] (fun i : List D × Nat => [(8, .pv (.int .i64 ↑i.1.length))]) (fun i : List D × Nat => [[.pv (.int .i64 d.kind), .pv (.int .i64 d.num), .pv (.str d.text), .pv (.slice (d.kids.map enc))], [.pv (.int .i64 0), .pv (.int .i64 0), .pv (.str ⟨#[]⟩), .pv .nils], [.pv (.int .i64 d.kind), .pv (.int .i64 d.num), .pv (.str tx), .acc (i.1.map enc) σ.toks.length]]) (fun i => { setC σ oc (i.2 : Int) with toks := σ.toks ++ [⟨i.1.length, 24, 4⟩] }) (fun i => D.sizes i.1 + i.2 + 1 ≤ lf ∧ i.1.length ≤ d.kids.length) (fun i => d.kids.length - i.1.length) ([], lf - 1) (⟨by simp [D.sizes]; omega, Nat.zero_le _⟩) ⟨by show ({ setC σ oc _ with toks := _ } : Store) = _; simp [setC, go_sem, List.take_of_length_le], by simp [go_sem, hoc, hm1, hm2, hw1, htx, hol], by simp, by simp, by simp [go_sem, hoc, hm1, hm2, hw1, htx, hol], fun ob h => setC_mem h _ _ _, by simp [go_sem]⟩ ?_
 rintro i ⟨hsz, hil⟩
 have hgc := setC_get (v := (i.2 : Int)) hoc
 have hll := D.length_le_sizes i.1
 refine awp_seq (awp_seq (awp_reg ?_))
 refine aL 6 (by simp [go_sem, hoc, hm1, hm2, hw1, hgc] <;> rfl) ?_
 refine al_splitT 33 (by first | rfl | (simp [go_sem, hoc, hm1, hm2, hw1, hgc] <;> rfl)) (fun h0 => ?_) (fun h0 => ?_)
 ·refine aLG 2 33 true (by simp [go_sem, hoc, hm1, hm2, hw1, hgc] <;> rfl) ?_
  refine aL 2 (by simp [go_sem, hoc, hm1, hm2, hw1, hgc] <;> rfl) ?_
  refine al_splitT 37 (by first | rfl | (simp [go_sem, hoc, hm1, hm2, hw1, hgc] <;> rfl)) (fun h1 => ?_) (fun h1 => ?_)
  ·refine aLG 5 37 true (by simp [go_sem, hoc, hm1, hm2, hw1, hgc] <;> rfl) ?_
   refine aL 1 (by simp [go_sem, hoc, hm1, hm2, hw1, hgc] <;> rfl) ?_
   refine al_nil ?_
   refine awp_cond (by first | rfl | (simp [go_sem, hoc, hm1, hm2, hw1, hgc] <;> rfl)) (fun h2 => ?_) (fun h2 => ?_)
   ·have hlt : i.1.length < d.kids.length := by simpa using h0
    have hlv : 0 < i.2 := by have := h2; simp at this; omega
    have hd1 : (1 : Int) < dp := by have := h1; simp at this; omega
    obtain ⟨x, hx, hxm⟩ := get_lt hlt
    have hwd : IntKind.i64.wrap (dp - 1) = dp - 1 := wrap_id (by omega) (by omega)
    have hbb : (i.1.length + 1) * 56 ≤ 140737488355328 := by omega
    have hw : IntKind.i64.wrap ((i.1.length : Int) + 1) = (i.1.length : Int) + 1 := wrap_succ (by omega)
    refine awp_skip ?_
    refine awp_seq (awp_block ?_)
    refine awp_regDC tyOk tySz 12 (by kernel_rfl) (by decide) ?_
    refine ul_run 10 (by simp [go_sem, hoc, hm1, hm2, hw1, hgc, hx, hwd, hbb, setC_with, setC_toks] <;> rfl) ?_
    refine ul_callW (by simp [go_sem]) rfl rfl rfl rfl (by simp [go_sem, hoc, hm1, hm2, hw1, hgc, hx, hwd, hbb, setC_with, setC_toks] <;> rfl) call96 (ih x hxm oc i.2 (dp - 1) _ (by exact hgl) (setC_get hoc) hlv (by omega) (by omega) (by omega)) (by simp [go_sem, hoc, hm1, hm2, hw1, hgc, hx, hwd, hbb, setC_with, setC_toks] <;> rfl) (by simp [go_sem, hoc, hm1, hm2, hw1, hgc, hx, hwd, hbb, setC_with, setC_toks]) rfl rfl (cutR_some hlv) ?_
    rintro r σ' ⟨d', lv', rfl, rfl, hsz'⟩
    refine ul_run 1 (by simp [go_sem, hoc, hm1, hm2, hw1, hgc, hx, hwd, hbb, setC_with, setC_toks] <;> rfl) ?_
    refine ul_nil ?_
    refine aL 3 (by simp [go_sem, hoc, hm1, hm2, hw1, hgc, hx, hwd, hbb, setC_with, setC_toks] <;> rfl) ?_
    refine al_nil ?_
    refine aR (by simp [go_sem, hoc, hm1, hm2, hw1, hgc, hx, hwd, hbb, setC_with, setC_toks] <;> rfl) ?_
    exact next_intro ((i.1 ++ [d'], lv')) σ.objs.length (σ.toks.length + 1) 3 (⟨by simp [sizes_append, D.sizes]; omega, by simp; omega⟩) (by simp; omega) ⟨by show ({ setC σ oc _ with toks := _ } : Store) = _; simp [setC, go_sem, List.take_of_length_le], by simp [go_sem, hoc, hm1, hm2, hw1, hgc, hx, hwd, hbb, setC_with, setC_toks, hw, hol], by simp, by simp, by simp [go_sem, hoc, hm1, hm2, hw1, hgc, hx, hwd, hbb, setC_with, setC_toks, hw, hol], fun ob h => setC_mem h _ _ _, by simp [go_sem]⟩
   ·refine awp_exit ?_
    refine then_exit ?_
    refine then_exit ?_
    refine inBlock_hit ?_
    refine awp_seq (aR (by simp [go_sem, hoc, hm1, hm2, hw1, hgc] <;> rfl) ?_)
    refine awp_ret ?_
    refine ends_ret (by simp [go_sem] <;> rfl) (by simp [go_sem]) ?_
    exact ⟨i.1, i.2, by simp [go_sem, enc_mk], by simp [setC, go_sem, List.take_of_length_le], by omega⟩
  ·refine aK 5 37 true ?_
   refine aL 1 (by simp [go_sem, hoc, hm1, hm2, hw1, hgc] <;> rfl) ?_
   refine al_nil ?_
   refine awp_cond (b := false) (by simp [go_sem, hoc, hm1, hm2, hw1, hgc, h0, h1]) (fun h => ?_) (fun h => ?_)
   ·cases h
   refine awp_exit ?_
   refine then_exit ?_
   refine then_exit ?_
   refine inBlock_hit ?_
   refine awp_seq (aR (by simp [go_sem, hoc, hm1, hm2, hw1, hgc] <;> rfl) ?_)
   refine awp_ret ?_
   refine ends_ret (by simp [go_sem] <;> rfl) (by simp [go_sem]) ?_
   exact ⟨i.1, i.2, by simp [go_sem, enc_mk], by simp [setC, go_sem, List.take_of_length_le], by omega⟩
 ·refine aK 2 33 true ?_
  refine aL 2 (by simp [go_sem, hoc, hm1, hm2, hw1, hgc] <;> rfl) ?_
  refine aK 5 37 true ?_
  refine aL 1 (by simp [go_sem, hoc, hm1, hm2, hw1, hgc] <;> rfl) ?_
  refine al_nil ?_
  refine awp_cond (b := false) (by simp [go_sem, hoc, hm1, hm2, hw1, hgc, h0]) (fun h => ?_) (fun h => ?_)
  ·cases h
  refine awp_exit ?_
  refine then_exit ?_
  refine then_exit ?_
  refine inBlock_hit ?_
  refine awp_seq (aR (by simp [go_sem, hoc, hm1, hm2, hw1, hgc] <;> rfl) ?_)
  refine awp_ret ?_
  refine ends_ret (by simp [go_sem] <;> rfl) (by simp [go_sem]) ?_
  exact ⟨i.1, i.2, by simp [go_sem, enc_mk], by simp [setC, go_sem, List.take_of_length_le], by omega⟩

set_option maxHeartbeats 1000000 in
theorem c_Same (d : D) (hd : d.size ≤ 1000000000) : ∀ e : D, Pur Tryz.prog (GL kr) 35 [.pv (enc d), .pv (enc e)] (.pv (.bool (deq d e))) := by
 induction d using D.ind with
 | _ kind num text kids ih =>
 generalize hD : D.mk kind num text kids = d at *
 have hk : d.kids = kids := by rw [← hD]; rfl
 clear hD
 subst hk
 have hkl := D.kids_length_lt d
 intro e
 refine pur_of fun σ hgl => ?_
 refine acalls_of tyOk Tryz.func35 rfl (by simp [Tryz.f35]) ?_
 refine awp_seq (aR (by simp [go_sem] <;> rfl) ?_)
 refine awp_seq (awp_seq (awp_reg ?_))
 refine aL 6 (by simp [go_sem] <;> rfl) ?_
 refine al_splitT 11 (by first | rfl | (simp [go_sem] <;> rfl)) (fun h0 => ?_) (fun h0 => ?_)
 ·refine aK 5 11 false ?_
  refine aL 2 (by simp [go_sem] <;> rfl) ?_
  refine aK 5 18 false ?_
  refine aL 2 (by simp [go_sem] <;> rfl) ?_
  refine aK 7 25 false ?_
  refine aL 1 (by simp [go_sem] <;> rfl) ?_
  refine al_nil ?_
  refine awp_cond (b := true) (by simp [go_sem, h0]) (fun h => ?_) (fun h => ?_)
  rotate_left
  ·cases h
  refine awp_seq (aR (by simp [go_sem] <;> rfl) ?_)
  refine awp_ret ?_
  refine then_ret ?_
  refine ends_ret (by simp [go_sem] <;> rfl) (by simp [go_sem]) ?_
  have hs : deq d e = false := by
    cases hq : deq d e with
    | false => rfl
    | true => have := deq_of hq; subst this; simp at h0
  exact ⟨by simp [go_sem, hs], by simp [go_sem]⟩
 ·refine aLG 5 11 false (by simp [go_sem] <;> rfl) ?_
  refine aL 2 (by simp [go_sem] <;> rfl) ?_
  refine al_splitT 18 (by first | rfl | (simp [go_sem] <;> rfl)) (fun h1 => ?_) (fun h1 => ?_)
  ·refine aK 5 18 false ?_
   refine aL 2 (by simp [go_sem] <;> rfl) ?_
   refine aK 7 25 false ?_
   refine aL 1 (by simp [go_sem] <;> rfl) ?_
   refine al_nil ?_
   refine awp_cond (b := true) (by simp [go_sem, h0, h1]) (fun h => ?_) (fun h => ?_)
   rotate_left
   ·cases h
   refine awp_seq (aR (by simp [go_sem] <;> rfl) ?_)
   refine awp_ret ?_
   refine then_ret ?_
   refine ends_ret (by simp [go_sem] <;> rfl) (by simp [go_sem]) ?_
   have hs : deq d e = false := by
     cases hq : deq d e with
     | false => rfl
     | true => have := deq_of hq; subst this; simp at h1
   exact ⟨by simp [go_sem, hs], by simp [go_sem]⟩
  ·refine aLG 5 18 false (by simp [go_sem] <;> rfl) ?_
   refine aL 2 (by simp [go_sem] <;> rfl) ?_
   refine al_splitT 25 (by first | rfl | (simp [go_sem] <;> rfl)) (fun h2 => ?_) (fun h2 => ?_)
   ·refine aK 7 25 false ?_
    refine aL 1 (by simp [go_sem] <;> rfl) ?_
    refine al_nil ?_
    refine awp_cond (b := true) (by simp [go_sem, h0, h1, h2]) (fun h => ?_) (fun h => ?_)
    rotate_left
    ·cases h
    refine awp_seq (aR (by simp [go_sem] <;> rfl) ?_)
    refine awp_ret ?_
    refine then_ret ?_
    refine ends_ret (by simp [go_sem] <;> rfl) (by simp [go_sem]) ?_
    have hs : deq d e = false := by
      cases hq : deq d e with
      | false => rfl
      | true => have := deq_of hq; subst this; simp at h2
    exact ⟨by simp [go_sem, hs], by simp [go_sem]⟩
   ·refine aLG 7 25 false (by simp [go_sem] <;> rfl) ?_
    refine aL 1 (by simp [go_sem] <;> rfl) ?_
    refine al_nil ?_
    refine awp_cond (by first | rfl | (simp [go_sem] <;> rfl)) (fun h3 => ?_) (fun h3 => ?_)
    ·refine awp_seq ?_
     refine aR (by simp [go_sem] <;> rfl) ?_
     refine awp_ret ?_
     refine then_ret ?_
     refine ends_ret (by simp [go_sem] <;> rfl) (by simp [go_sem]) ?_
     have hs : deq d e = false := by
       cases hq : deq d e with
       | false => rfl
       | true => have := deq_of hq; subst this; simp at h3
     exact ⟨by simp [go_sem, hs], by simp [go_sem]⟩
    ·have hlen : d.kids.length = e.kids.length := by have := h3; simp only [bne_eq_false_iff_eq] at this; omega
     have hzl : (d.kids.zip e.kids).length = d.kids.length := by simp; omega
     refine awp_skip ?_
     refine awp_seq (awp_seq (aR (by simp [go_sem] <;> rfl) ?_))
     refine awp_block ?_
     refine awp_loop_headK σ.objs.length σ.toks.length 2 [2, 3, 4] (fun k : Nat => [(5, .pv (.int .i64 ↑k))]) (fun k => σ) (fun k => k ≤ d.kids.length ∧ NotYet (fun x => !deq x.1 x.2) (d.kids.zip e.kids) k) (fun k => d.kids.length - k) 0 (⟨Nat.zero_le _, .zero⟩) ⟨by simp [go_sem], rfl, by simp, by simp, by simp [go_sem], fun ob h => .inl (by simpa [go_sem] using h), by simp [go_sem]⟩ ?_
     rintro k ⟨hk, hn⟩
     refine awp_seq (awp_seq (aR (by simp [go_sem] <;> rfl) ?_))
     refine awp_cond (by first | rfl | (simp [go_sem] <;> rfl)) (fun h4 => ?_) (fun h4 => ?_)
     ·have hlt : k < d.kids.length := by simp at h4; omega
      have hw : IntKind.i64.wrap (↑k + 1) = (k : Int) + 1 := wrap_succ (by omega)
      obtain ⟨x, hx, hxm⟩ := get_lt hlt
      obtain ⟨y, hy, hym⟩ := get_lt (l := e.kids) (k := k) (by omega)
      refine awp_skip ?_
      refine awp_seq (awp_block ?_)
      refine awp_seq (awp_regDP tyOk tySz 10 (by kernel_rfl) (by decide) ?_)
      refine ul_run 10 (by simp [go_sem, hx, hy] <;> rfl) ?_
      refine ul_nil ?_
      refine aF call35 ((ih x hxm (by have := D.size_kid_lt hxm; omega) y) _ (by exact hgl)) (by simp [go_sem, hx, hy] <;> rfl) (by simp [go_sem, hx, hy]) ?_
      refine aL 1 (by simp [go_sem, hx, hy] <;> rfl) ?_
      refine al_nil ?_
      refine awp_cond (by first | rfl | (simp [go_sem, hx, hy] <;> rfl)) (fun h5 => ?_) (fun h5 => ?_)
      ·refine awp_seq ?_
       refine aR (by simp [go_sem, hx, hy] <;> rfl) ?_
       refine awp_ret ?_
       refine inBlock_ret ?_
       refine then_ret ?_
       refine then_ret ?_
       refine inBlock_ret ?_
       refine then_ret ?_
       refine ends_ret (by simp [go_sem] <;> rfl) (by simp [go_sem]) ?_
       have hall : (d.kids.zip e.kids).all (fun x => deq x.1 x.2) = false := by rw [List.all_eq_false]; exact ⟨(x, y), List.mem_of_getElem? (zip_get hx hy), by simpa using h5⟩
       have hs : deq d e = false := by rw [deq_eq]; unfold eqf; rw [hall]; simp
       exact ⟨by simp [go_sem, hs], by simp [go_sem]⟩
      ·refine awp_skip ?_
       refine aR (by simp [go_sem, hx, hy] <;> rfl) ?_
       exact next_intro (k + 1) σ.objs.length σ.toks.length 2 (⟨hlt, hn.succ (zip_get hx hy) (by simpa using h5)⟩) (by omega) ⟨by simp [go_sem, hx, hy, hw], rfl, by simp, by simp, by simp [go_sem, hx, hy, hw], fun ob h => .inl (by simpa [go_sem, hx, hy, hw] using h), by simp [go_sem]⟩
     ·have hke : k = d.kids.length := by simp at h4; omega
      subst hke
      have hall : (d.kids.zip e.kids).all (fun x => deq x.1 x.2) = true := by have := (hzl ▸ hn : NotYet _ (d.kids.zip e.kids) (d.kids.zip e.kids).length).all; rw [List.all_eq_true]; intro z hz; simpa using this z hz
      refine awp_exit ?_
      refine then_exit ?_
      refine then_exit ?_
      refine inBlock_hit ?_
      refine awp_seq (aR (by simp [go_sem] <;> rfl) ?_)
      refine awp_ret ?_
      refine ends_ret (by simp [go_sem] <;> rfl) (by simp [go_sem]) ?_
      have hs : deq d e = true := by
        have e0 : d.kind = e.kind := by simpa using h0
        have e1 : d.num = e.num := by simpa using h1
        have e2 : d.text = e.text := by simpa using h2
        rw [deq_eq]; unfold eqf; rw [hall]; simp [e0, e1, e2, hlen]
      exact ⟨by simp [go_sem, hs], by simp [go_sem]⟩

set_option maxHeartbeats 1000000 in
theorem c_Cut (d : D) (σ : Store) (hgl : σ.gl = (GL kr)) : ACalls Tryz.prog 46 [.pv (enc d), .pv (.int .i64 2000), .pv (.int .i64 1005)] σ (fun r σ' => ∃ d' : D, r = .pv (enc d') ∧ σ' = σ ∧ d'.size ≤ 2000) := by
 refine ACalls.less (R := fun r σ' => ∃ d' : D, WVt σ.objs.length σ.toks.length 0 r (.pv (enc d')) ∧ σ'.cut σ.objs.length σ.toks.length = σ ∧ d'.size ≤ 2000) ?_ (fun r σ' ⟨d', h1, h2, h3⟩ => ⟨_, _, _, h1, Nat.le_refl _, Nat.le_refl _, fun ob hob => .inl (by rw [← h2]; exact hob), ⟨d', rfl, h2, h3⟩⟩)
 refine acalls_of tyOk Tryz.func46 rfl (by simp [Tryz.f46]) ?_
 refine awp_seq (aR (by simp [go_sem] <;> rfl) ?_)
 refine awp_seq (awp_region_run (sh := [10]) tyOk (by simp [go_sem] <;> rfl) ?_)
 refine awp_seq (awp_reg ?_)
 refine aL 3 (by simp [go_sem] <;> rfl) ?_
 refine al_callW rfl rfl rfl (by simp [go_sem] <;> rfl) call96 (c_cut d σ.objs.length 2000 1005 _ (by exact hgl) (by simp [go_sem]) (by decide) (by decide) (by decide) (by decide)) (by simp [go_sem] <;> rfl) (by simp [go_sem]) rfl rfl ?_
 rintro r σ' ⟨d', lv', rfl, rfl, hsz'⟩
 refine aL 1 (by simp [go_sem] <;> rfl) ?_
 refine al_nil ?_
 refine awp_ret ?_
 refine ends_ret (by simp [go_sem] <;> rfl) (by simp [go_sem]) ?_
 exact ⟨d', by simp [go_sem], by simp [setC, go_sem], by omega⟩

set_option maxHeartbeats 1000000 in
theorem c_Cut25 (d : D) (σ : Store) (hgl : σ.gl = (GL kr)) : ACalls Tryz.prog 17 [.pv (enc d)] σ (fun r σ' => ∃ d' : D, r = .pv (enc d') ∧ σ' = σ ∧ d'.size ≤ 2000) := by
 refine ACalls.less (R := fun r σ' => ∃ d' : D, WVt σ.objs.length σ.toks.length 0 r (.pv (enc d')) ∧ σ'.cut σ.objs.length σ.toks.length = σ ∧ d'.size ≤ 2000) ?_ (fun r σ' ⟨d', h1, h2, h3⟩ => ⟨_, _, _, h1, Nat.le_refl _, Nat.le_refl _, fun ob hob => .inl (by rw [← h2]; exact hob), ⟨d', rfl, h2, h3⟩⟩)
 refine acalls_of tyOk Tryz.func17 rfl (by simp [Tryz.f17]) ?_
 refine awp_seq (aR (by simp [go_sem] <;> rfl) ?_)
 refine awp_seq (awp_reg ?_)
 refine aL 1 (by simp [go_sem] <;> rfl) ?_
 refine al_callW rfl rfl rfl (by simp [go_sem] <;> rfl) call46 (c_Cut d σ hgl) (by simp [go_sem] <;> rfl) (by simp [go_sem]) rfl rfl ?_
 rintro r σ' ⟨d', rfl, rfl, hsz'⟩
 refine aL 1 (by simp [go_sem] <;> rfl) ?_
 refine al_nil ?_
 refine awp_ret ?_
 refine ends_ret (by simp [go_sem] <;> rfl) (by simp [go_sem]) ?_
 exact ⟨d', by simp [go_sem], by simp [go_sem], hsz'⟩

end Go.Proofs.YtmpofjiokpeegaaGreatDoor

/- The specification: terms, Check, Free, All, Count. -/
namespace Go.Proofs.YtmpofjiokpeegaaGreatDoor
open Go Go.Aw
variable {kr : KR}
end Go.Proofs.YtmpofjiokpeegaaGreatDoor

/- The specification: Free, All, Count. -/
namespace Go.Proofs.YtmpofjiokpeegaaGreatDoor
open Go Go.Aw
variable {kr : KR}
end Go.Proofs.YtmpofjiokpeegaaGreatDoor

/- The table for runs that are told whole; the examples, read. -/
namespace Go.Proofs.YtmpofjiokpeegaaGreatDoor
open Go Go.Aw
variable {kr : KR}
def dm : FuncId → Nat → Nat × List Nat × Bool
  | 141, 10 => (11, [], true)
  | 142, 5 => (9, [], false)
  | 188, 0 => (9, [], true)
  | 188, 1 => (8, [], true)
  | 188, 8 => (19, [], true)
  | 189, 3 => (9, [], true)
  | 189, 5 => (14, [], true)
  | 189, 16 => (9, [], false)
  | 189, 18 => (25, [], true)
  | 189, 19 => (7, [], false)
  | 212, 2 => (19, [], true)
  | 212, 4 => (9, [], true)
  | _, _ => (0, [], false)
def shT : FuncId → List Tmp
  | 141 => [13]
  | _ => []
def caL : List Nat := [68, 103, 139, 141, 142, 185, 186, 188, 189, 190, 212, 223]
theorem caOk : ∀ f, caL.contains f = true → Callable Tryz.prog f := by
  intro f h
  simp only [caL, List.contains_eq_mem, List.mem_cons, List.not_mem_nil, or_false, decide_eq_true_eq] at h
  rcases h with rfl | rfl | rfl | rfl | rfl | rfl | rfl | rfl | rfl | rfl | rfl | rfl
  · exact call68
  · exact call103
  · exact call139
  · exact call141
  · exact call142
  · exact call185
  · exact call186
  · exact call188
  · exact call189
  · exact call190
  · exact call212
  · exact call223
def orcT (f : FuncId) (args : List AV) : Option AV := match Nat.beq f 186, args with
  | true, [.pv (.int .u8 c)] => some (.pv (.bool (letter c)))
  | _, _ => none
theorem orcOk : ∀ f args r, orcT f args = some r → Pur Tryz.prog (GL kr) f args r := by
  intro f args r h
  unfold orcT at h
  split at h
  · rename_i c hf
    have := Nat.eq_of_beq_eq_true hf
    subst this
    cases h
    exact c_pagodaref01_Letter c
  · cases h
noncomputable def cfg : Cfg := ⟨Tryz.prog, ty, shT, dm, caL.contains, orcT⟩
theorem cfgOk : CfgOk cfg (GL kr) := ⟨tyOk, tySz, caOk, orcOk⟩
def ex1 : D := dlist [dsym ⟨#[102, 110]⟩, dsym ⟨#[102]⟩, dsym ⟨#[97]⟩, dlist [dsym ⟨#[108, 101, 116]⟩, dsym ⟨#[98]⟩, dlist [dsym ⟨#[43]⟩, dsym ⟨#[97]⟩, dnum 1], dlist [dsym ⟨#[97, 112, 112]⟩, dsym ⟨#[102]⟩, dsym ⟨#[98]⟩]]]
theorem c_read1 : PurAt Tryz.prog ⟨(GL kr), [], []⟩ 68 [.pv (.str ⟨#[40, 102, 110, 32, 102, 32, 97, 32, 40, 108, 101, 116, 32, 98, 32, 40, 43, 32, 97, 32, 49, 41, 32, 40, 97, 112, 112, 32, 102, 32, 98, 41, 41, 41]⟩)] (.pv (enc ex1)) := purAt_eval (n := 100000) cfgOk (by kernel_rfl)
def ex2 : D := dlist [dsym ⟨#[43]⟩, dnum 1, dnum 2]
theorem c_read2 : PurAt Tryz.prog ⟨(GL kr), [], []⟩ 68 [.pv (.str ⟨#[40, 43, 32, 49, 32, 50, 41]⟩)] (.pv (enc ex2)) := purAt_eval (n := 100000) cfgOk (by kernel_rfl)
def ex3 : D := dlist [dsym ⟨#[97, 112, 112]⟩, dlist [dsym ⟨#[102, 110]⟩, dsym ⟨#[102]⟩, dsym ⟨#[120]⟩, dsym ⟨#[120]⟩], dnum 1]
theorem c_read3 : PurAt Tryz.prog ⟨(GL kr), [], []⟩ 68 [.pv (.str ⟨#[40, 97, 112, 112, 32, 40, 102, 110, 32, 102, 32, 120, 32, 120, 41, 32, 49, 41]⟩)] (.pv (enc ex3)) := purAt_eval (n := 100000) cfgOk (by kernel_rfl)
def ex4 : D := dlist [dsym ⟨#[102, 110]⟩, dsym ⟨#[120, 46, 48]⟩, dsym ⟨#[120, 46, 49]⟩, dlist [dsym ⟨#[108, 101, 116]⟩, dsym ⟨#[120, 46, 50]⟩, dlist [dsym ⟨#[43]⟩, dsym ⟨#[120, 46, 49]⟩, dnum 1], dlist [dsym ⟨#[97, 112, 112]⟩, dsym ⟨#[120, 46, 48]⟩, dsym ⟨#[120, 46, 50]⟩]]]
theorem c_read4 : PurAt Tryz.prog ⟨(GL kr), [], []⟩ 68 [.pv (.str ⟨#[40, 102, 110, 32, 120, 46, 48, 32, 120, 46, 49, 32, 40, 108, 101, 116, 32, 120, 46, 50, 32, 40, 43, 32, 120, 46, 49, 32, 49, 41, 32, 40, 97, 112, 112, 32, 120, 46, 48, 32, 120, 46, 50, 41, 41, 41]⟩)] (.pv (enc ex4)) := purAt_eval (n := 100000) cfgOk (by kernel_rfl)
def ex5 : D := dlist [dsym ⟨#[43]⟩, dlist [dsym ⟨#[108, 105, 102, 116]⟩, dnum 1], dlist [dsym ⟨#[108, 105, 102, 116]⟩, dnum 2]]
theorem c_read5 : PurAt Tryz.prog ⟨(GL kr), [], []⟩ 68 [.pv (.str ⟨#[40, 43, 32, 40, 108, 105, 102, 116, 32, 49, 41, 32, 40, 108, 105, 102, 116, 32, 50, 41, 41]⟩)] (.pv (enc ex5)) := purAt_eval (n := 100000) cfgOk (by kernel_rfl)
def ex6 : D := dlist [dsym ⟨#[97, 112, 112]⟩, dnum 1]
theorem c_read6 : PurAt Tryz.prog ⟨(GL kr), [], []⟩ 68 [.pv (.str ⟨#[40, 97, 112, 112, 32, 49, 41]⟩)] (.pv (enc ex6)) := purAt_eval (n := 100000) cfgOk (by kernel_rfl)
theorem ex_plain : mplain ex1 = (ex4, 0) := by kernel_rfl
theorem ex_lifted : mlifted ex2 = (ex5, 0) := by kernel_rfl
theorem ex_check3 : mcheck ex3 = 0 := by kernel_rfl
theorem ex_size3 : mcount pSize ex3 = 4 := by kernel_rfl
theorem ex_check6 : mcheck ex6 = 4 := by kernel_rfl
theorem ex_sizes : ex1.size ≤ 100 ∧ ex2.size ≤ 100 ∧ ex3.size ≤ 100 ∧ ex4.size ≤ 100 ∧ ex5.size ≤ 100 ∧ ex6.size ≤ 100 := ⟨Nat.le_of_ble_eq_true (by kernel_rfl), Nat.le_of_ble_eq_true (by kernel_rfl), Nat.le_of_ble_eq_true (by kernel_rfl), Nat.le_of_ble_eq_true (by kernel_rfl), Nat.le_of_ble_eq_true (by kernel_rfl), Nat.le_of_ble_eq_true (by kernel_rfl)⟩
end Go.Proofs.YtmpofjiokpeegaaGreatDoor

/- The example, alive; MultiChecks. -/
namespace Go.Proofs.YtmpofjiokpeegaaGreatDoor
open Go Go.Aw
variable {kr : KR}
set_option maxHeartbeats 1000000 in
theorem c_alive (σ : Store) (hσ : σ = ⟨(GL kr), [], []⟩) : PurAt Tryz.prog σ 22 [] (.pv (.bool true)) := by
 have hgl : σ.gl = (GL kr) := by rw [hσ]
 have hP := ex_plain
 have hL := ex_lifted
 have hC3 := ex_check3
 have hS3 := ex_size3
 have hC6 := ex_check6
 obtain ⟨z1, z2, z3, z4, z5, z6⟩ := ex_sizes
 have hr1 := c_read1 (kr := kr)
 have hr2 := c_read2 (kr := kr)
 have hr3 := c_read3 (kr := kr)
 have hr4 := c_read4 (kr := kr)
 have hr5 := c_read5 (kr := kr)
 have hr6 := c_read6 (kr := kr)
 rw [← hσ] at hr1 hr2 hr3 hr4 hr5 hr6
 clear hσ
 generalize ex1 = x1 at *
 generalize ex2 = x2 at *
 generalize ex3 = x3 at *
 generalize ex4 = x4 at *
 generalize ex5 = x5 at *
 generalize ex6 = x6 at *
 have hd4 := deq_refl x4
 have hd5 := deq_refl x5
 refine purAt_of ?_
 refine acalls_of tyOk Tryz.func22 rfl (by simp [Tryz.f22]) ?_
 refine awp_seq (aR (by simp [go_sem, hP, hL, hC3, hS3, hC6, hd4, hd5] <;> rfl) ?_)
 refine awp_seq (awp_reg ?_)
 refine aF call68 (hr1) (by simp [go_sem, hP, hL, hC3, hS3, hC6, hd4, hd5] <;> rfl) (by simp [go_sem, hP, hL, hC3, hS3, hC6, hd4, hd5]) ?_
 refine aF call36 ((c_mPlain x1 (by omega)) _ (by exact hgl)) (by simp [go_sem, hP, hL, hC3, hS3, hC6, hd4, hd5] <;> rfl) (by simp [go_sem, hP, hL, hC3, hS3, hC6, hd4, hd5]) ?_
 refine aL 6 (by simp [go_sem, hP, hL, hC3, hS3, hC6, hd4, hd5] <;> rfl) ?_
 refine al_nil ?_
 refine awp_seq (awp_reg ?_)
 refine aF call68 (hr2) (by simp [go_sem, hP, hL, hC3, hS3, hC6, hd4, hd5] <;> rfl) (by simp [go_sem, hP, hL, hC3, hS3, hC6, hd4, hd5]) ?_
 refine aF call16 ((c_mLifted x2 (by omega)) _ (by exact hgl)) (by simp [go_sem, hP, hL, hC3, hS3, hC6, hd4, hd5] <;> rfl) (by simp [go_sem, hP, hL, hC3, hS3, hC6, hd4, hd5]) ?_
 refine aL 6 (by simp [go_sem, hP, hL, hC3, hS3, hC6, hd4, hd5] <;> rfl) ?_
 refine al_nil ?_
 refine awp_seq (awp_reg ?_)
 refine aF call68 (hr3) (by simp [go_sem, hP, hL, hC3, hS3, hC6, hd4, hd5] <;> rfl) (by simp [go_sem, hP, hL, hC3, hS3, hC6, hd4, hd5]) ?_
 refine aF call19 ((c_mSize x3 (by omega)) _ (by exact hgl)) (by simp [go_sem, hP, hL, hC3, hS3, hC6, hd4, hd5] <;> rfl) (by simp [go_sem, hP, hL, hC3, hS3, hC6, hd4, hd5]) ?_
 refine aL 5 (by simp [go_sem, hP, hL, hC3, hS3, hC6, hd4, hd5] <;> rfl) ?_
 refine al_nil ?_
 refine awp_seq (awp_regDC tyOk tySz 14 (drawOk_of (by kernel_rfl)) (by decide) ?_)
 refine ul_run 3 (by simp [go_sem, hP, hL, hC3, hS3, hC6, hd4, hd5] <;> rfl) ?_
 refine ul_splitT 24 (by first | rfl | (simp [go_sem, hP, hL, hC3, hS3, hC6, hd4, hd5] <;> rfl)) (fun h20 => ?_) (fun h20 => ?_)
 ·refine ul_runG 1 24 true true (by simp [go_sem]) rfl (by simp [go_sem]) rfl rfl (by simp [go_sem, hP, hL, hC3, hS3, hC6, hd4, hd5] <;> rfl) ?_
  refine ul_fnG 24 true true (by simp [go_sem]) rfl (by first | (intro _ _ hh; exact hh) | simp [go_sem]) (by simp [go_sem]) rfl rfl rfl (by simp [go_sem, hP, hL, hC3, hS3, hC6, hd4, hd5] <;> rfl) call68 (hr4) (by simp [go_sem, hP, hL, hC3, hS3, hC6, hd4, hd5] <;> rfl) (by simp [go_sem, hP, hL, hC3, hS3, hC6, hd4, hd5]) rfl rfl ?_
  refine ul_fnG 24 true true (by simp [go_sem]) rfl (by first | (intro _ _ hh; exact hh) | simp [go_sem]) (by simp [go_sem]) rfl rfl rfl (by simp [go_sem, hP, hL, hC3, hS3, hC6, hd4, hd5] <;> rfl) call35 ((c_Same x4 (by omega) x4) _ (by exact hgl)) (by simp [go_sem, hP, hL, hC3, hS3, hC6, hd4, hd5] <;> rfl) (by simp [go_sem, hP, hL, hC3, hS3, hC6, hd4, hd5]) rfl rfl ?_
  refine ul_run 2 (by simp [go_sem, hP, hL, hC3, hS3, hC6, hd4, hd5] <;> rfl) ?_
  refine ul_splitT 29 (by first | rfl | (simp [go_sem, hP, hL, hC3, hS3, hC6, hd4, hd5] <;> rfl)) (fun h21 => ?_) (fun h21 => ?_)
  ·refine ul_runG 2 29 true true (by simp [go_sem]) rfl (by simp [go_sem]) rfl rfl (by simp [go_sem, hP, hL, hC3, hS3, hC6, hd4, hd5] <;> rfl) ?_
   refine ul_run 2 (by simp [go_sem, hP, hL, hC3, hS3, hC6, hd4, hd5] <;> rfl) ?_
   refine ul_splitT 33 (by first | rfl | (simp [go_sem, hP, hL, hC3, hS3, hC6, hd4, hd5] <;> rfl)) (fun h22 => ?_) (fun h22 => ?_)
   ·refine ul_runG 1 33 true true (by simp [go_sem]) rfl (by simp [go_sem]) rfl rfl (by simp [go_sem, hP, hL, hC3, hS3, hC6, hd4, hd5] <;> rfl) ?_
    refine ul_fnG 33 true true (by simp [go_sem]) rfl (by first | (intro _ _ hh; exact hh) | simp [go_sem]) (by simp [go_sem]) rfl rfl rfl (by simp [go_sem, hP, hL, hC3, hS3, hC6, hd4, hd5] <;> rfl) call68 (hr5) (by simp [go_sem, hP, hL, hC3, hS3, hC6, hd4, hd5] <;> rfl) (by simp [go_sem, hP, hL, hC3, hS3, hC6, hd4, hd5]) rfl rfl ?_
    refine ul_nil ?_
    refine al_fnG 33 true true (by simp [go_sem]) rfl (by simp [go_sem]) rfl rfl (by simp [go_sem, hP, hL, hC3, hS3, hC6, hd4, hd5] <;> rfl) call35 ((c_Same x5 (by omega) x5) _ (by exact hgl)) (by simp [go_sem, hP, hL, hC3, hS3, hC6, hd4, hd5] <;> rfl) (by simp [go_sem, hP, hL, hC3, hS3, hC6, hd4, hd5]) rfl rfl ?_
    refine aL 2 (by simp [go_sem, hP, hL, hC3, hS3, hC6, hd4, hd5] <;> rfl) ?_
    refine al_splitT 38 (by first | rfl | (simp [go_sem, hP, hL, hC3, hS3, hC6, hd4, hd5] <;> rfl)) (fun h23 => ?_) (fun h23 => ?_)
    ·refine aLG 2 38 true (by simp [go_sem, hP, hL, hC3, hS3, hC6, hd4, hd5] <;> rfl) ?_
     refine aL 2 (by simp [go_sem, hP, hL, hC3, hS3, hC6, hd4, hd5] <;> rfl) ?_
     refine al_splitT 42 (by first | rfl | (simp [go_sem, hP, hL, hC3, hS3, hC6, hd4, hd5] <;> rfl)) (fun h24 => ?_) (fun h24 => ?_)
     ·refine aLG 2 42 true (by simp [go_sem, hP, hL, hC3, hS3, hC6, hd4, hd5] <;> rfl) ?_
      refine aL 2 (by simp [go_sem, hP, hL, hC3, hS3, hC6, hd4, hd5] <;> rfl) ?_
      refine al_splitT 46 (by first | rfl | (simp [go_sem, hP, hL, hC3, hS3, hC6, hd4, hd5] <;> rfl)) (fun h25 => ?_) (fun h25 => ?_)
      ·refine al_fnG 46 true true (by simp [go_sem]) rfl (by simp [go_sem]) rfl rfl (by simp [go_sem, hP, hL, hC3, hS3, hC6, hd4, hd5] <;> rfl) call68 (hr6) (by simp [go_sem, hP, hL, hC3, hS3, hC6, hd4, hd5] <;> rfl) (by simp [go_sem, hP, hL, hC3, hS3, hC6, hd4, hd5]) rfl rfl ?_
       refine al_fnG 46 true true (by simp [go_sem]) rfl (by simp [go_sem]) rfl rfl (by simp [go_sem, hP, hL, hC3, hS3, hC6, hd4, hd5] <;> rfl) call21 ((c_mCheck x6 (by omega)) _ (by exact hgl)) (by simp [go_sem, hP, hL, hC3, hS3, hC6, hd4, hd5] <;> rfl) (by simp [go_sem, hP, hL, hC3, hS3, hC6, hd4, hd5]) rfl rfl ?_
       refine aLG 1 46 true (by simp [go_sem, hP, hL, hC3, hS3, hC6, hd4, hd5] <;> rfl) ?_
       refine aL 2 (by simp [go_sem, hP, hL, hC3, hS3, hC6, hd4, hd5] <;> rfl) ?_
       refine al_nil ?_
       refine awp_ret ?_
       refine ends_ret (by simp [go_sem] <;> rfl) (by simp [go_sem]) ?_
       exact ⟨by simp [go_sem], by simp [go_sem]⟩
      ·cases h25
     ·cases h24
    ·cases h23
   ·cases h22
  ·cases h21
 ·cases h20

end Go.Proofs.YtmpofjiokpeegaaGreatDoor

/- MultiLevels. -/
namespace Go.Proofs.YtmpofjiokpeegaaGreatDoor
open Go Go.Aw
variable {kr : KR}
/-- What the law meets, in its own words. -/
theorem lev_bad {x : D} (h : ((merase x).2 != 0) = true) : (merase x).1 = dnone := by
  unfold merase at h ⊢
  split
  · rfl
  · rename_i hc; rw [if_neg hc] at h; simp at h
theorem lev_ok {x : D} (h : ((merase x).2 != 0) = false) : mcheck x = 0 ∧ (merase x).1 = mmap eraseF x := by
  unfold merase at h ⊢
  split
  · rename_i hc
    rw [if_pos hc] at h
    rw [h] at hc; cases hc
  · rename_i hc
    exact ⟨by simpa using hc, rfl⟩
theorem lift_or {x : D} (hz : mcheck x = 0) (h : ((mlifted x).2 != 0) = true) : ((mlifted x).2 = 13 ∧ 0 < mcount (fun x => isW x sLift) x + mcount (fun x => isW x sRun) x) ∨ ((mlifted x).2 = 3 ∧ mcount (fun x => isW x sLift) x + mcount (fun x => isW x sRun) x = 0) := by
  unfold mlifted at h ⊢
  rw [hz, if_neg (by decide)] at h ⊢
  split
  · rename_i hc
    refine .inl ⟨rfl, ?_⟩
    have : ¬ Flat x := fun hf => by rw [mone_flat.2 hf] at hc; cases hc
    rw [flat_counts] at this
    omega
  · rename_i hc
    have hf : Flat x := mone_flat.1 (by simpa using hc)
    rw [if_neg hc] at h
    obtain ⟨h1, h2⟩ := flat_counts.1 hf
    split
    · exact .inr ⟨rfl, by rw [h1, h2]⟩
    · rename_i hd; rw [if_neg hd] at h; cases h
theorem lift_fine {x : D} (hz : mcheck x = 0) (h : ((mlifted x).2 != 0) = false) : mcheck (mlifted x).1 = 0 ∧ mmap eraseF (mlifted x).1 = x ∧ (mlifted x).1.size ≤ 3 * x.size := by
  have hg := mcheck_good hz
  unfold mlifted at h ⊢
  rw [hz, if_neg (by decide)] at h ⊢
  split
  · rename_i hc; rw [if_pos hc] at h; cases h
  · rename_i hc
    have hf : Flat x := mone_flat.1 (by simpa using hc)
    rw [if_neg hc] at h
    split
    · rename_i hd; rw [if_pos hd] at h; cases h
    · rename_i hd
      obtain ⟨h1, h2⟩ := mlifted_checks hg hf (by simpa using hd)
      exact ⟨h1, h2, mlifted_size hg⟩

set_option maxHeartbeats 1000000 in
theorem c_MultiLevels (p : D) (σ : Store) (hσ : σ = ⟨(GL kr), [], []⟩) : PurAt Tryz.prog σ 6 [.pv (enc p)] (.pv (.bool true)) := by
 have hgl : σ.gl = (GL kr) := by rw [hσ]
 refine purAt_of ?_
 refine acalls_of tyOk Tryz.func6 rfl (by simp [Tryz.f6]) ?_
 refine awp_seq (aR (by simp [go_sem, enc_none] <;> rfl) ?_)
 refine awp_seq (awp_reg ?_)
 refine aL 1 (by simp [go_sem, enc_none] <;> rfl) ?_
 refine al_callW rfl rfl rfl (by simp [go_sem, enc_none] <;> rfl) call17 (c_Cut25 p σ hgl) (by simp [go_sem, enc_none] <;> rfl) (by simp [go_sem, enc_none]) rfl rfl ?_
 rintro r σ1 ⟨x, rfl, hs1, hx⟩
 rw [hs1]
 clear hs1 σ1
 obtain ⟨a, ha⟩ : ∃ z, z = (merase x).1 := ⟨_, rfl⟩
 obtain ⟨e, he⟩ : ∃ z, z = (merase x).2 := ⟨_, rfl⟩
 have hE : Pur Tryz.prog (GL kr) 34 [.pv (enc x)] (.tuple [.pv (enc a), .pv (.int .i64 e)]) := by rw [ha, he]; exact c_mErase x (by omega)
 refine aL 2 (by simp [go_sem, enc_none] <;> rfl) ?_
 refine al_nil ?_
 refine awp_seq (awp_reg ?_)
 refine aL 1 (by simp [go_sem, enc_none] <;> rfl) ?_
 refine aF call34 ((hE) _ (by exact hgl)) (by simp [go_sem, enc_none] <;> rfl) (by simp [go_sem, enc_none]) ?_
 refine aL 6 (by simp [go_sem, enc_none] <;> rfl) ?_
 refine al_nil ?_
 refine awp_seq (awp_seq (aR (by simp [go_sem, enc_none] <;> rfl) ?_))
 refine awp_cond (by first | rfl | (simp [go_sem, enc_none] <;> rfl)) (fun h20 => ?_) (fun h20 => ?_)
 ·have hda : a = dnone := by rw [ha]; exact lev_bad (by rw [← he]; exact h20)
  have hdd : deq a dnone = true := by rw [hda]; exact deq_refl _
  refine awp_seq (awp_reg ?_)
  refine aL 2 (by simp [go_sem, enc_none, hdd] <;> rfl) ?_
  refine aF call35 ((c_Same a (by rw [hda]; exact Nat.le_of_ble_eq_true rfl) dnone) _ (by exact hgl)) (by simp [go_sem, enc_none, hdd] <;> rfl) (by simp [go_sem, enc_none, hdd]) ?_
  refine aL 1 (by simp [go_sem, enc_none, hdd] <;> rfl) ?_
  refine al_splitT 28 (by first | rfl | (simp [go_sem, enc_none, hdd] <;> rfl)) (fun h21 => ?_) (fun h21 => ?_)
  ·refine al_fnG 28 true true (by simp [go_sem]) rfl (by simp [go_sem]) rfl rfl (by simp [go_sem, enc_none, hdd] <;> rfl) call22 (c_alive σ hσ) (by simp [go_sem, enc_none, hdd] <;> rfl) (by simp [go_sem, enc_none, hdd]) rfl rfl ?_
   refine aL 2 (by simp [go_sem, enc_none, hdd] <;> rfl) ?_
   refine al_nil ?_
   refine awp_ret ?_
   refine then_ret ?_
   refine ends_ret (by simp [go_sem, enc_none, hdd] <;> rfl) (by simp [go_sem]) ?_
   exact ⟨by simp [go_sem], by simp [go_sem]⟩
  ·first | (cases h21; done) | (simp at h21; done)
 ·obtain ⟨hz, ham⟩ := lev_ok (x := x) (by rw [← he]; exact h20)
  rw [← ha] at ham
  have hg := mcheck_good hz
  have hez : e = 0 := by simpa using h20
  obtain ⟨hka, hna, hma⟩ := merase_checks hz
  have hsa := merase_size hg
  rw [← ham] at hka hna hma hsa
  obtain ⟨k, hk⟩ : ∃ z, z = mcount (fun x => isW x sLift) x := ⟨_, rfl⟩
  obtain ⟨l, hl⟩ : ∃ z, z = mcount (fun x => isW x sRun) x := ⟨_, rfl⟩
  have hkx : k ≤ x.size := hk ▸ mcount_le
  have hlx : l ≤ x.size := hl ▸ mcount_le
  have hLa : Pur Tryz.prog (GL kr) 20 [.pv (enc a)] (.tuple [.pv (.int .i64 0), .pv (.int .i64 0), .pv (.int .i64 0)]) := by have h := c_mLevels (kr := kr) a (by omega); rw [hka, hna, hma] at h; exact h
  have hLx : Pur Tryz.prog (GL kr) 20 [.pv (enc x)] (.tuple [.pv (.int .i64 ((k : Nat) : Int)), .pv (.int .i64 ((l : Nat) : Int)), .pv (.int .i64 0)]) := by have h := c_mLevels (kr := kr) x (by omega); rw [hz, ← hk, ← hl] at h; exact h
  obtain ⟨b, hb⟩ : ∃ z, z = (mlifted x).1 := ⟨_, rfl⟩
  obtain ⟨q, hq⟩ : ∃ z, z = (mlifted x).2 := ⟨_, rfl⟩
  have hLi : Pur Tryz.prog (GL kr) 16 [.pv (enc x)] (.tuple [.pv (enc b), .pv (.int .i64 q)]) := by rw [hb, hq]; exact c_mLifted x (by omega)
  have hwkl : IntKind.i64.wrap ((k : Int) + (l : Int)) = (k : Int) + (l : Int) := wrap_id (by omega) (by omega)
  have hdx := deq_refl x
  refine awp_skip ?_
  refine awp_seq (awp_reg ?_)
  refine aL 1 (by simp [go_sem, enc_none, hez, hwkl, hdx] <;> rfl) ?_
  refine aF call20 ((hLa) _ (by exact hgl)) (by simp [go_sem, enc_none, hez, hwkl, hdx] <;> rfl) (by simp [go_sem, enc_none, hez, hwkl, hdx]) ?_
  refine aL 7 (by simp [go_sem, enc_none, hez, hwkl, hdx] <;> rfl) ?_
  refine al_nil ?_
  refine awp_seq (awp_reg ?_)
  refine aL 1 (by simp [go_sem, enc_none, hez, hwkl, hdx] <;> rfl) ?_
  refine aF call20 ((hLx) _ (by exact hgl)) (by simp [go_sem, enc_none, hez, hwkl, hdx] <;> rfl) (by simp [go_sem, enc_none, hez, hwkl, hdx]) ?_
  refine aL 7 (by simp [go_sem, enc_none, hez, hwkl, hdx] <;> rfl) ?_
  refine al_nil ?_
  refine awp_seq (awp_seq (awp_reg ?_))
  refine aL 3 (by simp [go_sem, enc_none, hez, hwkl, hdx] <;> rfl) ?_
  refine al_splitT 45 (by first | rfl | (simp [go_sem, enc_none, hez, hwkl, hdx] <;> rfl)) (fun h22 => ?_) (fun h22 => ?_)
  ·first | (cases h22; done) | (simp at h22; done)
  ·refine aLG 2 45 false (by simp [go_sem, enc_none, hez, hwkl, hdx] <;> rfl) ?_
   refine aL 2 (by simp [go_sem, enc_none, hez, hwkl, hdx] <;> rfl) ?_
   refine al_splitT 49 (by first | rfl | (simp [go_sem, enc_none, hez, hwkl, hdx] <;> rfl)) (fun h23 => ?_) (fun h23 => ?_)
   ·first | (cases h23; done) | (simp at h23; done)
   ·refine aLG 2 49 false (by simp [go_sem, enc_none, hez, hwkl, hdx] <;> rfl) ?_
    refine aL 2 (by simp [go_sem, enc_none, hez, hwkl, hdx] <;> rfl) ?_
    refine al_splitT 53 (by first | rfl | (simp [go_sem, enc_none, hez, hwkl, hdx] <;> rfl)) (fun h24 => ?_) (fun h24 => ?_)
    ·first | (cases h24; done) | (simp at h24; done)
    ·refine aLG 2 53 false (by simp [go_sem, enc_none, hez, hwkl, hdx] <;> rfl) ?_
     refine aL 2 (by simp [go_sem, enc_none, hez, hwkl, hdx] <;> rfl) ?_
     refine al_splitT 57 (by first | rfl | (simp [go_sem, enc_none, hez, hwkl, hdx] <;> rfl)) (fun h25 => ?_) (fun h25 => ?_)
     ·first | (cases h25; done) | (simp at h25; done)
     ·refine aLG 3 57 false (by simp [go_sem, enc_none, hez, hwkl, hdx] <;> rfl) ?_
      refine al_splitT 60 (by first | rfl | (simp [go_sem, enc_none, hez, hwkl, hdx] <;> rfl)) (fun h26 => ?_) (fun h26 => ?_)
      ·refine aLG 2 60 true (by simp [go_sem, enc_none, hez, hwkl, hdx] <;> rfl) ?_
       refine aLG 2 57 false (by simp [go_sem, enc_none, hez, hwkl, hdx] <;> rfl) ?_
       refine al_splitT 64 (by first | rfl | (simp [go_sem, enc_none, hez, hwkl, hdx] <;> rfl)) (fun h27 => ?_) (fun h27 => ?_)
       ·have hax : deq a x = true := by
          have hf : Flat x := flat_counts.2 ⟨by rw [← hk]; have hh := h26; simp at hh; omega, by rw [← hl]; have hh := h27; simp at hh; omega⟩
          rw [ham, erase_same hg hf]; exact deq_refl x
        refine aLG 2 64 true (by simp [go_sem, enc_none, hez, hwkl, hdx, hax] <;> rfl) ?_
        refine al_fnG 64 true true (by simp [go_sem]) rfl (by simp [go_sem]) rfl rfl (by simp [go_sem, enc_none, hez, hwkl, hdx, hax] <;> rfl) call35 ((c_Same a (by omega) x) _ (by exact hgl)) (by simp [go_sem, enc_none, hez, hwkl, hdx, hax] <;> rfl) (by simp [go_sem, enc_none, hez, hwkl, hdx, hax]) rfl rfl ?_
        refine aLG 1 64 true (by simp [go_sem, enc_none, hez, hwkl, hdx, hax] <;> rfl) ?_
        refine aLG 1 57 false (by simp [go_sem, enc_none, hez, hwkl, hdx, hax] <;> rfl) ?_
        refine aL 1 (by simp [go_sem, enc_none, hez, hwkl, hdx, hax] <;> rfl) ?_
        refine al_nil ?_
        refine awp_cond (by first | rfl | (simp [go_sem, enc_none, hez, hwkl, hdx, hax] <;> rfl)) (fun h28 => ?_) (fun h28 => ?_)
        ·first | (cases h28; done) | (simp at h28; done)
        ·refine awp_skip ?_
         refine awp_seq (awp_reg ?_)
         refine aL 1 (by simp [go_sem, enc_none, hez, hwkl, hdx, hax] <;> rfl) ?_
         refine aF call16 ((hLi) _ (by exact hgl)) (by simp [go_sem, enc_none, hez, hwkl, hdx, hax] <;> rfl) (by simp [go_sem, enc_none, hez, hwkl, hdx, hax]) ?_
         refine aL 6 (by simp [go_sem, enc_none, hez, hwkl, hdx, hax] <;> rfl) ?_
         refine al_nil ?_
         refine awp_seq (awp_seq (aR (by simp [go_sem, enc_none, hez, hwkl, hdx, hax] <;> rfl) ?_))
         refine awp_cond (by first | rfl | (simp [go_sem, enc_none, hez, hwkl, hdx, hax] <;> rfl)) (fun h29 => ?_) (fun h29 => ?_)
         ·have hor := lift_or hz (by rw [← hq]; exact h29)
          rw [← hk, ← hl, ← hq] at hor
          refine awp_seq (awp_reg ?_)
          refine aL 3 (by simp [go_sem, enc_none, hez, hwkl, hdx, hax] <;> rfl) ?_
          refine al_splitT 80 (by first | rfl | (simp [go_sem, enc_none, hez, hwkl, hdx, hax] <;> rfl)) (fun h30 => ?_) (fun h30 => ?_)
          ·have h13 : q = 13 := by simpa using h30
           have hpos : decide (0 < (k : Int) + (l : Int)) = true := hor.elim (fun h => decide_eq_true (by omega)) (fun h => absurd h.1 (by omega))
           refine aLG 4 80 true (by simp [go_sem, enc_none, hez, hwkl, hdx, hax, h13, hpos] <;> rfl) ?_
           refine aL 2 (by simp [go_sem, enc_none, hez, hwkl, hdx, hax, h13, hpos] <;> rfl) ?_
           refine al_splitT 86 (by first | rfl | (simp [go_sem, enc_none, hez, hwkl, hdx, hax, h13, hpos] <;> rfl)) (fun h31 => ?_) (fun h31 => ?_)
           ·refine aK 3 86 false ?_
            refine aK 4 89 true ?_
            refine aK 1 86 false ?_
            refine aL 2 (by simp [go_sem, enc_none, hez, hwkl, hdx, hax, h13, hpos] <;> rfl) ?_
            refine al_fnG 96 true true (by simp [go_sem]) rfl (by simp [go_sem]) rfl rfl (by simp [go_sem, enc_none, hez, hwkl, hdx, hax, h13, hpos] <;> rfl) call22 (c_alive σ hσ) (by simp [go_sem, enc_none, hez, hwkl, hdx, hax, h13, hpos] <;> rfl) (by simp [go_sem, enc_none, hez, hwkl, hdx, hax, h13, hpos]) rfl rfl ?_
            refine aL 2 (by simp [go_sem, enc_none, hez, hwkl, hdx, hax, h13, hpos] <;> rfl) ?_
            refine al_nil ?_
            refine awp_ret ?_
            refine then_ret ?_
            refine ends_ret (by simp [go_sem, enc_none, hez, hwkl, hdx, hax, h13, hpos] <;> rfl) (by simp [go_sem]) ?_
            exact ⟨by simp [go_sem], by simp [go_sem]⟩
           ·first | (cases h31; done) | (simp at h31; done)
          ·have h13 : ¬ q = 13 := by simpa using h30
           have hq3 : q = 3 := hor.elim (fun h => absurd h.1 h13) (fun h => h.1)
           have hkl0 : (k : Int) + (l : Int) = 0 := hor.elim (fun h => absurd h.1 h13) (fun h => by omega)
           refine aK 4 80 true ?_
           refine aL 2 (by simp [go_sem, enc_none, hez, hwkl, hdx, hax, hq3, hkl0] <;> rfl) ?_
           refine aLG 3 86 false (by simp [go_sem, enc_none, hez, hwkl, hdx, hax, hq3, hkl0] <;> rfl) ?_
           refine al_splitT 89 (by first | rfl | (simp [go_sem, enc_none, hez, hwkl, hdx, hax, hq3, hkl0] <;> rfl)) (fun h32 => ?_) (fun h32 => ?_)
           ·refine aLG 4 89 true (by simp [go_sem, enc_none, hez, hwkl, hdx, hax, hq3, hkl0] <;> rfl) ?_
            refine aLG 1 86 false (by simp [go_sem, enc_none, hez, hwkl, hdx, hax, hq3, hkl0] <;> rfl) ?_
            refine aL 2 (by simp [go_sem, enc_none, hez, hwkl, hdx, hax, hq3, hkl0] <;> rfl) ?_
            refine al_splitT 96 (by first | rfl | (simp [go_sem, enc_none, hez, hwkl, hdx, hax, hq3, hkl0] <;> rfl)) (fun h33 => ?_) (fun h33 => ?_)
            ·refine al_fnG 96 true true (by simp [go_sem]) rfl (by simp [go_sem]) rfl rfl (by simp [go_sem, enc_none, hez, hwkl, hdx, hax, hq3, hkl0] <;> rfl) call22 (c_alive σ hσ) (by simp [go_sem, enc_none, hez, hwkl, hdx, hax, hq3, hkl0] <;> rfl) (by simp [go_sem, enc_none, hez, hwkl, hdx, hax, hq3, hkl0]) rfl rfl ?_
             refine aL 2 (by simp [go_sem, enc_none, hez, hwkl, hdx, hax, hq3, hkl0] <;> rfl) ?_
             refine al_nil ?_
             refine awp_ret ?_
             refine then_ret ?_
             refine ends_ret (by simp [go_sem, enc_none, hez, hwkl, hdx, hax, hq3, hkl0] <;> rfl) (by simp [go_sem]) ?_
             exact ⟨by simp [go_sem], by simp [go_sem]⟩
            ·first | (cases h33; done) | (simp at h33; done)
           ·first | (cases h32; done) | (simp at h32; done)
         ·have hq0 : q = 0 := by simpa using h29
          obtain ⟨hkb, heb, hsb⟩ := lift_fine hz (by rw [← hq]; exact h29)
          rw [← hb] at hkb heb hsb
          have hE2 : Pur Tryz.prog (GL kr) 34 [.pv (enc b)] (.tuple [.pv (enc x), .pv (.int .i64 0)]) := by have h := c_mErase (kr := kr) b (by omega); unfold merase at h; rw [hkb, heb] at h; exact h
          refine awp_skip ?_
          refine awp_seq (awp_reg ?_)
          refine aL 1 (by simp [go_sem, enc_none, hez, hwkl, hdx, hax, hq0] <;> rfl) ?_
          refine aF call34 ((hE2) _ (by exact hgl)) (by simp [go_sem, enc_none, hez, hwkl, hdx, hax, hq0] <;> rfl) (by simp [go_sem, enc_none, hez, hwkl, hdx, hax, hq0]) ?_
          refine aL 6 (by simp [go_sem, enc_none, hez, hwkl, hdx, hax, hq0] <;> rfl) ?_
          refine al_nil ?_
          refine awp_seq (awp_reg ?_)
          refine aL 3 (by simp [go_sem, enc_none, hez, hwkl, hdx, hax, hq0] <;> rfl) ?_
          refine al_splitT 106 (by first | rfl | (simp [go_sem, enc_none, hez, hwkl, hdx, hax, hq0] <;> rfl)) (fun h34 => ?_) (fun h34 => ?_)
          ·refine aLG 2 106 true (by simp [go_sem, enc_none, hez, hwkl, hdx, hax, hq0] <;> rfl) ?_
           refine al_fnG 106 true true (by simp [go_sem]) rfl (by simp [go_sem]) rfl rfl (by simp [go_sem, enc_none, hez, hwkl, hdx, hax, hq0] <;> rfl) call35 ((c_Same x (by omega) x) _ (by exact hgl)) (by simp [go_sem, enc_none, hez, hwkl, hdx, hax, hq0] <;> rfl) (by simp [go_sem, enc_none, hez, hwkl, hdx, hax, hq0]) rfl rfl ?_
           refine aL 2 (by simp [go_sem, enc_none, hez, hwkl, hdx, hax, hq0] <;> rfl) ?_
           refine al_splitT 111 (by first | rfl | (simp [go_sem, enc_none, hez, hwkl, hdx, hax, hq0] <;> rfl)) (fun h35 => ?_) (fun h35 => ?_)
           ·refine al_fnG 111 true true (by simp [go_sem]) rfl (by simp [go_sem]) rfl rfl (by simp [go_sem, enc_none, hez, hwkl, hdx, hax, hq0] <;> rfl) call22 (c_alive σ hσ) (by simp [go_sem, enc_none, hez, hwkl, hdx, hax, hq0] <;> rfl) (by simp [go_sem, enc_none, hez, hwkl, hdx, hax, hq0]) rfl rfl ?_
            refine aL 2 (by simp [go_sem, enc_none, hez, hwkl, hdx, hax, hq0] <;> rfl) ?_
            refine al_nil ?_
            refine awp_ret ?_
            refine ends_ret (by simp [go_sem, enc_none, hez, hwkl, hdx, hax, hq0] <;> rfl) (by simp [go_sem]) ?_
            exact ⟨by simp [go_sem], by simp [go_sem]⟩
           ·first | (cases h35; done) | (simp at h35; done)
          ·first | (cases h34; done) | (simp at h34; done)
       ·refine aK 4 64 true ?_
        refine aLG 1 57 false (by simp [go_sem, enc_none, hez, hwkl, hdx] <;> rfl) ?_
        refine aL 1 (by simp [go_sem, enc_none, hez, hwkl, hdx] <;> rfl) ?_
        refine al_nil ?_
        refine awp_cond (b := false) (by simp [go_sem, enc_none, hez, hwkl, hdx, h20, h22, h23, h24, h25, h26, h27]) (fun h => ?_) (fun h => ?_)
        ·cases h
        refine awp_skip ?_
        refine awp_seq (awp_reg ?_)
        refine aL 1 (by simp [go_sem, enc_none, hez, hwkl, hdx] <;> rfl) ?_
        refine aF call16 ((hLi) _ (by exact hgl)) (by simp [go_sem, enc_none, hez, hwkl, hdx] <;> rfl) (by simp [go_sem, enc_none, hez, hwkl, hdx]) ?_
        refine aL 6 (by simp [go_sem, enc_none, hez, hwkl, hdx] <;> rfl) ?_
        refine al_nil ?_
        refine awp_seq (awp_seq (aR (by simp [go_sem, enc_none, hez, hwkl, hdx] <;> rfl) ?_))
        refine awp_cond (by first | rfl | (simp [go_sem, enc_none, hez, hwkl, hdx] <;> rfl)) (fun h36 => ?_) (fun h36 => ?_)
        ·have hor := lift_or hz (by rw [← hq]; exact h36)
         rw [← hk, ← hl, ← hq] at hor
         refine awp_seq (awp_reg ?_)
         refine aL 3 (by simp [go_sem, enc_none, hez, hwkl, hdx] <;> rfl) ?_
         refine al_splitT 80 (by first | rfl | (simp [go_sem, enc_none, hez, hwkl, hdx] <;> rfl)) (fun h37 => ?_) (fun h37 => ?_)
         ·have h13 : q = 13 := by simpa using h37
          have hpos : decide (0 < (k : Int) + (l : Int)) = true := hor.elim (fun h => decide_eq_true (by omega)) (fun h => absurd h.1 (by omega))
          refine aLG 4 80 true (by simp [go_sem, enc_none, hez, hwkl, hdx, h13, hpos] <;> rfl) ?_
          refine aL 2 (by simp [go_sem, enc_none, hez, hwkl, hdx, h13, hpos] <;> rfl) ?_
          refine al_splitT 86 (by first | rfl | (simp [go_sem, enc_none, hez, hwkl, hdx, h13, hpos] <;> rfl)) (fun h38 => ?_) (fun h38 => ?_)
          ·refine aK 3 86 false ?_
           refine aK 4 89 true ?_
           refine aK 1 86 false ?_
           refine aL 2 (by simp [go_sem, enc_none, hez, hwkl, hdx, h13, hpos] <;> rfl) ?_
           refine al_fnG 96 true true (by simp [go_sem]) rfl (by simp [go_sem]) rfl rfl (by simp [go_sem, enc_none, hez, hwkl, hdx, h13, hpos] <;> rfl) call22 (c_alive σ hσ) (by simp [go_sem, enc_none, hez, hwkl, hdx, h13, hpos] <;> rfl) (by simp [go_sem, enc_none, hez, hwkl, hdx, h13, hpos]) rfl rfl ?_
           refine aL 2 (by simp [go_sem, enc_none, hez, hwkl, hdx, h13, hpos] <;> rfl) ?_
           refine al_nil ?_
           refine awp_ret ?_
           refine then_ret ?_
           refine ends_ret (by simp [go_sem, enc_none, hez, hwkl, hdx, h13, hpos] <;> rfl) (by simp [go_sem]) ?_
           exact ⟨by simp [go_sem], by simp [go_sem]⟩
          ·first | (cases h38; done) | (simp at h38; done)
         ·have h13 : ¬ q = 13 := by simpa using h37
          have hq3 : q = 3 := hor.elim (fun h => absurd h.1 h13) (fun h => h.1)
          have hkl0 : (k : Int) + (l : Int) = 0 := hor.elim (fun h => absurd h.1 h13) (fun h => by omega)
          refine aK 4 80 true ?_
          refine aL 2 (by simp [go_sem, enc_none, hez, hwkl, hdx, hq3, hkl0] <;> rfl) ?_
          refine aLG 3 86 false (by simp [go_sem, enc_none, hez, hwkl, hdx, hq3, hkl0] <;> rfl) ?_
          refine al_splitT 89 (by first | rfl | (simp [go_sem, enc_none, hez, hwkl, hdx, hq3, hkl0] <;> rfl)) (fun h39 => ?_) (fun h39 => ?_)
          ·refine aLG 4 89 true (by simp [go_sem, enc_none, hez, hwkl, hdx, hq3, hkl0] <;> rfl) ?_
           refine aLG 1 86 false (by simp [go_sem, enc_none, hez, hwkl, hdx, hq3, hkl0] <;> rfl) ?_
           refine aL 2 (by simp [go_sem, enc_none, hez, hwkl, hdx, hq3, hkl0] <;> rfl) ?_
           refine al_splitT 96 (by first | rfl | (simp [go_sem, enc_none, hez, hwkl, hdx, hq3, hkl0] <;> rfl)) (fun h40 => ?_) (fun h40 => ?_)
           ·refine al_fnG 96 true true (by simp [go_sem]) rfl (by simp [go_sem]) rfl rfl (by simp [go_sem, enc_none, hez, hwkl, hdx, hq3, hkl0] <;> rfl) call22 (c_alive σ hσ) (by simp [go_sem, enc_none, hez, hwkl, hdx, hq3, hkl0] <;> rfl) (by simp [go_sem, enc_none, hez, hwkl, hdx, hq3, hkl0]) rfl rfl ?_
            refine aL 2 (by simp [go_sem, enc_none, hez, hwkl, hdx, hq3, hkl0] <;> rfl) ?_
            refine al_nil ?_
            refine awp_ret ?_
            refine then_ret ?_
            refine ends_ret (by simp [go_sem, enc_none, hez, hwkl, hdx, hq3, hkl0] <;> rfl) (by simp [go_sem]) ?_
            exact ⟨by simp [go_sem], by simp [go_sem]⟩
           ·first | (cases h40; done) | (simp at h40; done)
          ·first | (cases h39; done) | (simp at h39; done)
        ·have hq0 : q = 0 := by simpa using h36
         obtain ⟨hkb, heb, hsb⟩ := lift_fine hz (by rw [← hq]; exact h36)
         rw [← hb] at hkb heb hsb
         have hE2 : Pur Tryz.prog (GL kr) 34 [.pv (enc b)] (.tuple [.pv (enc x), .pv (.int .i64 0)]) := by have h := c_mErase (kr := kr) b (by omega); unfold merase at h; rw [hkb, heb] at h; exact h
         refine awp_skip ?_
         refine awp_seq (awp_reg ?_)
         refine aL 1 (by simp [go_sem, enc_none, hez, hwkl, hdx, hq0] <;> rfl) ?_
         refine aF call34 ((hE2) _ (by exact hgl)) (by simp [go_sem, enc_none, hez, hwkl, hdx, hq0] <;> rfl) (by simp [go_sem, enc_none, hez, hwkl, hdx, hq0]) ?_
         refine aL 6 (by simp [go_sem, enc_none, hez, hwkl, hdx, hq0] <;> rfl) ?_
         refine al_nil ?_
         refine awp_seq (awp_reg ?_)
         refine aL 3 (by simp [go_sem, enc_none, hez, hwkl, hdx, hq0] <;> rfl) ?_
         refine al_splitT 106 (by first | rfl | (simp [go_sem, enc_none, hez, hwkl, hdx, hq0] <;> rfl)) (fun h41 => ?_) (fun h41 => ?_)
         ·refine aLG 2 106 true (by simp [go_sem, enc_none, hez, hwkl, hdx, hq0] <;> rfl) ?_
          refine al_fnG 106 true true (by simp [go_sem]) rfl (by simp [go_sem]) rfl rfl (by simp [go_sem, enc_none, hez, hwkl, hdx, hq0] <;> rfl) call35 ((c_Same x (by omega) x) _ (by exact hgl)) (by simp [go_sem, enc_none, hez, hwkl, hdx, hq0] <;> rfl) (by simp [go_sem, enc_none, hez, hwkl, hdx, hq0]) rfl rfl ?_
          refine aL 2 (by simp [go_sem, enc_none, hez, hwkl, hdx, hq0] <;> rfl) ?_
          refine al_splitT 111 (by first | rfl | (simp [go_sem, enc_none, hez, hwkl, hdx, hq0] <;> rfl)) (fun h42 => ?_) (fun h42 => ?_)
          ·refine al_fnG 111 true true (by simp [go_sem]) rfl (by simp [go_sem]) rfl rfl (by simp [go_sem, enc_none, hez, hwkl, hdx, hq0] <;> rfl) call22 (c_alive σ hσ) (by simp [go_sem, enc_none, hez, hwkl, hdx, hq0] <;> rfl) (by simp [go_sem, enc_none, hez, hwkl, hdx, hq0]) rfl rfl ?_
           refine aL 2 (by simp [go_sem, enc_none, hez, hwkl, hdx, hq0] <;> rfl) ?_
           refine al_nil ?_
           refine awp_ret ?_
           refine ends_ret (by simp [go_sem, enc_none, hez, hwkl, hdx, hq0] <;> rfl) (by simp [go_sem]) ?_
           exact ⟨by simp [go_sem], by simp [go_sem]⟩
          ·first | (cases h42; done) | (simp at h42; done)
         ·first | (cases h41; done) | (simp at h41; done)
      ·refine aK 2 60 true ?_
       refine aLG 2 57 false (by simp [go_sem, enc_none, hez, hwkl, hdx] <;> rfl) ?_
       refine aK 4 64 true ?_
       refine aLG 1 57 false (by simp [go_sem, enc_none, hez, hwkl, hdx] <;> rfl) ?_
       refine aL 1 (by simp [go_sem, enc_none, hez, hwkl, hdx] <;> rfl) ?_
       refine al_nil ?_
       refine awp_cond (b := false) (by simp [go_sem, enc_none, hez, hwkl, hdx, h20, h22, h23, h24, h25, h26]) (fun h => ?_) (fun h => ?_)
       ·cases h
       refine awp_skip ?_
       refine awp_seq (awp_reg ?_)
       refine aL 1 (by simp [go_sem, enc_none, hez, hwkl, hdx] <;> rfl) ?_
       refine aF call16 ((hLi) _ (by exact hgl)) (by simp [go_sem, enc_none, hez, hwkl, hdx] <;> rfl) (by simp [go_sem, enc_none, hez, hwkl, hdx]) ?_
       refine aL 6 (by simp [go_sem, enc_none, hez, hwkl, hdx] <;> rfl) ?_
       refine al_nil ?_
       refine awp_seq (awp_seq (aR (by simp [go_sem, enc_none, hez, hwkl, hdx] <;> rfl) ?_))
       refine awp_cond (by first | rfl | (simp [go_sem, enc_none, hez, hwkl, hdx] <;> rfl)) (fun h43 => ?_) (fun h43 => ?_)
       ·have hor := lift_or hz (by rw [← hq]; exact h43)
        rw [← hk, ← hl, ← hq] at hor
        refine awp_seq (awp_reg ?_)
        refine aL 3 (by simp [go_sem, enc_none, hez, hwkl, hdx] <;> rfl) ?_
        refine al_splitT 80 (by first | rfl | (simp [go_sem, enc_none, hez, hwkl, hdx] <;> rfl)) (fun h44 => ?_) (fun h44 => ?_)
        ·have h13 : q = 13 := by simpa using h44
         have hpos : decide (0 < (k : Int) + (l : Int)) = true := hor.elim (fun h => decide_eq_true (by omega)) (fun h => absurd h.1 (by omega))
         refine aLG 4 80 true (by simp [go_sem, enc_none, hez, hwkl, hdx, h13, hpos] <;> rfl) ?_
         refine aL 2 (by simp [go_sem, enc_none, hez, hwkl, hdx, h13, hpos] <;> rfl) ?_
         refine al_splitT 86 (by first | rfl | (simp [go_sem, enc_none, hez, hwkl, hdx, h13, hpos] <;> rfl)) (fun h45 => ?_) (fun h45 => ?_)
         ·refine aK 3 86 false ?_
          refine aK 4 89 true ?_
          refine aK 1 86 false ?_
          refine aL 2 (by simp [go_sem, enc_none, hez, hwkl, hdx, h13, hpos] <;> rfl) ?_
          refine al_fnG 96 true true (by simp [go_sem]) rfl (by simp [go_sem]) rfl rfl (by simp [go_sem, enc_none, hez, hwkl, hdx, h13, hpos] <;> rfl) call22 (c_alive σ hσ) (by simp [go_sem, enc_none, hez, hwkl, hdx, h13, hpos] <;> rfl) (by simp [go_sem, enc_none, hez, hwkl, hdx, h13, hpos]) rfl rfl ?_
          refine aL 2 (by simp [go_sem, enc_none, hez, hwkl, hdx, h13, hpos] <;> rfl) ?_
          refine al_nil ?_
          refine awp_ret ?_
          refine then_ret ?_
          refine ends_ret (by simp [go_sem, enc_none, hez, hwkl, hdx, h13, hpos] <;> rfl) (by simp [go_sem]) ?_
          exact ⟨by simp [go_sem], by simp [go_sem]⟩
         ·first | (cases h45; done) | (simp at h45; done)
        ·have h13 : ¬ q = 13 := by simpa using h44
         have hq3 : q = 3 := hor.elim (fun h => absurd h.1 h13) (fun h => h.1)
         have hkl0 : (k : Int) + (l : Int) = 0 := hor.elim (fun h => absurd h.1 h13) (fun h => by omega)
         refine aK 4 80 true ?_
         refine aL 2 (by simp [go_sem, enc_none, hez, hwkl, hdx, hq3, hkl0] <;> rfl) ?_
         refine aLG 3 86 false (by simp [go_sem, enc_none, hez, hwkl, hdx, hq3, hkl0] <;> rfl) ?_
         refine al_splitT 89 (by first | rfl | (simp [go_sem, enc_none, hez, hwkl, hdx, hq3, hkl0] <;> rfl)) (fun h46 => ?_) (fun h46 => ?_)
         ·refine aLG 4 89 true (by simp [go_sem, enc_none, hez, hwkl, hdx, hq3, hkl0] <;> rfl) ?_
          refine aLG 1 86 false (by simp [go_sem, enc_none, hez, hwkl, hdx, hq3, hkl0] <;> rfl) ?_
          refine aL 2 (by simp [go_sem, enc_none, hez, hwkl, hdx, hq3, hkl0] <;> rfl) ?_
          refine al_splitT 96 (by first | rfl | (simp [go_sem, enc_none, hez, hwkl, hdx, hq3, hkl0] <;> rfl)) (fun h47 => ?_) (fun h47 => ?_)
          ·refine al_fnG 96 true true (by simp [go_sem]) rfl (by simp [go_sem]) rfl rfl (by simp [go_sem, enc_none, hez, hwkl, hdx, hq3, hkl0] <;> rfl) call22 (c_alive σ hσ) (by simp [go_sem, enc_none, hez, hwkl, hdx, hq3, hkl0] <;> rfl) (by simp [go_sem, enc_none, hez, hwkl, hdx, hq3, hkl0]) rfl rfl ?_
           refine aL 2 (by simp [go_sem, enc_none, hez, hwkl, hdx, hq3, hkl0] <;> rfl) ?_
           refine al_nil ?_
           refine awp_ret ?_
           refine then_ret ?_
           refine ends_ret (by simp [go_sem, enc_none, hez, hwkl, hdx, hq3, hkl0] <;> rfl) (by simp [go_sem]) ?_
           exact ⟨by simp [go_sem], by simp [go_sem]⟩
          ·first | (cases h47; done) | (simp at h47; done)
         ·first | (cases h46; done) | (simp at h46; done)
       ·have hq0 : q = 0 := by simpa using h43
        obtain ⟨hkb, heb, hsb⟩ := lift_fine hz (by rw [← hq]; exact h43)
        rw [← hb] at hkb heb hsb
        have hE2 : Pur Tryz.prog (GL kr) 34 [.pv (enc b)] (.tuple [.pv (enc x), .pv (.int .i64 0)]) := by have h := c_mErase (kr := kr) b (by omega); unfold merase at h; rw [hkb, heb] at h; exact h
        refine awp_skip ?_
        refine awp_seq (awp_reg ?_)
        refine aL 1 (by simp [go_sem, enc_none, hez, hwkl, hdx, hq0] <;> rfl) ?_
        refine aF call34 ((hE2) _ (by exact hgl)) (by simp [go_sem, enc_none, hez, hwkl, hdx, hq0] <;> rfl) (by simp [go_sem, enc_none, hez, hwkl, hdx, hq0]) ?_
        refine aL 6 (by simp [go_sem, enc_none, hez, hwkl, hdx, hq0] <;> rfl) ?_
        refine al_nil ?_
        refine awp_seq (awp_reg ?_)
        refine aL 3 (by simp [go_sem, enc_none, hez, hwkl, hdx, hq0] <;> rfl) ?_
        refine al_splitT 106 (by first | rfl | (simp [go_sem, enc_none, hez, hwkl, hdx, hq0] <;> rfl)) (fun h48 => ?_) (fun h48 => ?_)
        ·refine aLG 2 106 true (by simp [go_sem, enc_none, hez, hwkl, hdx, hq0] <;> rfl) ?_
         refine al_fnG 106 true true (by simp [go_sem]) rfl (by simp [go_sem]) rfl rfl (by simp [go_sem, enc_none, hez, hwkl, hdx, hq0] <;> rfl) call35 ((c_Same x (by omega) x) _ (by exact hgl)) (by simp [go_sem, enc_none, hez, hwkl, hdx, hq0] <;> rfl) (by simp [go_sem, enc_none, hez, hwkl, hdx, hq0]) rfl rfl ?_
         refine aL 2 (by simp [go_sem, enc_none, hez, hwkl, hdx, hq0] <;> rfl) ?_
         refine al_splitT 111 (by first | rfl | (simp [go_sem, enc_none, hez, hwkl, hdx, hq0] <;> rfl)) (fun h49 => ?_) (fun h49 => ?_)
         ·refine al_fnG 111 true true (by simp [go_sem]) rfl (by simp [go_sem]) rfl rfl (by simp [go_sem, enc_none, hez, hwkl, hdx, hq0] <;> rfl) call22 (c_alive σ hσ) (by simp [go_sem, enc_none, hez, hwkl, hdx, hq0] <;> rfl) (by simp [go_sem, enc_none, hez, hwkl, hdx, hq0]) rfl rfl ?_
          refine aL 2 (by simp [go_sem, enc_none, hez, hwkl, hdx, hq0] <;> rfl) ?_
          refine al_nil ?_
          refine awp_ret ?_
          refine ends_ret (by simp [go_sem, enc_none, hez, hwkl, hdx, hq0] <;> rfl) (by simp [go_sem]) ?_
          exact ⟨by simp [go_sem], by simp [go_sem]⟩
         ·first | (cases h49; done) | (simp at h49; done)
        ·first | (cases h48; done) | (simp at h48; done)

end Go.Proofs.YtmpofjiokpeegaaGreatDoor

/- The laid tables and the data of this seat, as abstract values. -/
namespace Go.Proofs.YtmpofjiokpeegaaGreatDoor
open Go Go.Aw
variable {kr : KR}
theorem dty : DatumTy Tryz.prog 24 22 3 2 9 :=
  { und := ⟨_, _, _, _, Tryz.underlying24, rfl, rfl, rfl, rfl, rfl, rfl, rfl, rfl⟩, i := Tryz.underlying3, n := Tryz.underlying2, s := Tryz.underlying9, k := Tryz.underlying22, cD := by kernel_rfl, ci := by kernel_rfl, cn := by kernel_rfl, cs := by kernel_rfl, ck := by kernel_rfl }
theorem gShapes : Tryz.prog.globalNamed "pagoda/multi.shapes" = some 0 := by kernel_rfl
theorem gPrim : Tryz.prog.globalNamed "pagoda/prim.names" = some 1 := by kernel_rfl
theorem gRange : Tryz.prog.globalNamed "strconv.ErrRange" = some 3 := by kernel_rfl
theorem gSyntax : Tryz.prog.globalNamed "strconv.ErrSyntax" = some 2 := by kernel_rfl
theorem tShapes : (Tryz.prog.globals[0]?).map (·.type) = some 131 := by kernel_rfl
theorem tPrim : (Tryz.prog.globals[1]?).map (·.type) = some 180 := by kernel_rfl
theorem tPow : (Tryz.prog.globals[4]?).map (·.type) = some 237 := by kernel_rfl
theorem tRange : (Tryz.prog.globals[3]?).map (·.type) = some 153 := by kernel_rfl
theorem tSyntax : (Tryz.prog.globals[2]?).map (·.type) = some 153 := by kernel_rfl
theorem rows_pow : (Rows.laid_internal_strconv_uint64pow10 : DataW Unit) = Lib.tabData .u64 Lib.pow10Tab := by kernel_rfl
theorem rows_range : (Rows.laid_strconv_ErrRange : DataW Unit) = .iface "*errors.errorString" (.ptr (.agg [.lit (.string [118, 97, 108, 117, 101, 32, 111, 117, 116, 32, 111, 102, 32, 114, 97, 110, 103, 101])])) := rfl
theorem rows_syntax : (Rows.laid_strconv_ErrSyntax : DataW Unit) = .iface "*errors.errorString" (.ptr (.agg [.lit (.string [105, 110, 118, 97, 108, 105, 100, 32, 115, 121, 110, 116, 97, 120])])) := rfl
def shS : List (List UInt8 × (Nat × Nat)) := [([97, 112, 112], (0, 3)), ([102, 110], (2, 4)), ([105, 102], (0, 4)), ([108, 101, 116], (1, 4)), ([108, 105, 102, 116], (0, 2)), ([113, 117, 111, 116, 101], (0, 2)), ([114, 117, 110], (0, 3)), ([115, 97, 121], (0, 2))]
theorem rows_shapes : (Rows.laid_pagoda_multi_shapes : DataW Unit) = .map (shS.map datSh) := by kernel_rfl
theorem shS_perm : shS.Perm shapesB := List.isPerm_iff.1 (by kernel_rfl)
theorem err_row (u : TypeId) (hu : Tryz.prog.typeName? 3 u = some "*errors.errorString") : u = 244 :=
  typeName_ptr_named (nm := "errors.errorString") (by kernel_rfl) (by kernel_rfl) (by decide +kernel) u hu
set_option maxRecDepth 100000 in
/-- What the row's listed variables are when the call begins. -/
theorem of_laid {W : World} (h : laidMetH Tryz.prog [("math/bits.deBruijn32tab", Rows.laid_math_bits_deBruijn32tab), ("math/bits.deBruijn64tab", Rows.laid_math_bits_deBruijn64tab), ("internal/strconv.uint64pow10", Rows.laid_internal_strconv_uint64pow10), ("strconv.ErrRange", Rows.laid_strconv_ErrRange), ("strconv.ErrSyntax", Rows.laid_strconv_ErrSyntax), ("pagoda/prim.names", Rows.laid_pagoda_prim_names), ("pagoda/multi.shapes", Rows.laid_pagoda_multi_shapes)] W) :
    ∃ kr : ShO, ∀ n p, (n, p) ∈ (GL kr) → RP W.heap.size (fun _ _ => False) W p (.pointer (some ⟨n, 0, none⟩)) := by
  rw [MakeChecks.laidMetH_plain _ _ _ (by kernel_rfl)] at h
  obtain ⟨ps, ⟨_, _, _, _, _, q6, _, _, _, _, ⟨_, _, _, _, _, q5, _, _, _, _, ⟨g2, t2, cs2, f2, p2, q2, hg2, ht2, hv2, hd2, ⟨g3, t3, cs3, f3, p3, q3, hg3, ht3, hv3, hd3, ⟨g4, t4, cs4, f4, p4, q4, hg4, ht4, hv4, hd4, ⟨g1, t1, cs1, f1, p1, q1, hg1, ht1, hv1, hd1, ⟨g0, t0, cs0, f0, p0, q0, hg0, ht0, hv0, hd0, _, _⟩, _⟩, e4⟩, e3⟩, e2⟩, e5⟩, e6⟩, _, hz⟩ := h
  obtain rfl := Option.some.inj (gShapes.symm.trans hg0)
  obtain rfl := Option.some.inj (gPrim.symm.trans hg1)
  obtain rfl := Option.some.inj (gPow.symm.trans hg2)
  obtain rfl := Option.some.inj (gRange.symm.trans hg3)
  obtain rfl := Option.some.inj (gSyntax.symm.trans hg4)
  obtain rfl := Option.some.inj (tShapes.symm.trans ht0)
  obtain rfl := Option.some.inj (tPrim.symm.trans ht1)
  obtain rfl := Option.some.inj (tPow.symm.trans ht2)
  obtain rfl := Option.some.inj (tRange.symm.trans ht3)
  obtain rfl := Option.some.inj (tSyntax.symm.trans ht4)
  rw [rows_shapes] at hd0
  obtain ⟨b, kr, hc0, hrp0⟩ := open_shapes (S := fun _ _ => False) Tryz.underlying131 Tryz.underlying9 Tryz.underlying130 Tryz.underlying3 Tryz.underlying3 rfl rfl (by kernel_rfl) (by kernel_rfl) (by kernel_rfl) hd0 shS_perm
  obtain ⟨v, hc1, hone, hrp1⟩ := open_table (S := fun _ _ => False) (L := primNames) Tryz.underlying180 Tryz.underlying181 Tryz.underlying9 Tryz.underlying3 rfl rfl (by kernel_rfl) (by kernel_rfl) (by kernel_rfl) hd1
  rw [rows_pow] at hd2
  have hc2 := Lib.cells_of_tab Tryz.underlying237 Tryz.underlying193 (by kernel_rfl) (by kernel_rfl) hd2
  have hblk : ∃ e c, W.heap[(4 : Nat)]? = some (.cells (Lib.pow10Tab.map (Value.int .u64)).toArray e c) := by
    simp only [World.var?, gPow, Option.bind_some] at hv2
    split at hv2
    · rename_i cs e c hh
      cases hv2
      refine ⟨e, c, ?_⟩
      rw [hh, ← Array.toArray_toList (xs := cs2), hc2]
    · cases hv2
  obtain ⟨e2', c2, hblk⟩ := hblk
  have hcell0 : W.cell? ⟨0, 0, none⟩ = some (.map (some b)) := by
    have := World.var?_cell hg0 hv0 0
    rw [Array.eq_one_of_toList hc0] at this
    simpa using this
  have hcell1 : W.cell? ⟨1, 0, none⟩ = some v := by
    have := World.var?_cell hg1 hv1 0
    rw [Array.eq_one_of_toList hc1] at this
    simpa using this
  have hi3 : ∀ u v, cs3.toList = [.iface u v] → W.cell? ⟨3, 0, none⟩ = some (.iface u v) := fun u v hh => by
    have := World.var?_cell hg3 hv3 0
    rw [Array.eq_one_of_toList hh] at this
    simpa using this
  have hi4 : ∀ u v, cs4.toList = [.iface u v] → W.cell? ⟨2, 0, none⟩ = some (.iface u v) := fun u v hh => by
    have := World.var?_cell hg4 hv4 0
    rw [Array.eq_one_of_toList hh] at this
    simpa using this
  have hm3 : ∀ u v, cs3.toList = [.iface u v] → MemPlace.cell 3 0 ∈ ps := fun u v hh => by
    have hs : cs3.size = 1 := by rw [Array.eq_one_of_toList hh]; rfl
    rw [e6, e5, e2, e3, hs]
    simp [MemPlace.row]
  have hm4 : ∀ u v, cs4.toList = [.iface u v] → MemPlace.cell 2 0 ∈ ps := fun u v hh => by
    have hs : cs4.size = 1 := by rw [Array.eq_one_of_toList hh]; rfl
    rw [e6, e5, e2, e3, e4, hs]
    simp [MemPlace.row]
  rw [rows_range] at hd3
  rw [rows_syntax] at hd4
  have ok3 : ∀ u v, cs3.toList = [.iface u v] → Value.okWide Tryz.prog W .any 0 u v := by
    intro u v hh
    have hzz := hz 3 0 (hm3 u v hh)
    obtain ⟨_, hzy⟩ := hzz
    exact hzy u v (hi3 u v hh)
  obtain ⟨a3, s3, hc3, ha3, _⟩ := errorString_of_trod Tryz.underlying153 err_row Tryz.underlying244 Tryz.underlying246 rfl rfl Tryz.underlying9 (by kernel_rfl) (by kernel_rfl) hd3 ok3
  have ok4 : ∀ u v, cs4.toList = [.iface u v] → Value.okWide Tryz.prog W .any 0 u v := by
    intro u v hh
    have hzz := hz 2 0 (hm4 u v hh)
    obtain ⟨_, hzy⟩ := hzz
    exact hzy u v (hi4 u v hh)
  obtain ⟨a4, s4, hc4, ha4, _⟩ := errorString_of_trod Tryz.underlying153 err_row Tryz.underlying244 Tryz.underlying246 rfl rfl Tryz.underlying9 (by kernel_rfl) (by kernel_rfl) hd4 ok4
  have hcell3 := hi3 _ _ hc3
  have hcell4 := hi4 _ _ hc4
  refine ⟨kr, fun n p hm => ?_⟩
  simp only [GL, List.cons_append, List.nil_append, List.mem_cons, Prod.mk.injEq, List.not_mem_nil, or_false] at hm
  rcases hm with ⟨rfl, rfl⟩ | ⟨rfl, rfl⟩ | ⟨rfl, rfl⟩ | ⟨rfl, rfl⟩ | ⟨rfl, rfl⟩
  · exact rp_var (cell_lt hcell0) hcell0 rfl hrp0
  · rw [primV_of] at hrp1
    exact rp_var (cell_lt hcell1) hcell1 hone hrp1
  · refine RP.tab ?_ hblk
    by_cases hlt : 4 < W.heap.size
    · exact hlt
    · rw [Array.getElem?_eq_none (by show W.heap.size ≤ _; omega)] at hblk; cases hblk
  all_goals first | exact rp_error (cell_lt hcell3) hcell3 ha3 | exact rp_error (cell_lt hcell4) hcell4 ha4

end Go.Proofs.YtmpofjiokpeegaaGreatDoor

/- MultiLevels: for every datum the law returns true, and it reads as it did. -/
namespace Go.Proofs.YtmpofjiokpeegaaGreatDoor
open Go Go.Aw
variable {kr : KR}
open Go.ChangeShapes Go.WideShapes Go.ChangeAt Go.WideMaps Go.WideElems Go.RowKit
theorem own : ownKnob Tryz.prog.godebug = none := by kernel_rfl
theorem laidOut : laidOutB Tryz.prog = true := by kernel_rfl
theorem door_met (os : Os) (args : Array Value) : laidMetH Tryz.prog Rows.multiLevelsRow.laid ((World.doorLaid Tryz.prog 136 os).forCall (fun _ _ => 0) ⟨#[], args, []⟩).memory :=
  laidMetH_of_parts3 (fuel := 8) (laidMet_of_run' 8 (by kernel_rfl) (by kernel_rfl)) (by kernel_rfl) (by kernel_rfl)
/-- The call, as the machine makes it. -/
theorem multiLevels_calls {W : World} (hL : laidMetH Tryz.prog Rows.multiLevelsRow.laid W) {v0 : Value} {d0 : D} (h0 : RP W.heap.size (fun _ _ => False) W (enc d0) v0) :
    Calls Tryz.prog 6 #[v0] W fun r W' => r = .returned (.bool true) ∧ Below W.heap.size W W' := by
  obtain ⟨kr, hg⟩ := of_laid hL
  refine (c_MultiLevels (kr := kr) d0 ⟨(GL kr), [], []⟩ rfl (g0 W) W [v0] (inv0 hg) rfl (fun i x v hx hv => ?_)).mono ?_
  · match i with
    | 0 => simp at hx hv; subst hx hv; exact .pv h0
    | i + 1 => simp at hx
  · rintro r W' ⟨v, x, σ', g', rfl, ⟨rfl, rfl⟩, _, hext, hra⟩
    rw [hra.pv_inv.bool_inv]
    exact ⟨rfl, below_of hext⟩
abbrev zeroDatum : Value := .agg #[.int .i64 0, .int .i64 0, .string ⟨#[]⟩, .slice none 0 0]
set_option maxRecDepth 100000 in
theorem multiLevels_lifted (os : Os) (started : os.Started) (H : Type) (enc' : TypeId × Value → H) :
    ReturnsInHanded {} Tryz.checked os 6 .any (fun w args => (Rows.multiLevelsSpec.pre enc' Tryz.prog Tryz.f6 [] false w args ∧ laidMetH Tryz.prog Rows.multiLevelsRow.laid w) ∧ sizedMet enc' Tryz.prog Tryz.f6 (OpenSpec.ofChange Rows.multiLevelsSpec) false w args)
      (Rows.multiLevelsSpec.post enc' Tryz.prog Tryz.f6 false true false false) := by
  refine returnsInHanded_of_change_and (C := Tryz.checked) (X := fun w _ => laidMetH Tryz.prog Rows.multiLevelsRow.laid w) (fun _ _ _ hh h => h.of_heap hh) own started (by kernel_rfl) Tryz.func6
    (ChangeSpec.witness_shaped (enc := enc') (C := Tryz.checked) (os := os) (X := fun w _ => laidMetH Tryz.prog Rows.multiLevelsRow.laid w) false (World.doorLaid Tryz.prog 136 os) #[zeroDatum] 8 rfl (World.shaped_of_RefB (by kernel_rfl) (by kernel_rfl)) (by kernel_rfl) (by kernel_rfl) (by kernel_rfl) (door_met os _)) ?_
  intro W base args ds gs before hval0 hW _ _ hL _
  have hW' := hW
  obtain ⟨p, q, hA0, hV, rfl, hfz, hnd⟩ := hW
  have hA : DataW.TrodAll enc' Tryz.prog W 0 (fun _ => true) true Tryz.f6.params.toList args.toList ds p := hA0
  rw [Tryz.params6] at hA
  obtain ⟨v0, x0, rfl, rfl, h0⟩ := trodAll_one hA
  obtain ⟨rfl, rfl⟩ := trodVars_none hV
  clear hA0
  simp only [List.append_nil] at hW'
  obtain ⟨n0, t0⟩ := id h0
  obtain ⟨e0, u0, hc0, ho0, hr0⟩ := open_datum (S := fun _ _ => False) dty n0 _ _ t0
  have hv0 := open_agg hc0
  clear hval0
  have hlt := hW'.lt
  refine (multiLevels_calls hL (hv0 ▸ rp_datum ho0 hr0)).mono fun r W' ⟨hr, hb⟩ => ?_
  subst hr
  exact ⟨_, rfl, post_of_below (pa := p) (pv := []) hW' (fun _ _ _ => trodAll_mk1 (shut_bool Tryz.underlying4 true))
    (fun sp hs => trodAll_mk1 (Trod_stays laidOut (by kernel_rfl) (of_decide_eq_true (by kernel_rfl)) h0 (fun x hx => hb.same (hlt x (by simp [hx]))) (fun x hx => hs x (by simp [hx]))))
    (fun _ _ => rfl) (by simp) hb (ok_one (by kernel_rfl) rfl (okWide_bool_mk Tryz.underlying4 _))⟩
theorem multiLevels_holds : Rows.MultiLevelsSaid :=
  OpenClaim.holds_of_wide 6 Tryz.f6 rfl rfl rfl rfl rfl rfl rfl ⟨rfl, rfl, rfl, rfl, rfl⟩ rfl rfl rfl rfl rfl (by kernel_rfl) Tryz.func6 (by kernel_rfl)
    (of_decide_eq_true (by kernel_rfl)) (by unfold Func.isWrapper; rw [if_neg (by decide +kernel)]; exact ⟨rfl, rfl⟩)
    (fun os started H enc _ => multiLevels_lifted os started H enc)
/-- The tied card. -/
theorem multiLevelsCard_holds : Rows.MultiLevelsCardSaid :=
  Claim7.holds_tied_plain_at .later [] [.data, .data, .data, .sentinel, .sentinel, .data, .mapped] true (true, "276281381aeeddcbf331b1d3fd2842c84a196ad6d3eeb788474b70cc62e3ca80") true
    multiLevels_holds (fun _ h => by cases h) (by kernel_rfl) (fun _ h => by cases h) multiLevels_row_tie rfl ⟨rfl, rfl⟩ (by kernel_rfl) rfl
    (fun f fn hf hfn => by
      obtain rfl : f = 6 := Option.some.inj ((show Tryz.prog.funcNamed "pagoda/pagodalaw25.MultiLevels" = some 6 by kernel_rfl).symm.trans hf) |>.symm
      obtain rfl : fn = Tryz.f6 := (Option.some.inj (Tryz.func6.symm.trans hfn)).symm
      exact ⟨by kernel_rfl, fun j t ht => by
        rw [Tryz.params6] at ht
        rcases j with _ | j
        · obtain rfl : 24 = t := by simpa using ht
          exact (show Tryz.prog.wantsStandIn 24 = false by kernel_rfl)
        · simp at ht⟩)
    (by kernel_rfl)
end Go.Proofs.YtmpofjiokpeegaaGreatDoor
