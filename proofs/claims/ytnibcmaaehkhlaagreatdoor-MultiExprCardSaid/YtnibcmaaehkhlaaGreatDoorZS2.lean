/- Part of the proof that the statement holds for every input that its row lets in: the contracts of the program's functions, printed by a program out of annotations; the statement itself stands at the end of the last part. -/
import Derived.Test.YtnibcmaaehkhlaaGreatDoorZS1
import Derived.Test.YtnibcmaaehkhlaaGreatDoorZA3
import Derived.Test.YtnibcmaaehkhlaaGreatDoorZA4
import Derived.Shelf.Spec.SlicesGrow
set_option linter.unusedSimpArgs false
set_option linter.unusedVariables false
namespace Go.Proofs.YtnibcmaaehkhlaaGreatDoor
open Go Go.Aw
variable {kr : KR}
set_option maxHeartbeats 1000000 in
theorem c_mapped (d : D) : ∀ (hg : GoodM d) (hd : d.size ≤ 1000000000) (f : FuncId) (hc : Callable Tryz.prog f) (φ : D → D) (σ : Store) (hgl : σ.gl = (GL kr)) (hf : ∀ x τ, τ.gl = (GL kr) → okF x → PurAt Tryz.prog τ f [.pv (enc x)] (.pv (enc (φ x)))), PurAt Tryz.prog σ 155 [.pv (enc d), .func (.func f) []] (.pv (enc (mmap φ d))) := by
 induction d using D.ind with
 | _ kind num text kids ih =>
 generalize hD : D.mk kind num text kids = d at *
 have hk : d.kids = kids := by rw [← hD]; rfl
 clear hD
 subst hk
 have hkl := D.kids_length_lt d
 have hil := inner_len d
 have hls := fun (s : St) (x : ByteArray) (ok : Bool) => look_sh (S := kr) (ty := ty) (s := s) (t := 222) (x := x) (ok := ok) rfl rfl rfl rfl rfl rfl rfl
 intro hg hd f hc φ σ hgl hf
 refine purAt_of ?_
 have hgs : lookupG σ.gl 1 = some (.ptr [.map (shK kr) (shV kr)]) := by rw [hgl]; exact gl_sh
 refine acalls_of tyOk Tryz.func155 rfl (by simp [Tryz.f155]) ?_
 refine awp_seq (aR (by simp [go_sem, hgs, hls, encSh, okAV] <;> rfl) ?_)
 refine awp_seq (awp_seq (awp_reg ?_))
 refine aL 4 (by simp [go_sem, hgs, hls, encSh, okAV] <;> rfl) ?_
 refine al_splitT 14 (by first | rfl | (simp [go_sem, hgs, hls, encSh, okAV] <;> rfl)) (fun h0 => ?_) (fun h0 => ?_)
 ·refine aK 6 14 false ?_
  refine aL 1 (by simp [go_sem, hgs, hls, encSh, okAV] <;> rfl) ?_
  refine al_nil ?_
  refine awp_cond (b := true) (by simp [go_sem, hgs, hls, encSh, okAV, h0]) (fun h => ?_) (fun h => ?_)
  rotate_left
  ·cases h
  refine awp_seq (awp_reg ?_)
  refine aL 2 (by simp [go_sem, hgs, hls, encSh, okAV] <;> rfl) ?_
  refine al_fn rfl rfl rfl (by simp [go_sem, hgs, hls, encSh, okAV] <;> rfl) hc (hf d _ (by exact hgl) hg.okF) (by simp [go_sem, hgs, hls, encSh, okAV] <;> rfl) (by simp [go_sem, hgs, hls, encSh, okAV]) rfl rfl ?_
  refine aL 1 (by simp [go_sem, hgs, hls, encSh, okAV] <;> rfl) ?_
  refine al_nil ?_
  refine awp_ret ?_
  refine then_ret ?_
  have hM : mmap φ d = φ d := by rw [mmap_eq, if_pos h0]
  refine ends_ret (by simp [go_sem] <;> rfl) (by simp [go_sem]) ?_
  exact ⟨by simp [go_sem, hM], by simp [go_sem]⟩
 ·have hk3 : d.kind = 3 := by simpa using h0
  obtain ⟨x0, r, hks⟩ := kids_cons (hg.ne hk3)
  have hx0 : d.kids[0]? = some x0 := by rw [hks]; rfl
  have hh := head_cons hks
  refine aLG 6 14 false (by simp [go_sem, hgs, hls, encSh, okAV, hx0] <;> rfl) ?_
  refine aL 1 (by simp [go_sem, hgs, hls, encSh, okAV, hx0] <;> rfl) ?_
  refine al_nil ?_
  refine awp_cond (by first | rfl | (simp [go_sem, hgs, hls, encSh, okAV, hx0] <;> rfl)) (fun h1 => ?_) (fun h1 => ?_)
  ·refine awp_seq ?_
   refine awp_reg ?_
   refine aL 2 (by simp [go_sem, hgs, hls, encSh, okAV, hx0] <;> rfl) ?_
   refine al_fn rfl rfl rfl (by simp [go_sem, hgs, hls, encSh, okAV, hx0] <;> rfl) hc (hf d _ (by exact hgl) hg.okF) (by simp [go_sem, hgs, hls, encSh, okAV, hx0] <;> rfl) (by simp [go_sem, hgs, hls, encSh, okAV, hx0]) rfl rfl ?_
   refine aL 1 (by simp [go_sem, hgs, hls, encSh, okAV, hx0] <;> rfl) ?_
   refine al_nil ?_
   refine awp_ret ?_
   refine then_ret ?_
   have hM : mmap φ d = φ d := by rw [mmap_eq, if_neg (by rw [h0]; decide), if_pos (by rw [hh]; exact h1)]
   refine ends_ret (by simp [go_sem] <;> rfl) (by simp [go_sem]) ?_
   exact ⟨by simp [go_sem, hM], by simp [go_sem]⟩
  ·have hq : d.head.text ≠ sQuote := by rw [hh]; exact of_decide_eq_false h1
   have hsn := hg.n hk3 hq
   have hnm := hg.nms hk3 hq
   have hlen := hg.inner_length hk3 hq
   rw [hh] at hsn hnm hlen
   have hsh : ((shp x0.text).getD (0, 0)).1 = shN x0.text := shN_getD
   have hs2 := shN_le x0.text
   have hwr : IntKind.i64.wrap (1 + (shN x0.text : Int)) = 1 + (shN x0.text : Int) := wrap_id (by omega) (by omega)
   have hle : 1 + (shN x0.text : Int) ≤ d.kids.length := by omega
   have h0le : (0 : Int) ≤ 1 + (shN x0.text : Int) := by omega
   have h1le : (1 : Int) ≤ 1 + (shN x0.text : Int) := by omega
   have htn : (1 + (shN x0.text : Int)).toNat = 1 + shN x0.text := by omega
   obtain ⟨L1, hL1⟩ : ∃ L1, L1 = (d.kids.drop 1).take (shN x0.text) := ⟨_, rfl⟩
   have htk := take_tail enc d.kids (shN x0.text)
   rw [← hL1] at htk
   have hnd := nmsD_head hks
   rw [← hL1] at hnd
   have hl1 : L1.length = shN x0.text := by rw [← hnm, hnd, List.length_map]
   refine awp_skip ?_
   refine awp_seq (aR (by simp [go_sem, hgs, hls, encSh, okAV, hx0, hsh, hwr, hle, h0le, h1le, htn, htk] <;> rfl) ?_)
   refine awp_seq (awp_seq (awp_regDE tyOk tySz (by kernel_rfl) ?_))
   refine ul_run 14 (by simp [go_sem, hgs, hls, encSh, okAV, hx0, hsh, hwr, hle, h0le, h1le, htn, htk] <;> rfl) ?_
   refine ul_nil ?_
   refine awp_adopt' 5 9 1 (by simp [go_sem] <;> rfl) ?_
   refine awp_block ?_
   refine awp_loop_headK σ.objs.length (σ.toks.length + 1) 2 [1, 2, 4, 36, 37] (fun k : Nat => [(5, .acc ((L1.map (PV.str ∘ D.text)).take k) σ.toks.length), (38, .pv (.int .i64 ↑k))]) (fun k => { σ with toks := σ.toks ++ [⟨k, 9, 1⟩] }) (fun k => k ≤ L1.length) (fun k => L1.length - k) 0 (Nat.zero_le _) ⟨by simp [go_sem, hgs, hls, encSh, okAV, hx0, hsh, hwr, hle, h0le, h1le, htn, htk], rfl, by simp, by simp, by simp [go_sem, hgs, hls, encSh, okAV, hx0, hsh, hwr, hle, h0le, h1le, htn, htk], fun ob h => .inl (by simpa [go_sem, hgs, hls, encSh, okAV, hx0, hsh, hwr, hle, h0le, h1le, htn, htk] using h), by simp [go_sem]⟩ ?_
   intro k hk
   refine awp_seq (aR (by simp [go_sem, hgs, hls, encSh, okAV, hx0, hsh, hwr, hle, h0le, h1le, htn, htk] <;> rfl) ?_)
   refine awp_seq (awp_cond (by first | rfl | (simp [go_sem, hgs, hls, encSh, okAV, hx0, hsh, hwr, hle, h0le, h1le, htn, htk] <;> rfl)) (fun h2 => ?_) (fun h2 => ?_))
   ·have hlt : k < L1.length := by simp at h2; omega
    have hw : IntKind.i64.wrap (↑k + 1) = (k : Int) + 1 := wrap_succ (by omega)
    obtain ⟨x, hx, hxm⟩ := get_lt hlt
    have ht : (L1.map (PV.str ∘ D.text)).take (k + 1) = (L1.map (PV.str ∘ D.text)).take k ++ [.str x.text] := take_next (by simp [hx])
    have hm : min k L1.length = k := by omega
    have hb2 : (k + 1) * 16 ≤ 140737488355328 := by omega
    refine awp_skip ?_
    refine awp_seq (awp_block ?_)
    refine awp_seq (aR (by simp [go_sem, hgs, hls, encSh, okAV, hx0, hsh, hwr, hle, h0le, h1le, htn, htk, hx, hm, hb2] <;> rfl) ?_)
    refine aR (by simp [go_sem, hgs, hls, encSh, okAV, hx0, hsh, hwr, hle, h0le, h1le, htn, htk, hx, hm, hb2] <;> rfl) ?_
    refine aR (by simp [go_sem, hgs, hls, encSh, okAV, hx0, hsh, hwr, hle, h0le, h1le, htn, htk, hx, hm, hb2] <;> rfl) ?_
    exact next_intro (k + 1) σ.objs.length (σ.toks.length + 1) 2 (hlt) (by omega) ⟨by simp [go_sem, hgs, hls, encSh, okAV, hx0, hsh, hwr, hle, h0le, h1le, htn, htk, hx, hm, hb2, hw, ht], rfl, by simp, by simp, by simp [go_sem, hgs, hls, encSh, okAV, hx0, hsh, hwr, hle, h0le, h1le, htn, htk, hx, hm, hb2, hw, ht], fun ob h => .inl (by simpa [go_sem, hgs, hls, encSh, okAV, hx0, hsh, hwr, hle, h0le, h1le, htn, htk, hx, hm, hb2, hw, ht] using h), by simp [go_sem]⟩
   ·have hke : k = L1.length := by simp at h2; omega
    subst hke
    refine awp_exit ?_
    refine then_exit ?_
    refine then_exit ?_
    refine inBlock_hit ?_
    refine awp_seq (aR (by simp [go_sem, hgs, hls, encSh, okAV, hx0, hsh, hwr, hle, h0le, h1le, htn, htk] <;> rfl) ?_)
    refine awp_seq (awp_seq (awp_reg ?_))
    refine aL 1 (by simp [go_sem, hgs, hls, encSh, okAV, hx0, hsh, hwr, hle, h0le, h1le, htn, htk] <;> rfl) ?_
    refine aF call149 ((c_Inner d hg.ne hg.n) _ (by exact hgl)) (by simp [go_sem, hgs, hls, encSh, okAV, hx0, hsh, hwr, hle, h0le, h1le, htn, htk] <;> rfl) (by simp [go_sem, hgs, hls, encSh, okAV, hx0, hsh, hwr, hle, h0le, h1le, htn, htk]) ?_
    refine aL 2 (by simp [go_sem, hgs, hls, encSh, okAV, hx0, hsh, hwr, hle, h0le, h1le, htn, htk] <;> rfl) ?_
    refine al_nil ?_
    refine awp_adopt' 8 24 4 (by simp [go_sem] <;> rfl) ?_
    refine awp_block ?_
    refine awp_loop_headK σ.objs.length (σ.toks.length + 2) 2 [1, 2, 4, 5, 49, 50] (fun k : Nat => [(8, .acc (((inner d).map (enc ∘ mmap φ)).take k) (σ.toks.length + 1)), (51, .pv (.int .i64 ↑k))]) (fun k => { σ with toks := σ.toks ++ [⟨L1.length, 9, 1⟩, ⟨k, 24, 4⟩] }) (fun k => k ≤ (inner d).length) (fun k => (inner d).length - k) 0 (Nat.zero_le _) ⟨by simp [go_sem, hgs, hls, encSh, okAV, hx0, hsh, hwr, hle, h0le, h1le, htn, htk], rfl, by simp, by simp, by simp [go_sem, hgs, hls, encSh, okAV, hx0, hsh, hwr, hle, h0le, h1le, htn, htk], fun ob h => .inl (by simpa [go_sem, hgs, hls, encSh, okAV, hx0, hsh, hwr, hle, h0le, h1le, htn, htk] using h), by simp [go_sem]⟩ ?_
    intro k hk
    refine awp_seq (aR (by simp [go_sem, hgs, hls, encSh, okAV, hx0, hsh, hwr, hle, h0le, h1le, htn, htk] <;> rfl) ?_)
    refine awp_seq (awp_cond (by first | rfl | (simp [go_sem, hgs, hls, encSh, okAV, hx0, hsh, hwr, hle, h0le, h1le, htn, htk] <;> rfl)) (fun h3 => ?_) (fun h3 => ?_))
    ·have hlt : k < (inner d).length := by simp at h3; omega
     have hw : IntKind.i64.wrap (↑k + 1) = (k : Int) + 1 := wrap_succ (by omega)
     obtain ⟨x, hx, hxm⟩ := get_lt hlt
     have ht : ((inner d).map (enc ∘ mmap φ)).take (k + 1) = ((inner d).map (enc ∘ mmap φ)).take k ++ [enc (mmap φ x)] := take_next (by simp [hx])
     have hm : min k (inner d).length = k := by omega
     have hb2 : (k + 1) * 56 ≤ 140737488355328 := by omega
     refine awp_skip ?_
     refine awp_seq (awp_block ?_)
     refine awp_seq (aR (by simp [go_sem, hgs, hls, encSh, okAV, hx0, hsh, hwr, hle, h0le, h1le, htn, htk, hx, hm, hb2] <;> rfl) ?_)
     refine awp_reg ?_
     refine aL 3 (by simp [go_sem, hgs, hls, encSh, okAV, hx0, hsh, hwr, hle, h0le, h1le, htn, htk, hx, hm, hb2] <;> rfl) ?_
     refine aF call155 (ih x (inner_mem hxm) (hg.part hxm) (by have := D.size_kid_lt (inner_mem hxm); omega) f hc φ _ (by exact hgl) hf) (by simp [go_sem, hgs, hls, encSh, okAV, hx0, hsh, hwr, hle, h0le, h1le, htn, htk, hx, hm, hb2] <;> rfl) (by simp [go_sem, hgs, hls, encSh, okAV, hx0, hsh, hwr, hle, h0le, h1le, htn, htk, hx, hm, hb2]) ?_
     refine aL 3 (by simp [go_sem, hgs, hls, encSh, okAV, hx0, hsh, hwr, hle, h0le, h1le, htn, htk, hx, hm, hb2] <;> rfl) ?_
     refine al_nil ?_
     refine aR (by simp [go_sem, hgs, hls, encSh, okAV, hx0, hsh, hwr, hle, h0le, h1le, htn, htk, hx, hm, hb2] <;> rfl) ?_
     exact next_intro (k + 1) σ.objs.length (σ.toks.length + 2) 2 (hlt) (by omega) ⟨by simp [go_sem, hgs, hls, encSh, okAV, hx0, hsh, hwr, hle, h0le, h1le, htn, htk, hx, hm, hb2, hw, ht], rfl, by simp, by simp, by simp [go_sem, hgs, hls, encSh, okAV, hx0, hsh, hwr, hle, h0le, h1le, htn, htk, hx, hm, hb2, hw, ht], fun ob h => .inl (by simpa [go_sem, hgs, hls, encSh, okAV, hx0, hsh, hwr, hle, h0le, h1le, htn, htk, hx, hm, hb2, hw, ht] using h), by simp [go_sem]⟩
    ·have hke : k = (inner d).length := by simp at h3; omega
     subst hke
     refine awp_exit ?_
     refine then_exit ?_
     refine then_exit ?_
     refine inBlock_hit ?_
     refine awp_seq (awp_reg ?_)
     refine aL 4 (by simp [go_sem, hgs, hls, encSh, okAV, hx0, hsh, hwr, hle, h0le, h1le, htn, htk] <;> rfl) ?_
     refine aF call225 ((c_with d (hg.ne hk3) (nmsD d) ((inner d).map (mmap φ)) (by rw [hnm]; simp; omega)) _ (by exact hgl)) (by simp [go_sem, hgs, hls, encSh, okAV, hx0, hsh, hwr, hle, h0le, h1le, htn, htk] <;> rfl) (by simp [go_sem, hgs, hls, encSh, okAV, hx0, hsh, hwr, hle, h0le, h1le, htn, htk, hnd]) ?_
     refine al_fn rfl rfl rfl (by simp [go_sem, hgs, hls, encSh, okAV, hx0, hsh, hwr, hle, h0le, h1le, htn, htk] <;> rfl) hc (hf _ _ (by exact hgl) (hg.okF_made hk3 hq (ns := nmsD d) (l := (inner d).map (mmap φ)) (by rw [hnm, hh]) (by simp))) (by simp [go_sem, hgs, hls, encSh, okAV, hx0, hsh, hwr, hle, h0le, h1le, htn, htk] <;> rfl) (by simp [go_sem, hgs, hls, encSh, okAV, hx0, hsh, hwr, hle, h0le, h1le, htn, htk]) rfl rfl ?_
     refine aL 1 (by simp [go_sem, hgs, hls, encSh, okAV, hx0, hsh, hwr, hle, h0le, h1le, htn, htk] <;> rfl) ?_
     refine al_nil ?_
     refine awp_ret ?_
     have hM : mmap φ d = φ (dlist (d.head :: (nmsD d).map dsym ++ (inner d).map (mmap φ))) := by rw [mmap_eq, if_neg (by rw [h0]; decide), if_neg (by simpa using hq)]
     refine ends_ret (by simp [go_sem] <;> rfl) (by simp [go_sem]) ?_
     exact ⟨by simp [go_sem, hM], by simp [go_sem]⟩

end Go.Proofs.YtnibcmaaehkhlaaGreatDoor

namespace Go.Proofs.YtnibcmaaehkhlaaGreatDoor
open Go Go.Aw
variable {kr : KR}
set_option maxHeartbeats 1000000 in
theorem c_mark (d : D) : ∀ (hok : OkM d) (hd : d.size ≤ 1000000000) (S : List ByteArray) (σ : Store) (om : Nat) (hgl : σ.gl = (GL kr)) (ho : σ.objs[om]? = some (.map (tK S) (tV S))), ACalls Tryz.prog 153 [.pv (enc d), .map om] σ (fun r σ' => r = .tuple [] ∧ σ' = setS σ om ((mbnd d).foldl addS S)) := by
 induction d using D.ind with
 | _ kind num text kids ih =>
 generalize hD : D.mk kind num text kids = d at *
 have hk : d.kids = kids := by rw [← hD]; rfl
 clear hD
 subst hk
 have hkl := D.kids_length_lt d
 have hil := inner_len d
 have hls := fun (s : St) (x : ByteArray) (ok : Bool) => look_sh (S := kr) (ty := ty) (s := s) (t := 222) (x := x) (ok := ok) rfl rfl rfl rfl rfl rfl rfl
 intro hok hd S σ om hgl ho
 have hgs : lookupG σ.gl 1 = some (.ptr [.map (shK kr) (shV kr)]) := by rw [hgl]; exact gl_sh
 have hol := (List.getElem?_eq_some_iff.1 ho).1
 have hgt := fun (R : List ByteArray) => setS_get (σ := σ) (o := om) (S := R) hol
 refine acalls_of tyOk Tryz.func153 rfl (by simp [Tryz.f153]) ?_
 refine awp_seq (aR (by simp [go_sem, hgs, hls, encSh, okAV, hgt, setS_set, setS_gl] <;> rfl) ?_)
 refine awp_seq (awp_seq (awp_reg ?_))
 refine aL 4 (by simp [go_sem, hgs, hls, encSh, okAV, hgt, setS_set, setS_gl] <;> rfl) ?_
 refine al_splitT 11 (by first | rfl | (simp [go_sem, hgs, hls, encSh, okAV, hgt, setS_set, setS_gl] <;> rfl)) (fun h0 => ?_) (fun h0 => ?_)
 ·have hk3 : d.kind = 3 := by simpa using h0
  have hot := hok.self hk3
  obtain ⟨x0, r, hks⟩ := kids_cons hot.1
  have hx0 : d.kids[0]? = some x0 := by rw [hks]; rfl
  have hh := head_cons hks
  refine aLG 6 11 true (by simp [go_sem, hgs, hls, encSh, okAV, hgt, setS_set, setS_gl, hx0] <;> rfl) ?_
  refine aL 1 (by simp [go_sem, hgs, hls, encSh, okAV, hgt, setS_set, setS_gl, hx0] <;> rfl) ?_
  refine al_nil ?_
  refine awp_cond (by first | rfl | (simp [go_sem, hgs, hls, encSh, okAV, hgt, setS_set, setS_gl, hx0] <;> rfl)) (fun h1 => ?_) (fun h1 => ?_)
  ·have hq : d.head.text ≠ sQuote := by rw [hh]; exact of_decide_eq_false ((Bool.not_eq_true' _).mp h1)
   have hsn := hot.2 hq
   rw [hh] at hsn
   have hsh : ((shp x0.text).getD (0, 0)).1 = shN x0.text := shN_getD
   have hs2 := shN_le x0.text
   have hwr : IntKind.i64.wrap (1 + (shN x0.text : Int)) = 1 + (shN x0.text : Int) := wrap_id (by omega) (by omega)
   have hle : 1 + (shN x0.text : Int) ≤ d.kids.length := by omega
   have h0le : (0 : Int) ≤ 1 + (shN x0.text : Int) := by omega
   have h1le : (1 : Int) ≤ 1 + (shN x0.text : Int) := by omega
   have htn : (1 + (shN x0.text : Int)).toNat = 1 + shN x0.text := by omega
   obtain ⟨L1, hL1⟩ : ∃ L1, L1 = (d.kids.drop 1).take (shN x0.text) := ⟨_, rfl⟩
   have htk := take_tail enc d.kids (shN x0.text)
   rw [← hL1] at htk
   have hnd := nmsD_head hks
   rw [← hL1] at hnd
   have hl1 : L1.length ≤ 2 := by rw [hL1]; simp; omega
   have how : ownN d = L1.map D.text := by unfold ownN; rw [if_pos (by rw [hk3]; simpa using hq), hnd]
   refine awp_seq (awp_regDE tyOk tySz (by kernel_rfl) ?_)
   refine ul_run 14 (by simp [go_sem, hgs, hls, encSh, okAV, hgt, setS_set, setS_gl, hx0, hsh, hwr, hle, h0le, h1le, htn, htk] <;> rfl) ?_
   refine ul_nil ?_
   refine awp_block ?_
   refine awp_loop_headK σ.objs.length σ.toks.length 1 [1, 2, 30, 31] (fun k : Nat => [(32, .pv (.int .i64 ↑k))]) (fun k => setS σ om (((L1.map D.text).take k).foldl addS S)) (fun k => k ≤ L1.length) (fun k => L1.length - k) 0 (Nat.zero_le _) ⟨by show setS σ om S = _; rw [setS_self ho]; simp [go_sem], rfl, by simp, by simp, by simp [go_sem, hgs, hls, encSh, okAV, hgt, setS_set, setS_gl, hx0, hsh, hwr, hle, h0le, h1le, htn, htk, hol, setS_no, setS_nt], fun ob h => setS_mem h, by simp [go_sem]⟩ ?_
   intro k hk
   refine awp_seq (aR (by simp [go_sem, hgs, hls, encSh, okAV, hgt, setS_set, setS_gl, hx0, hsh, hwr, hle, h0le, h1le, htn, htk] <;> rfl) ?_)
   refine awp_seq (awp_cond (by first | rfl | (simp [go_sem, hgs, hls, encSh, okAV, hgt, setS_set, setS_gl, hx0, hsh, hwr, hle, h0le, h1le, htn, htk] <;> rfl)) (fun h2 => ?_) (fun h2 => ?_))
   ·have hlt : k < L1.length := by simp at h2; omega
    have hw : IntKind.i64.wrap (↑k + 1) = (k : Int) + 1 := wrap_succ (by omega)
    obtain ⟨x, hx, hxm⟩ := get_lt hlt
    have hpk := fun (s : St) (x : ByteArray) (ho : s.σ.objs[om]? = some (.map (tK (((L1.map D.text).take k).foldl addS S)) (tV (((L1.map D.text).take k).foldl addS S)))) => put_set (ty := ty) (s := s) (t := 95) (o := om) rfl rfl rfl rfl ho x
    have htx : ((L1.map D.text).take (k + 1)).foldl addS S = addS (((L1.map D.text).take k).foldl addS S) x.text := by rw [take_next (l := L1.map D.text) (k := k) (x := x.text) (by simp [hx])]; simp
    refine awp_skip ?_
    refine awp_seq (awp_block ?_)
    refine awp_seq (aR (by simp [go_sem, hgs, hls, encSh, okAV, hgt, setS_set, setS_gl, hx0, hsh, hwr, hle, h0le, h1le, htn, htk, hx, hpk] <;> rfl) ?_)
    refine aR (by simp [go_sem, hgs, hls, encSh, okAV, hgt, setS_set, setS_gl, hx0, hsh, hwr, hle, h0le, h1le, htn, htk, hx, hpk] <;> rfl) ?_
    refine aR (by simp [go_sem, hgs, hls, encSh, okAV, hgt, setS_set, setS_gl, hx0, hsh, hwr, hle, h0le, h1le, htn, htk, hx, hpk] <;> rfl) ?_
    exact next_intro (k + 1) σ.objs.length σ.toks.length 1 (hlt) (by omega) ⟨by show setS σ om _ = Store.cut _ _ _; rw [htx]; first | exact setS_cut.symm | (show _ = Store.cut (setS (setS σ om _) om _) _ _; rw [setS_set]; exact setS_cut.symm), rfl, by simp, by simp, by simp [go_sem, hgs, hls, encSh, okAV, hgt, setS_set, setS_gl, hx0, hsh, hwr, hle, h0le, h1le, htn, htk, hx, hpk, hw, hol, setS_no, setS_nt], fun ob h => setS_mem h, by simp [go_sem]⟩
   ·have hke : k = L1.length := by simp at h2; omega
    subst hke
    have hta : (L1.map D.text).foldl addS S = mkK d S 0 := by rw [mkK_zero, how]
    refine awp_exit ?_
    refine then_exit ?_
    refine then_exit ?_
    refine inBlock_hit ?_
    refine awp_seq (awp_reg ?_)
    refine aL 1 (by simp [go_sem, hgs, hls, encSh, okAV, hgt, setS_set, setS_gl, hx0, hsh, hwr, hle, h0le, h1le, htn, htk, hta] <;> rfl) ?_
    refine aF call149 ((c_Inner d (fun h => (hok.self h).1) (fun h => (hok.self h).2)) _ (by exact hgl)) (by simp [go_sem, hgs, hls, encSh, okAV, hgt, setS_set, setS_gl, hx0, hsh, hwr, hle, h0le, h1le, htn, htk, hta] <;> rfl) (by simp [go_sem, hgs, hls, encSh, okAV, hgt, setS_set, setS_gl, hx0, hsh, hwr, hle, h0le, h1le, htn, htk, hta]) ?_
    refine aL 2 (by simp [go_sem, hgs, hls, encSh, okAV, hgt, setS_set, setS_gl, hx0, hsh, hwr, hle, h0le, h1le, htn, htk, hta] <;> rfl) ?_
    refine al_nil ?_
    refine awp_block ?_
    refine awp_loop_headK σ.objs.length σ.toks.length 1 [1, 41, 42] (fun k : Nat => [(43, .pv (.int .i64 ↑k))]) (fun k => setS σ om (mkK d S k)) (fun k => k ≤ (inner d).length) (fun k => (inner d).length - k) 0 (Nat.zero_le _) ⟨by show setS σ om (mkK d S 0) = _; first | exact setS_cut.symm | (simp [go_sem, hta, setS_cut]; done) | (rw [mkK_zero, how]; show setS σ om S = _; rw [setS_self ho]; simp [go_sem]) | (rw [← hta]; exact setS_cut.symm), rfl, by simp, by simp, by simp [go_sem, hgs, hls, encSh, okAV, hgt, setS_set, setS_gl, hx0, hsh, hwr, hle, h0le, h1le, htn, htk, hta, hol, setS_no, setS_nt], fun ob h => setS_mem h, by simp [go_sem]⟩ ?_
    intro k hk
    refine awp_seq (aR (by simp [go_sem, hgs, hls, encSh, okAV, hgt, setS_set, setS_gl, hx0, hsh, hwr, hle, h0le, h1le, htn, htk, hta] <;> rfl) ?_)
    refine awp_seq (awp_cond (by first | rfl | (simp [go_sem, hgs, hls, encSh, okAV, hgt, setS_set, setS_gl, hx0, hsh, hwr, hle, h0le, h1le, htn, htk, hta] <;> rfl)) (fun h3 => ?_) (fun h3 => ?_))
    ·have hlt : k < (inner d).length := by simp at h3; omega
     have hw : IntKind.i64.wrap (↑k + 1) = (k : Int) + 1 := wrap_succ (by omega)
     obtain ⟨x, hx, hxm⟩ := get_lt hlt
     have hcn := mkK_next (S := S) hx
     refine awp_skip ?_
     refine awp_seq (awp_block ?_)
     refine awp_seq (aR (by simp [go_sem, hgs, hls, encSh, okAV, hgt, setS_set, setS_gl, hx0, hsh, hwr, hle, h0le, h1le, htn, htk, hta, hx] <;> rfl) ?_)
     refine awp_reg ?_
     refine aL 2 (by simp [go_sem, hgs, hls, encSh, okAV, hgt, setS_set, setS_gl, hx0, hsh, hwr, hle, h0le, h1le, htn, htk, hta, hx] <;> rfl) ?_
     refine al_callW rfl rfl rfl (by simp [go_sem, hgs, hls, encSh, okAV, hgt, setS_set, setS_gl, hx0, hsh, hwr, hle, h0le, h1le, htn, htk, hta, hx] <;> rfl) call153 (ih x (inner_mem hxm) (hok.part hxm) (by have := D.size_kid_lt (inner_mem hxm); omega) (mkK d S k) _ om (by exact hgl) (hgt _)) (by simp [go_sem, hgs, hls, encSh, okAV, hgt, setS_set, setS_gl, hx0, hsh, hwr, hle, h0le, h1le, htn, htk, hta, hx] <;> rfl) (by simp [go_sem, hgs, hls, encSh, okAV, hgt, setS_set, setS_gl, hx0, hsh, hwr, hle, h0le, h1le, htn, htk, hta, hx]) rfl rfl ?_
     rintro r σ' ⟨rfl, rfl⟩
     refine al_nil ?_
     refine aR (by simp [go_sem, hgs, hls, encSh, okAV, hgt, setS_set, setS_gl, hx0, hsh, hwr, hle, h0le, h1le, htn, htk, hta, hx] <;> rfl) ?_
     exact next_intro (k + 1) σ.objs.length σ.toks.length 1 (hlt) (by omega) ⟨by show setS σ om (mkK d S (k + 1)) = Store.cut _ _ _; rw [hcn]; first | exact setS_cut.symm | (show _ = Store.cut (setS (setS σ om _) om _) _ _; rw [setS_set]; exact setS_cut.symm) | simp [go_sem, setS_cut], rfl, by simp, by simp, by simp [go_sem, hgs, hls, encSh, okAV, hgt, setS_set, setS_gl, hx0, hsh, hwr, hle, h0le, h1le, htn, htk, hta, hx, hw, hol, setS_no, setS_nt], fun ob h => setS_mem h, by simp [go_sem]⟩
    ·have hke : k = (inner d).length := by simp at h3; omega
     subst hke
     have hca := mkK_all (d := d) (S := S)
     refine awp_exit ?_
     refine then_exit ?_
     refine then_exit ?_
     refine inBlock_hit ?_
     refine ends_normal (by simp [go_sem] <;> rfl) (by simp [go_sem]) ?_
     exact ⟨by simp [go_sem], by simp [go_sem, hca]⟩
  ·have how : ownN d = [] := by unfold ownN; rw [if_neg (by rw [hh]; simp at h1; simp [h1, sQuote])]
   refine awp_skip ?_
   refine awp_seq (awp_reg ?_)
   refine aL 1 (by simp [go_sem, hgs, hls, encSh, okAV, hgt, setS_set, setS_gl, hx0] <;> rfl) ?_
   refine aF call149 ((c_Inner d (fun h => (hok.self h).1) (fun h => (hok.self h).2)) _ (by exact hgl)) (by simp [go_sem, hgs, hls, encSh, okAV, hgt, setS_set, setS_gl, hx0] <;> rfl) (by simp [go_sem, hgs, hls, encSh, okAV, hgt, setS_set, setS_gl, hx0]) ?_
   refine aL 2 (by simp [go_sem, hgs, hls, encSh, okAV, hgt, setS_set, setS_gl, hx0] <;> rfl) ?_
   refine al_nil ?_
   refine awp_block ?_
   refine awp_loop_headK σ.objs.length σ.toks.length 1 [1, 41, 42] (fun k : Nat => [(43, .pv (.int .i64 ↑k))]) (fun k => setS σ om (mkK d S k)) (fun k => k ≤ (inner d).length) (fun k => (inner d).length - k) 0 (Nat.zero_le _) ⟨by show setS σ om (mkK d S 0) = _; first | exact setS_cut.symm | (simp [go_sem, hta, setS_cut]; done) | (rw [mkK_zero, how]; show setS σ om S = _; rw [setS_self ho]; simp [go_sem]) | (rw [← hta]; exact setS_cut.symm), rfl, by simp, by simp, by simp [go_sem, hgs, hls, encSh, okAV, hgt, setS_set, setS_gl, hx0, hol, setS_no, setS_nt], fun ob h => setS_mem h, by simp [go_sem]⟩ ?_
   intro k hk
   refine awp_seq (aR (by simp [go_sem, hgs, hls, encSh, okAV, hgt, setS_set, setS_gl, hx0] <;> rfl) ?_)
   refine awp_seq (awp_cond (by first | rfl | (simp [go_sem, hgs, hls, encSh, okAV, hgt, setS_set, setS_gl, hx0] <;> rfl)) (fun h4 => ?_) (fun h4 => ?_))
   ·have hlt : k < (inner d).length := by simp at h4; omega
    have hw : IntKind.i64.wrap (↑k + 1) = (k : Int) + 1 := wrap_succ (by omega)
    obtain ⟨x, hx, hxm⟩ := get_lt hlt
    have hcn := mkK_next (S := S) hx
    refine awp_skip ?_
    refine awp_seq (awp_block ?_)
    refine awp_seq (aR (by simp [go_sem, hgs, hls, encSh, okAV, hgt, setS_set, setS_gl, hx0, hx] <;> rfl) ?_)
    refine awp_reg ?_
    refine aL 2 (by simp [go_sem, hgs, hls, encSh, okAV, hgt, setS_set, setS_gl, hx0, hx] <;> rfl) ?_
    refine al_callW rfl rfl rfl (by simp [go_sem, hgs, hls, encSh, okAV, hgt, setS_set, setS_gl, hx0, hx] <;> rfl) call153 (ih x (inner_mem hxm) (hok.part hxm) (by have := D.size_kid_lt (inner_mem hxm); omega) (mkK d S k) _ om (by exact hgl) (hgt _)) (by simp [go_sem, hgs, hls, encSh, okAV, hgt, setS_set, setS_gl, hx0, hx] <;> rfl) (by simp [go_sem, hgs, hls, encSh, okAV, hgt, setS_set, setS_gl, hx0, hx]) rfl rfl ?_
    rintro r σ' ⟨rfl, rfl⟩
    refine al_nil ?_
    refine aR (by simp [go_sem, hgs, hls, encSh, okAV, hgt, setS_set, setS_gl, hx0, hx] <;> rfl) ?_
    exact next_intro (k + 1) σ.objs.length σ.toks.length 1 (hlt) (by omega) ⟨by show setS σ om (mkK d S (k + 1)) = Store.cut _ _ _; rw [hcn]; first | exact setS_cut.symm | (show _ = Store.cut (setS (setS σ om _) om _) _ _; rw [setS_set]; exact setS_cut.symm) | simp [go_sem, setS_cut], rfl, by simp, by simp, by simp [go_sem, hgs, hls, encSh, okAV, hgt, setS_set, setS_gl, hx0, hx, hw, hol, setS_no, setS_nt], fun ob h => setS_mem h, by simp [go_sem]⟩
   ·have hke : k = (inner d).length := by simp at h4; omega
    subst hke
    have hca := mkK_all (d := d) (S := S)
    refine awp_exit ?_
    refine then_exit ?_
    refine then_exit ?_
    refine inBlock_hit ?_
    refine ends_normal (by simp [go_sem] <;> rfl) (by simp [go_sem]) ?_
    exact ⟨by simp [go_sem], by simp [go_sem, hca]⟩
 ·have how : ownN d = [] := by unfold ownN; rw [if_neg (by rw [h0]; simp)]
  refine aK 6 11 true ?_
  refine aL 1 (by simp [go_sem, hgs, hls, encSh, okAV, hgt, setS_set, setS_gl] <;> rfl) ?_
  refine al_nil ?_
  refine awp_cond (b := false) (by simp [go_sem, hgs, hls, encSh, okAV, hgt, setS_set, setS_gl, h0]) (fun h => ?_) (fun h => ?_)
  ·cases h
  refine awp_skip ?_
  refine awp_seq (awp_reg ?_)
  refine aL 1 (by simp [go_sem, hgs, hls, encSh, okAV, hgt, setS_set, setS_gl] <;> rfl) ?_
  refine aF call149 ((c_Inner d (fun h => (hok.self h).1) (fun h => (hok.self h).2)) _ (by exact hgl)) (by simp [go_sem, hgs, hls, encSh, okAV, hgt, setS_set, setS_gl] <;> rfl) (by simp [go_sem, hgs, hls, encSh, okAV, hgt, setS_set, setS_gl]) ?_
  refine aL 2 (by simp [go_sem, hgs, hls, encSh, okAV, hgt, setS_set, setS_gl] <;> rfl) ?_
  refine al_nil ?_
  refine awp_block ?_
  refine awp_loop_headK σ.objs.length σ.toks.length 1 [1, 41, 42] (fun k : Nat => [(43, .pv (.int .i64 ↑k))]) (fun k => setS σ om (mkK d S k)) (fun k => k ≤ (inner d).length) (fun k => (inner d).length - k) 0 (Nat.zero_le _) ⟨by show setS σ om (mkK d S 0) = _; first | exact setS_cut.symm | (simp [go_sem, hta, setS_cut]; done) | (rw [mkK_zero, how]; show setS σ om S = _; rw [setS_self ho]; simp [go_sem]) | (rw [← hta]; exact setS_cut.symm), rfl, by simp, by simp, by simp [go_sem, hgs, hls, encSh, okAV, hgt, setS_set, setS_gl, hol, setS_no, setS_nt], fun ob h => setS_mem h, by simp [go_sem]⟩ ?_
  intro k hk
  refine awp_seq (aR (by simp [go_sem, hgs, hls, encSh, okAV, hgt, setS_set, setS_gl] <;> rfl) ?_)
  refine awp_seq (awp_cond (by first | rfl | (simp [go_sem, hgs, hls, encSh, okAV, hgt, setS_set, setS_gl] <;> rfl)) (fun h5 => ?_) (fun h5 => ?_))
  ·have hlt : k < (inner d).length := by simp at h5; omega
   have hw : IntKind.i64.wrap (↑k + 1) = (k : Int) + 1 := wrap_succ (by omega)
   obtain ⟨x, hx, hxm⟩ := get_lt hlt
   have hcn := mkK_next (S := S) hx
   refine awp_skip ?_
   refine awp_seq (awp_block ?_)
   refine awp_seq (aR (by simp [go_sem, hgs, hls, encSh, okAV, hgt, setS_set, setS_gl, hx] <;> rfl) ?_)
   refine awp_reg ?_
   refine aL 2 (by simp [go_sem, hgs, hls, encSh, okAV, hgt, setS_set, setS_gl, hx] <;> rfl) ?_
   refine al_callW rfl rfl rfl (by simp [go_sem, hgs, hls, encSh, okAV, hgt, setS_set, setS_gl, hx] <;> rfl) call153 (ih x (inner_mem hxm) (hok.part hxm) (by have := D.size_kid_lt (inner_mem hxm); omega) (mkK d S k) _ om (by exact hgl) (hgt _)) (by simp [go_sem, hgs, hls, encSh, okAV, hgt, setS_set, setS_gl, hx] <;> rfl) (by simp [go_sem, hgs, hls, encSh, okAV, hgt, setS_set, setS_gl, hx]) rfl rfl ?_
   rintro r σ' ⟨rfl, rfl⟩
   refine al_nil ?_
   refine aR (by simp [go_sem, hgs, hls, encSh, okAV, hgt, setS_set, setS_gl, hx] <;> rfl) ?_
   exact next_intro (k + 1) σ.objs.length σ.toks.length 1 (hlt) (by omega) ⟨by show setS σ om (mkK d S (k + 1)) = Store.cut _ _ _; rw [hcn]; first | exact setS_cut.symm | (show _ = Store.cut (setS (setS σ om _) om _) _ _; rw [setS_set]; exact setS_cut.symm) | simp [go_sem, setS_cut], rfl, by simp, by simp, by simp [go_sem, hgs, hls, encSh, okAV, hgt, setS_set, setS_gl, hx, hw, hol, setS_no, setS_nt], fun ob h => setS_mem h, by simp [go_sem]⟩
  ·have hke : k = (inner d).length := by simp at h5; omega
   subst hke
   have hca := mkK_all (d := d) (S := S)
   refine awp_exit ?_
   refine then_exit ?_
   refine then_exit ?_
   refine inBlock_hit ?_
   refine ends_normal (by simp [go_sem] <;> rfl) (by simp [go_sem]) ?_
   exact ⟨by simp [go_sem], by simp [go_sem, hca]⟩

end Go.Proofs.YtnibcmaaehkhlaaGreatDoor

namespace Go.Proofs.YtnibcmaaehkhlaaGreatDoor
open Go Go.Aw
variable {kr : KR}
set_option maxHeartbeats 1000000 in
theorem c_ClipP (l : List (ByteArray × ByteArray)) : Pur Tryz.prog (GL kr) 224 [.pv (.slice (l.map encPair))] (.full (l.map encPair)) := by
 refine pur_of fun σ hgl => ?_
 refine acalls_of tyOk Tryz.func224 rfl (by simp [Tryz.f224]) ?_
 refine awp_seq (aR (by simp [go_sem] <;> rfl) ?_)
 refine awp_seq (aR (by simp [go_sem] <;> rfl) ?_)
 refine awp_ret ?_
 refine ends_ret (by simp [go_sem] <;> rfl) (by simp [go_sem]) ?_
 exact ⟨by simp [go_sem], by simp [go_sem]⟩

def dCells (d : D) : List AV := [.pv (.int .i64 d.kind), .pv (.int .i64 d.num), .pv (.str d.text), .pv (.slice (d.kids.map enc))]
theorem encPair_cells (p : ByteArray × ByteArray) : (encPair p).cells = [.str p.1, .str p.2] := rfl
@[go_sem] theorem allSz_pair (l : List (ByteArray × ByteArray)) : allSz 2 (l.map encPair) = true := by simp [allSz, encPair_cells]
/-- The store when the search is over: a name was found. -/
structure RenSt (σ : Store) (d : D) (cs : List AV) (l : Nat) (st : LoopState) (pe : Option Code) (τ : Store) : Prop where
  gl : τ.gl = σ.gl
  toks : τ.toks = σ.toks
  low : τ.objs.take σ.objs.length = σ.objs
  b0 : τ.objs[σ.objs.length]? = some (.box (dCells d))
  b1 : τ.objs[σ.objs.length + 1]? = some (.box cs)
  loop : ∃ T N ps asg body, τ.objs[σ.objs.length + 3]? = some (.loop l st pe T N ps asg body)

set_option maxHeartbeats 1000000 in
theorem c_renamed (d : D) : ∀ (hg : GoodM d) (env : List ByteArray) (hb : env.length + 3 * d.size ≤ 1000000000) (σ : Store) (hgl : σ.gl = (GL kr)), PurAt Tryz.prog σ 150 [.pv (enc d), .pv (.slice ((envP env).map encPair)), .func (.func 151) []] (.pv (enc (mren d env))) := by
 induction d using D.ind with
 | _ kind num text kids ih =>
 generalize hD : D.mk kind num text kids = d at *
 have hk : d.kids = kids := by rw [← hD]; rfl
 clear hD
 subst hk
 have hkl := D.kids_length_lt d
 have hil := inner_len d
 have hls := fun (s : St) (x : ByteArray) (ok : Bool) => look_sh (S := kr) (ty := ty) (s := s) (t := 222) (x := x) (ok := ok) rfl rfl rfl rfl rfl rfl rfl
 intro hg env hb σ hgl
 refine purAt_of ?_
 have hgs : lookupG σ.gl 1 = some (.ptr [.map (shK kr) (shV kr)]) := by rw [hgl]; exact gl_sh
 have hpl := envP_length env
 refine acalls_of tyOk Tryz.func150 rfl (by simp [Tryz.f150]) ?_
 refine awp_seq (awp_region_run (sh := [3, 6]) tyOk (by simp [go_sem, hgs, hls, encSh, okAV] <;> rfl) ?_)
 refine awp_seq (awp_seq (aR (by simp [go_sem, hgs, hls, encSh, okAV] <;> rfl) ?_))
 refine awp_cond (by first | rfl | (simp [go_sem, hgs, hls, encSh, okAV] <;> rfl)) (fun h0 => ?_) (fun h0 => ?_)
 ·refine awp_seq ?_
  refine awp_seq (awp_reg ?_)
  refine aL 1 (by simp [go_sem, hgs, hls, encSh, okAV] <;> rfl) ?_
  refine al_callW rfl rfl rfl (by simp [go_sem, hgs, hls, encSh, okAV] <;> rfl) call223 (c_BackMake ((envP env).map encPair) _) (by simp [go_sem, hgs, hls, encSh, okAV] <;> rfl) (by simp [go_sem, hgs, hls, encSh, okAV]) rfl rfl ?_
  rintro r σ' ⟨rfl, rfl⟩
  refine al_nil ?_
  refine awp_block ?_
  refine awp_rangeFunc [3, 6] (by simp [go_sem, hgs, hls, encSh, okAV] <;> rfl) call252 (by simp [go_sem]) (by simp [go_sem, keepT, hgs, hls, encSh, okAV]) (by decide) fun l => ?_
  refine acalls_gen ?_
  intro ST hST
  simp only [go_sem, keepT, List.map_cons, List.map_nil, List.append_assoc, List.cons_append, List.nil_append] at hST
  have hb0 : ST.objs[σ.objs.length]? = some (.box (dCells d)) := by rw [hST]; simp [go_sem, dCells]
  have hb1 : ST.objs[σ.objs.length + 1]? = some (.box [.pv (.int .i64 0), .pv (.int .i64 0), .pv (.str ⟨#[]⟩), .pv .nils]) := by rw [hST]; simp [go_sem]
  have hb2 : ST.objs[σ.objs.length + 2]? = some (.box [.pv (.slice ((envP env).map encPair))]) := by rw [hST]; simp [go_sem]
  have hglS : ST.gl = σ.gl := by rw [hST]
  have hts : ST.toks = σ.toks := by rw [hST]
  have hlow : ST.objs.take σ.objs.length = σ.objs := by rw [hST]; simp [go_sem]
  have hlen : ST.objs.length = σ.objs.length + 4 := by rw [hST]; simp [go_sem]
  obtain ⟨T0, ps0, as0, bd0, hL⟩ : ∃ T0 ps0 as0 bd0, ST.objs[σ.objs.length + 3]? = some (.loop l .ready none T0 115 ps0 as0 bd0) := ⟨_, _, _, _, by rw [hST]; exact get_app4⟩
  have hround : ∀ (i : Nat) (τ : Store), i < (envP env).length → (τ = ST ∧ NoneLast env d.text i) → ACallsY Tryz.prog l (backArgs (envP env) i) τ fun r τ' => (r = .pv (.bool true) ∧ τ' = ST ∧ NoneLast env d.text (i + 1)) ∨ (r = .pv (.bool false) ∧ ∃ q : Nat, lastI env d.text = some q ∧ RenSt σ d (dCells (dsym (namedB q))) l .done (some .ret) τ') := by
   rintro i τ hi ⟨hτ, hno⟩
   rw [hτ]
   obtain ⟨q, x, hidx, hget, hba⟩ := back_at hi
   rw [envP_get] at hget
   obtain ⟨y, hy, rfl⟩ := Option.map_eq_some_iff.1 hget
   rw [hba]
   have hqe : env.length - 1 - i = q := by omega
   rw [← hqe] at hy
   refine acallsY_of (o := σ.objs.length + 3) (by rw [hST]; exact get_app4) rfl rfl ?_
   refine aR (by simp [go_sem, hgs, hls, encSh, okAV, hb0, hb1, hL, encPair, dCells, set_ne, set_at] <;> rfl) ?_
   refine ⟨_, _, _, _, _, _, Eq.trans (b := some (.loop l .ready none T0 115 ps0 as0 bd0)) (by simp [go_sem, hgs, hls, encSh, okAV, hb0, hb1, hL, encPair, dCells, set_ne, set_at]) rfl, ?_⟩
   refine awp_block ?_
   refine awp_seq (aR (by simp [go_sem, hgs, hls, encSh, okAV, hb0, hb1, hL, encPair, dCells, set_ne, set_at] <;> rfl) ?_)
   refine awp_cond (by first | rfl | (simp [go_sem, hgs, hls, encSh, okAV, hb0, hb1, hL, encPair, dCells, set_ne, set_at] <;> rfl)) (fun h1 => ?_) (fun h1 => ?_)
   ·refine awp_seq ?_
    refine awp_reg ?_
    refine aL 2 (by simp [go_sem, hgs, hls, encSh, okAV, hb0, hb1, hL, encPair, dCells, set_ne, set_at] <;> rfl) ?_
    refine aF call57 ((c_flat_Sym (namedB q)) _ (by exact hglS.trans hgl)) (by simp [go_sem, hgs, hls, encSh, okAV, hb0, hb1, hL, encPair, dCells, set_ne, set_at] <;> rfl) (by simp [go_sem, hgs, hls, encSh, okAV, hb0, hb1, hL, encPair, dCells, set_ne, set_at]) ?_
    refine aL 1 (by simp [go_sem, hgs, hls, encSh, okAV, hb0, hb1, hL, encPair, dCells, set_ne, set_at] <;> rfl) ?_
    refine al_nil ?_
    refine awp_ret ?_
    refine inBlock_ret ?_
    refine ⟨_, _, _, _, _, _, Eq.trans (b := some (.loop l .busy none T0 115 ps0 as0 bd0)) (by simp [go_sem, hgs, hls, encSh, okAV, hb0, hb1, hL, encPair, dCells, set_ne, set_at]) rfl, ?_⟩
    have hyd : y = d.text := of_decide_eq_true h1
    rw [hyd] at hy
    have hqf := lastI_found hno (by omega) hy
    rw [hqe] at hqf
    refine .inr ⟨rfl, q, hqf, ?_⟩
    refine ⟨?_, ?_, ?_, ?_, ?_, ?_⟩
    · exact hglS
    · exact hts
    · simp [Store.rec_, go_sem, take_set_le, hlow]
    · simp [Store.rec_, go_sem, set_ne, hb0]
    · simp [Store.rec_, go_sem, set_ne, set_at, hb1, dCells, dsym, D.kind, D.num, D.text, D.kids]
    · exact ⟨T0, 115, ps0, as0, bd0, by simp [Store.rec_, go_sem, set_ne, set_at, hL]⟩
   ·refine awp_skip ?_
    refine ⟨_, _, _, _, _, _, Eq.trans (b := some (.loop l .busy none T0 115 ps0 as0 bd0)) (by simp [go_sem, hgs, hls, encSh, okAV, hb0, hb1, hL, encPair, dCells, set_ne, set_at]) rfl, ?_⟩
    refine .inl ⟨rfl, ?_, hno.succ hy h1⟩
    simp only [Store.rec_, List.set_set]
    rw [set_self hL]
  refine (ACalls.args (c_Back (envP env) (by omega) (σ.objs.length + 2) l (fun i τ => τ = ST ∧ NoneLast env d.text i) (fun τ => ∃ q : Nat, lastI env d.text = some q ∧ RenSt σ d (dCells (dsym (namedB q))) l .done (some .ret) τ) (fun i τ h => by rw [h.1]; exact hb2) hround ST ⟨rfl, .zero⟩) (by simp [go_sem, hgs, hls, encSh, okAV])).mono ?_
  rintro _ τ' (⟨hτ, hno⟩ | ⟨q, hq, hgl2, htk2, hlo2, hc0, hc1, T1, N1, ps1, as1, bd1, hc3⟩)
  ·rw [hτ]
   rw [hpl] at hno
   have hln := lastI_none hno
   refine ⟨_, _, _, _, _, _, _, Eq.trans (b := some (.loop l .ready none T0 115 ps0 as0 bd0)) (by simp [go_sem, hgs, hls, encSh, okAV, hL, hb0, hb1, dCells, set_ne, set_at]) rfl, by decide, ?_⟩
   refine awp_seq (aR (by simp [go_sem, hgs, hls, encSh, okAV, hL, hb0, hb1, dCells, set_ne, set_at] <;> rfl) ?_)
   refine awp_ret ?_
   refine then_ret ?_
   have hM : mren d env = d := by rw [mren_eq, if_pos h0, hln]
   refine ends_ret (by simp [go_sem, hb0, hb1, hL, set_ne, set_at] <;> rfl) (by simp [go_sem]) ?_
   exact ⟨by simp [go_sem, hM], by simp [go_sem, take_set_le, hlow, hts, hglS]⟩
  ·refine ⟨_, _, _, _, _, _, _, Eq.trans (b := some (.loop l .done (some .ret) T1 N1 ps1 as1 bd1)) (by simp [go_sem, hgs, hls, encSh, okAV, hc0, hc1, hc3, dCells, set_ne, set_at]) rfl, by decide, ?_⟩
   refine awp_ret ?_
   refine inBlock_ret ?_
   refine then_ret ?_
   refine then_ret ?_
   have hM : mren d env = dsym (namedB q) := by rw [mren_eq, if_pos h0, hq]
   refine ends_ret (by simp [go_sem, hc0, hc1, hc3, set_ne, set_at, dCells] <;> rfl) (by simp [go_sem]) ?_
   exact ⟨by simp [go_sem, hM, enc_sym, dsym], by simp [go_sem, take_set_le, hlo2, htk2, hgl2]⟩
 ·refine awp_skip ?_
  refine awp_seq (awp_seq (awp_reg ?_))
  refine aL 4 (by simp [go_sem, hgs, hls, encSh, okAV] <;> rfl) ?_
  refine al_splitT 36 (by first | rfl | (simp [go_sem, hgs, hls, encSh, okAV] <;> rfl)) (fun h2 => ?_) (fun h2 => ?_)
  ·refine aK 6 36 false ?_
   refine aL 1 (by simp [go_sem, hgs, hls, encSh, okAV] <;> rfl) ?_
   refine al_nil ?_
   refine awp_cond (b := true) (by simp [go_sem, hgs, hls, encSh, okAV, h0, h2]) (fun h => ?_) (fun h => ?_)
   rotate_left
   ·cases h
   refine awp_seq (aR (by simp [go_sem, hgs, hls, encSh, okAV] <;> rfl) ?_)
   refine awp_ret ?_
   refine then_ret ?_
   have hM : mren d env = d := by rw [mren_eq, if_neg (by rw [h0]; decide), if_pos h2]
   refine ends_ret (by simp [go_sem] <;> rfl) (by simp [go_sem]) ?_
   exact ⟨by simp [go_sem, hM], by simp [go_sem]⟩
  ·have hk3 : d.kind = 3 := by simpa using h2
   obtain ⟨x0, r, hks⟩ := kids_cons (hg.ne hk3)
   have hx0 : d.kids[0]? = some x0 := by rw [hks]; rfl
   have hh := head_cons hks
   refine aLG 6 36 false (by simp [go_sem, hgs, hls, encSh, okAV, hx0] <;> rfl) ?_
   refine aL 1 (by simp [go_sem, hgs, hls, encSh, okAV, hx0] <;> rfl) ?_
   refine al_nil ?_
   refine awp_cond (by first | rfl | (simp [go_sem, hgs, hls, encSh, okAV, hx0] <;> rfl)) (fun h3 => ?_) (fun h3 => ?_)
   ·refine awp_seq ?_
    refine aR (by simp [go_sem, hgs, hls, encSh, okAV, hx0] <;> rfl) ?_
    refine awp_ret ?_
    refine then_ret ?_
    have hM : mren d env = d := by rw [mren_eq, if_neg (by rw [h0]; decide), if_neg (by rw [h2]; decide), if_pos (by rw [hh]; exact h3)]
    refine ends_ret (by simp [go_sem] <;> rfl) (by simp [go_sem]) ?_
    exact ⟨by simp [go_sem, hM], by simp [go_sem]⟩
   ·have hq : d.head.text ≠ sQuote := by rw [hh]; exact of_decide_eq_false h3
    have hsn := hg.n hk3 hq
    have hnm := hg.nms hk3 hq
    have hlen := hg.inner_length hk3 hq
    rw [hh] at hsn hnm hlen
    have hsh : ((shp x0.text).getD (0, 0)).1 = shN x0.text := shN_getD
    have hs2 := shN_le x0.text
    have hwr : IntKind.i64.wrap (1 + (shN x0.text : Int)) = 1 + (shN x0.text : Int) := wrap_id (by omega) (by omega)
    have hle : 1 + (shN x0.text : Int) ≤ d.kids.length := by omega
    have h0le : (0 : Int) ≤ 1 + (shN x0.text : Int) := by omega
    have h1le : (1 : Int) ≤ 1 + (shN x0.text : Int) := by omega
    have htn : (1 + (shN x0.text : Int)).toNat = 1 + shN x0.text := by omega
    obtain ⟨L1, hL1⟩ : ∃ L1, L1 = (d.kids.drop 1).take (shN x0.text) := ⟨_, rfl⟩
    have htk := take_tail enc d.kids (shN x0.text)
    rw [← hL1] at htk
    have hnd := nmsD_head hks
    rw [← hL1] at hnd
    have hl1 : L1.length = shN x0.text := by rw [← hnm, hnd, List.length_map]
    refine awp_skip ?_
    refine awp_seq (awp_reg ?_)
    refine aL 1 (by simp [go_sem, hgs, hls, encSh, okAV, hx0, hsh, hwr, hle, h0le, h1le, htn, htk] <;> rfl) ?_
    refine aF call224 ((c_ClipP (envP env)) _ (by exact hgl)) (by simp [go_sem, hgs, hls, encSh, okAV, hx0, hsh, hwr, hle, h0le, h1le, htn, htk] <;> rfl) (by simp [go_sem, hgs, hls, encSh, okAV, hx0, hsh, hwr, hle, h0le, h1le, htn, htk]) ?_
    refine aL 1 (by simp [go_sem, hgs, hls, encSh, okAV, hx0, hsh, hwr, hle, h0le, h1le, htn, htk] <;> rfl) ?_
    refine al_nil ?_
    refine awp_seq (aR (by simp [go_sem, hgs, hls, encSh, okAV, hx0, hsh, hwr, hle, h0le, h1le, htn, htk] <;> rfl) ?_)
    refine awp_seq (awp_seq (awp_regDE tyOk tySz (by kernel_rfl) ?_))
    refine ul_run 14 (by simp [go_sem, hgs, hls, encSh, okAV, hx0, hsh, hwr, hle, h0le, h1le, htn, htk] <;> rfl) ?_
    refine ul_nil ?_
    refine awp_adopt' 9 229 2 (by simp [go_sem] <;> rfl) ?_
    refine awp_adopt' 10 9 1 (by simp [go_sem] <;> rfl) ?_
    refine awp_block ?_
    refine awp_loop_headK (σ.objs.length + 2) (σ.toks.length + 2) 0 [1, 2, 3, 6, 58, 59] (fun k : Nat => [(9, .acc ((envP (env ++ (L1.map D.text).take k)).map encPair) σ.toks.length), (10, .acc (((newN d env.length).map .str).take k) (σ.toks.length + 1)), (60, .pv (.int .i64 ↑k))]) (fun k => { σ with objs := σ.objs ++ [.box [.pv (.int .i64 d.kind), .pv (.int .i64 d.num), .pv (.str d.text), .pv (.slice (d.kids.map enc))], .box [.pv (.int .i64 0), .pv (.int .i64 0), .pv (.str ⟨#[]⟩), .pv .nils]], toks := σ.toks ++ [⟨env.length + k, 229, 2⟩, ⟨k, 9, 1⟩] }) (fun k => k ≤ L1.length) (fun k => L1.length - k) 0 (Nat.zero_le _) ⟨by simp [go_sem, hpl], rfl, by simp, by simp, by simp [go_sem, hgs, hls, encSh, okAV, hx0, hsh, hwr, hle, h0le, h1le, htn, htk], fun ob h => mem_app2 rfl rfl h, by simp [go_sem]⟩ ?_
    intro k hk
    refine awp_seq (aR (by simp [go_sem, hgs, hls, encSh, okAV, hx0, hsh, hwr, hle, h0le, h1le, htn, htk] <;> rfl) ?_)
    refine awp_seq (awp_cond (by first | rfl | (simp [go_sem, hgs, hls, encSh, okAV, hx0, hsh, hwr, hle, h0le, h1le, htn, htk] <;> rfl)) (fun h4 => ?_) (fun h4 => ?_))
    ·have hlt : k < L1.length := by simp at h4; omega
     have hw : IntKind.i64.wrap (↑k + 1) = (k : Int) + 1 := wrap_succ (by omega)
     obtain ⟨x, hx, hxm⟩ := get_lt hlt
     have hen := envP_next (env := env) (L := L1.map D.text) (k := k) (x := x.text) (by simp [hx])
     have hnt : ((newN d env.length).map PV.str).take (k + 1) = ((newN d env.length).map PV.str).take k ++ [.str (namedB ((env.length + k : Nat) : Int))] := take_next (by rw [List.getElem?_map, newN_get (by rw [hh]; omega)]; rfl)
     have hm : min k L1.length = k := by omega
     have hel : (envP (env ++ (L1.map D.text).take k)).length = env.length + k := by rw [envP_length]; simp; omega
     have hnl : (newN d env.length).length = L1.length := by rw [newN_len, hh, hl1]
     have hb2 : (env.length + k + 1) * 32 ≤ 140737488355328 := by omega
     have hb3 : (k + 1) * 16 ≤ 140737488355328 := by omega
     refine awp_skip ?_
     refine awp_seq (awp_block ?_)
     refine awp_seq (aR (by simp [go_sem, hgs, hls, encSh, okAV, hx0, hsh, hwr, hle, h0le, h1le, htn, htk, hx, hm, hel, hnl, hb2, hb3, encPair] <;> rfl) ?_)
     refine awp_seq (awp_regDC tyOk tySz 10 (by kernel_rfl) (by decide) ?_)
     refine ul_run 7 (by simp [go_sem, hgs, hls, encSh, okAV, hx0, hsh, hwr, hle, h0le, h1le, htn, htk, hx, hm, hel, hnl, hb2, hb3, encPair] <;> rfl) ?_
     refine ul_fn (by first | (intro _ _ hh; exact hh) | simp [go_sem]) rfl rfl rfl rfl (by simp [go_sem, hgs, hls, encSh, okAV, hx0, hsh, hwr, hle, h0le, h1le, htn, htk, hx, hm, hel, hnl, hb2, hb3, encPair] <;> rfl) call151 ((c_Plain_1 x.text ((env.length + k : Nat) : Int) (by omega) (by omega)) _ (by exact hgl)) (by simp [go_sem, hgs, hls, encSh, okAV, hx0, hsh, hwr, hle, h0le, h1le, htn, htk, hx, hm, hel, hnl, hb2, hb3, encPair] <;> rfl) (by simp [go_sem, hgs, hls, encSh, okAV, hx0, hsh, hwr, hle, h0le, h1le, htn, htk, hx, hm, hel, hnl, hb2, hb3, encPair]) rfl rfl ?_
     refine ul_run 2 (by simp [go_sem, hgs, hls, encSh, okAV, hx0, hsh, hwr, hle, h0le, h1le, htn, htk, hx, hm, hel, hnl, hb2, hb3, encPair] <;> rfl) ?_
     refine ul_nil ?_
     refine aL 1 (by simp [go_sem, hgs, hls, encSh, okAV, hx0, hsh, hwr, hle, h0le, h1le, htn, htk, hx, hm, hel, hnl, hb2, hb3, encPair] <;> rfl) ?_
     refine al_nil ?_
     refine awp_seq (aR (by simp [go_sem, hgs, hls, encSh, okAV, hx0, hsh, hwr, hle, h0le, h1le, htn, htk, hx, hm, hel, hnl, hb2, hb3, encPair] <;> rfl) ?_)
     refine aR (by simp [go_sem, hgs, hls, encSh, okAV, hx0, hsh, hwr, hle, h0le, h1le, htn, htk, hx, hm, hel, hnl, hb2, hb3, encPair] <;> rfl) ?_
     refine aR (by simp [go_sem, hgs, hls, encSh, okAV, hx0, hsh, hwr, hle, h0le, h1le, htn, htk, hx, hm, hel, hnl, hb2, hb3, encPair] <;> rfl) ?_
     exact next_intro (k + 1) (σ.objs.length + 2) (σ.toks.length + 2) 0 (hlt) (by omega) ⟨by simp [go_sem, hgs, hls, encSh, okAV, hx0, hsh, hwr, hle, h0le, h1le, htn, htk, hx, hm, hel, hnl, hb2, hb3, encPair, hw, hen, hnt, encPair, Nat.add_assoc], rfl, by simp, by simp, by simp [go_sem, hgs, hls, encSh, okAV, hx0, hsh, hwr, hle, h0le, h1le, htn, htk, hx, hm, hel, hnl, hb2, hb3, encPair, hw, hen, hnt, encPair, Nat.add_assoc], fun ob h => mem_app2 rfl rfl h, by simp [go_sem]⟩
    ·have hke : k = L1.length := by simp at h4; omega
     subst hke
     have hnl : (newN d env.length).length = L1.length := by rw [newN_len, hh, hl1]
     have hna : ((newN d env.length).map PV.str).take L1.length = (newN d env.length).map PV.str := List.take_of_length_le (by simp [hnl])
     refine awp_exit ?_
     refine then_exit ?_
     refine then_exit ?_
     refine inBlock_hit ?_
     refine awp_seq (aR (by simp [go_sem, hgs, hls, encSh, okAV, hx0, hsh, hwr, hle, h0le, h1le, htn, htk, hna] <;> rfl) ?_)
     refine awp_seq (awp_seq (awp_reg ?_))
     refine aL 1 (by simp [go_sem, hgs, hls, encSh, okAV, hx0, hsh, hwr, hle, h0le, h1le, htn, htk, hna] <;> rfl) ?_
     refine aF call149 ((c_Inner d hg.ne hg.n) _ (by exact hgl)) (by simp [go_sem, hgs, hls, encSh, okAV, hx0, hsh, hwr, hle, h0le, h1le, htn, htk, hna] <;> rfl) (by simp [go_sem, hgs, hls, encSh, okAV, hx0, hsh, hwr, hle, h0le, h1le, htn, htk, hna]) ?_
     refine aL 2 (by simp [go_sem, hgs, hls, encSh, okAV, hx0, hsh, hwr, hle, h0le, h1le, htn, htk, hna] <;> rfl) ?_
     refine al_nil ?_
     refine awp_adopt' 14 24 4 (by simp [go_sem] <;> rfl) ?_
     refine awp_block ?_
     refine awp_loop_headK (σ.objs.length + 2) (σ.toks.length + 3) 0 [1, 2, 3, 6, 9, 10, 84, 85] (fun k : Nat => [(14, .acc (((mapI (fun i x => mren x (env ++ bnd d i)) (inner d)).map enc).take k) (σ.toks.length + 2)), (86, .pv (.int .i64 ↑k))]) (fun k => { σ with objs := σ.objs ++ [.box [.pv (.int .i64 d.kind), .pv (.int .i64 d.num), .pv (.str d.text), .pv (.slice (d.kids.map enc))], .box [.pv (.int .i64 0), .pv (.int .i64 0), .pv (.str ⟨#[]⟩), .pv .nils]], toks := σ.toks ++ [⟨env.length + L1.length, 229, 2⟩, ⟨L1.length, 9, 1⟩, ⟨k, 24, 4⟩] }) (fun k => k ≤ (inner d).length) (fun k => (inner d).length - k) 0 (Nat.zero_le _) ⟨by simp [go_sem, hgs, hls, encSh, okAV, hx0, hsh, hwr, hle, h0le, h1le, htn, htk, hna], rfl, by simp, by simp, by simp [go_sem, hgs, hls, encSh, okAV, hx0, hsh, hwr, hle, h0le, h1le, htn, htk, hna], fun ob h => mem_app2 rfl rfl h, by simp [go_sem]⟩ ?_
     intro k hk
     refine awp_seq (aR (by simp [go_sem, hgs, hls, encSh, okAV, hx0, hsh, hwr, hle, h0le, h1le, htn, htk, hna] <;> rfl) ?_)
     refine awp_seq (awp_cond (by first | rfl | (simp [go_sem, hgs, hls, encSh, okAV, hx0, hsh, hwr, hle, h0le, h1le, htn, htk, hna] <;> rfl)) (fun h5 => ?_) (fun h5 => ?_))
     ·have hlt : k < (inner d).length := by simp at h5; omega
      have hw : IntKind.i64.wrap (↑k + 1) = (k : Int) + 1 := wrap_succ (by omega)
      obtain ⟨x, hx, hxm⟩ := get_lt hlt
      have hmn : ((mapI (fun i x => mren x (env ++ bnd d i)) (inner d)).map enc).take (k + 1) = ((mapI (fun i x => mren x (env ++ bnd d i)) (inner d)).map enc).take k ++ [enc (mren x (env ++ bnd d k))] := take_next (by rw [List.getElem?_map, mapI_get, hx]; rfl)
      have hm : min k (inner d).length = k := by omega
      have hb2 : (k + 1) * 56 ≤ 140737488355328 := by omega
      refine awp_skip ?_
      refine awp_seq (awp_block ?_)
      refine awp_seq (aR (by simp [go_sem, hgs, hls, encSh, okAV, hx0, hsh, hwr, hle, h0le, h1le, htn, htk, hna, hx, hm, hb2, mapI_length] <;> rfl) ?_)
      refine awp_seq (awp_reg ?_)
      refine aL 2 (by simp [go_sem, hgs, hls, encSh, okAV, hx0, hsh, hwr, hle, h0le, h1le, htn, htk, hna, hx, hm, hb2, mapI_length] <;> rfl) ?_
      refine aF call222 ((c_bound d hg k (by omega)) _ (by exact hgl)) (by simp [go_sem, hgs, hls, encSh, okAV, hx0, hsh, hwr, hle, h0le, h1le, htn, htk, hna, hx, hm, hb2, mapI_length] <;> rfl) (by simp [go_sem, hgs, hls, encSh, okAV, hx0, hsh, hwr, hle, h0le, h1le, htn, htk, hna, hx, hm, hb2, mapI_length]) ?_
      refine aL 2 (by simp [go_sem, hgs, hls, encSh, okAV, hx0, hsh, hwr, hle, h0le, h1le, htn, htk, hna, hx, hm, hb2, mapI_length] <;> rfl) ?_
      refine al_nil ?_
      refine awp_cond (by first | rfl | (simp [go_sem, hgs, hls, encSh, okAV, hx0, hsh, hwr, hle, h0le, h1le, htn, htk, hna, hx, hm, hb2, mapI_length] <;> rfl)) (fun h6 => ?_) (fun h6 => ?_)
      ·have hbn : bnd d k = L1.map D.text := ((hg.bnd_nms hk3 k).resolve_left (fun e => by rw [e] at h6; simp at h6)).trans hnd
       refine awp_reg ?_
       refine aL 4 (by simp [go_sem, hgs, hls, encSh, okAV, hx0, hsh, hwr, hle, h0le, h1le, htn, htk, hna, hx, hm, hb2, mapI_length] <;> rfl) ?_
       refine aF call150 (ih x (inner_mem hxm) (hg.part hxm) (env ++ bnd d k) (by have := bnd_len d k; have := D.size_kid_lt (inner_mem hxm); simp; omega) _ (by exact hgl)) (by simp [go_sem, hgs, hls, encSh, okAV, hx0, hsh, hwr, hle, h0le, h1le, htn, htk, hna, hx, hm, hb2, mapI_length] <;> rfl) (by simp [go_sem, hgs, hls, encSh, okAV, hx0, hsh, hwr, hle, h0le, h1le, htn, htk, hna, hx, hm, hb2, mapI_length, hbn]) ?_
       refine aL 3 (by simp [go_sem, hgs, hls, encSh, okAV, hx0, hsh, hwr, hle, h0le, h1le, htn, htk, hna, hx, hm, hb2, mapI_length] <;> rfl) ?_
       refine al_nil ?_
       refine aR (by simp [go_sem, hgs, hls, encSh, okAV, hx0, hsh, hwr, hle, h0le, h1le, htn, htk, hna, hx, hm, hb2, mapI_length] <;> rfl) ?_
       exact next_intro (k + 1) (σ.objs.length + 2) (σ.toks.length + 3) 0 (hlt) (by omega) ⟨by simp [go_sem, hgs, hls, encSh, okAV, hx0, hsh, hwr, hle, h0le, h1le, htn, htk, hna, hx, hm, hb2, mapI_length, hw, hmn], rfl, by simp, by simp, by simp [go_sem, hgs, hls, encSh, okAV, hx0, hsh, hwr, hle, h0le, h1le, htn, htk, hna, hx, hm, hb2, mapI_length, hw, hmn], fun ob h => mem_app2 rfl rfl h, by simp [go_sem]⟩
      ·have hbn : bnd d k = [] := by simpa using h6
       refine awp_reg ?_
       refine aL 4 (by simp [go_sem, hgs, hls, encSh, okAV, hx0, hsh, hwr, hle, h0le, h1le, htn, htk, hna, hx, hm, hb2, mapI_length] <;> rfl) ?_
       refine aF call150 (ih x (inner_mem hxm) (hg.part hxm) (env ++ bnd d k) (by have := bnd_len d k; have := D.size_kid_lt (inner_mem hxm); simp; omega) _ (by exact hgl)) (by simp [go_sem, hgs, hls, encSh, okAV, hx0, hsh, hwr, hle, h0le, h1le, htn, htk, hna, hx, hm, hb2, mapI_length] <;> rfl) (by simp [go_sem, hgs, hls, encSh, okAV, hx0, hsh, hwr, hle, h0le, h1le, htn, htk, hna, hx, hm, hb2, mapI_length, hbn]) ?_
       refine aL 3 (by simp [go_sem, hgs, hls, encSh, okAV, hx0, hsh, hwr, hle, h0le, h1le, htn, htk, hna, hx, hm, hb2, mapI_length] <;> rfl) ?_
       refine al_nil ?_
       refine aR (by simp [go_sem, hgs, hls, encSh, okAV, hx0, hsh, hwr, hle, h0le, h1le, htn, htk, hna, hx, hm, hb2, mapI_length] <;> rfl) ?_
       exact next_intro (k + 1) (σ.objs.length + 2) (σ.toks.length + 3) 0 (hlt) (by omega) ⟨by simp [go_sem, hgs, hls, encSh, okAV, hx0, hsh, hwr, hle, h0le, h1le, htn, htk, hna, hx, hm, hb2, mapI_length, hw, hmn], rfl, by simp, by simp, by simp [go_sem, hgs, hls, encSh, okAV, hx0, hsh, hwr, hle, h0le, h1le, htn, htk, hna, hx, hm, hb2, mapI_length, hw, hmn], fun ob h => mem_app2 rfl rfl h, by simp [go_sem]⟩
     ·have hke : k = (inner d).length := by simp at h5; omega
      subst hke
      have hma : ((mapI (fun i x => mren x (env ++ bnd d i)) (inner d)).map enc).take (inner d).length = (mapI (fun i x => mren x (env ++ bnd d i)) (inner d)).map enc := List.take_of_length_le (by simp [mapI_length])
      refine awp_exit ?_
      refine then_exit ?_
      refine then_exit ?_
      refine inBlock_hit ?_
      refine awp_seq (awp_reg ?_)
      refine aL 3 (by simp [go_sem, hgs, hls, encSh, okAV, hx0, hsh, hwr, hle, h0le, h1le, htn, htk, hna, hma] <;> rfl) ?_
      refine aF call225 ((c_with d (hg.ne hk3) (newN d env.length) (mapI (fun i x => mren x (env ++ bnd d i)) (inner d)) (by rw [newN_len, hh, mapI_length]; omega)) _ (by exact hgl)) (by simp [go_sem, hgs, hls, encSh, okAV, hx0, hsh, hwr, hle, h0le, h1le, htn, htk, hna, hma] <;> rfl) (by simp [go_sem, hgs, hls, encSh, okAV, hx0, hsh, hwr, hle, h0le, h1le, htn, htk, hna, hma]) ?_
      refine aL 1 (by simp [go_sem, hgs, hls, encSh, okAV, hx0, hsh, hwr, hle, h0le, h1le, htn, htk, hna, hma] <;> rfl) ?_
      refine al_nil ?_
      refine awp_ret ?_
      have hM : mren d env = dlist (d.head :: (newN d env.length).map dsym ++ mapI (fun i x => mren x (env ++ bnd d i)) (inner d)) := by rw [mren_eq, if_neg (by rw [h0]; decide), if_neg (by rw [h2]; decide), if_neg (by simpa using hq)]
      refine ends_ret (by simp [go_sem] <;> rfl) (by simp [go_sem]) ?_
      exact ⟨by simp [go_sem, hM], by simp [go_sem]⟩

end Go.Proofs.YtnibcmaaehkhlaaGreatDoor

namespace Go.Proofs.YtnibcmaaehkhlaaGreatDoor
open Go Go.Aw
variable {kr : KR}
set_option maxHeartbeats 1000000 in
theorem c_flat_Own (d : D) (hd : d.size ≤ 1000000000) : Pur Tryz.prog (GL kr) 75 [.pv (enc d)] (.pv (enc d)) := by
 refine pur_of fun σ hgl => ?_
 refine acalls_of tyOk Tryz.func75 rfl (by simp [Tryz.f75]) ?_
 refine awp_seq (aR (by simp [go_sem] <;> rfl) ?_)
 refine awp_seq (awp_reg ?_)
 refine aL 1 (by simp [go_sem] <;> rfl) ?_
 refine aF call62 ((c_own d hd) _ (by exact hgl)) (by simp [go_sem] <;> rfl) (by simp [go_sem]) ?_
 refine aL 1 (by simp [go_sem] <;> rfl) ?_
 refine al_nil ?_
 refine awp_ret ?_
 refine ends_ret (by simp [go_sem] <;> rfl) (by simp [go_sem]) ?_
 exact ⟨by simp [go_sem], by simp [go_sem]⟩

set_option maxHeartbeats 1000000 in
theorem c_mPlain (d : D) (hd : d.size ≤ 100000000) : Pur Tryz.prog (GL kr) 77 [.pv (enc d)] (.tuple [.pv (enc (mplain d).1), .pv (.int .i64 (mplain d).2)]) := by
 refine pur_of fun σ hgl => ?_
 refine acalls_of tyOk Tryz.func77 rfl (by simp [Tryz.f77]) ?_
 refine awp_seq (aR (by simp [go_sem] <;> rfl) ?_)
 refine awp_seq (awp_seq (awp_reg ?_))
 refine aL 1 (by simp [go_sem] <;> rfl) ?_
 refine aF call72 ((c_mCheck d (by omega)) _ (by exact hgl)) (by simp [go_sem] <;> rfl) (by simp [go_sem]) ?_
 refine aL 1 (by simp [go_sem] <;> rfl) ?_
 refine al_nil ?_
 refine awp_seq (aR (by simp [go_sem] <;> rfl) ?_)
 refine awp_cond (by first | rfl | (simp [go_sem] <;> rfl)) (fun h0 => ?_) (fun h0 => ?_)
 ·refine awp_seq ?_
  refine aR (by simp [go_sem] <;> rfl) ?_
  refine awp_ret ?_
  refine then_ret ?_
  have hM : mplain d = (dnone, mcheck d) := by unfold mplain; rw [if_pos h0]
  refine ends_ret (by simp [go_sem] <;> rfl) (by simp [go_sem]) ?_
  exact ⟨by simp [go_sem, hM, enc_none], by simp [go_sem, setS_new]⟩
 ·have hz : mcheck d = 0 := by simpa using h0
  have hg := mcheck_good hz
  have henv : (envP ([] : List ByteArray)) = [] := rfl
  have hfl : (mfree d [] []).length ≤ d.size := by have := mfree_len d [] []; simpa using this
  obtain ⟨S, hS⟩ : ∃ S, S = mused d := ⟨_, rfl⟩
  have hS2 : (mbnd (mren d [])).foldl addS [] = S := hS.symm
  refine awp_skip ?_
  refine awp_seq (awp_reg ?_)
  refine aL 1 (by simp [go_sem, hS2, henv] <;> rfl) ?_
  refine aF call150 (c_renamed d hg [] (by simp; omega) _ (by exact hgl)) (by simp [go_sem, hS2, henv] <;> rfl) (by simp [go_sem, hS2, henv, henv]) ?_
  refine aL 2 (by simp [go_sem, hS2, henv] <;> rfl) ?_
  refine al_nil ?_
  refine awp_seq (aR (by simp [go_sem, hS2, henv] <;> rfl) ?_)
  refine awp_seq (awp_reg ?_)
  refine aL 2 (by simp [go_sem, hS2, henv] <;> rfl) ?_
  refine al_callW rfl rfl rfl (by simp [go_sem, hS2, henv] <;> rfl) call153 (c_mark (mren d []) (mren_ok hg []) (by have := mren_size hg []; omega) [] _ σ.objs.length (by exact hgl) (by simp [tK, tV])) (by simp [go_sem, hS2, henv] <;> rfl) (by simp [go_sem, hS2, henv]) rfl rfl ?_
  rintro r σ' ⟨rfl, rfl⟩
  refine al_nil ?_
  refine awp_seq (awp_seq (awp_reg ?_))
  refine aL 1 (by simp [go_sem, hS2, henv, setS_new] <;> rfl) ?_
  refine aF call73 ((c_FreeNames d hg hd) _ (by exact hgl)) (by simp [go_sem, hS2, henv, setS_new] <;> rfl) (by simp [go_sem, hS2, henv, setS_new]) ?_
  refine aL 2 (by simp [go_sem, hS2, henv, setS_new] <;> rfl) ?_
  refine al_nil ?_
  refine awp_block ?_
  refine awp_loop_headK (σ.objs.length + 1) σ.toks.length 3 [2, 3, 5, 6, 22, 23] (fun k : Nat => [(24, .pv (.int .i64 ↑k))]) (fun k => { σ with objs := σ.objs ++ [.map (tK S) (tV S)] }) (fun k => k ≤ (mfree d [] []).length ∧ NotYet (fun x => pname x && memB S x) (mfree d [] []) k) (fun k => (mfree d [] []).length - k) 0 (⟨Nat.zero_le _, .zero⟩) ⟨by simp [go_sem, hS2, henv, setS_new], rfl, by simp, by simp, by simp [go_sem, hS2, henv, setS_new], fun ob h => mem_app1 rfl h, by simp [go_sem]⟩ ?_
  rintro k ⟨hk, hn⟩
  refine awp_seq (aR (by simp [go_sem, hS2, henv, setS_new] <;> rfl) ?_)
  refine awp_seq (awp_cond (by first | rfl | (simp [go_sem, hS2, henv, setS_new] <;> rfl)) (fun h1 => ?_) (fun h1 => ?_))
  ·have hlt : k < (mfree d [] []).length := by simp at h1; omega
   have hw : IntKind.i64.wrap (↑k + 1) = (k : Int) + 1 := wrap_succ (by omega)
   obtain ⟨x, hx, hxm⟩ := get_lt hlt
   have hlk := fun (s : St) (ho : s.σ.objs[σ.objs.length]? = some (.map (tK S) (tV S))) => look_set (ty := ty) (s := s) (t := 95) (S := S) (o := σ.objs.length) rfl rfl rfl rfl rfl rfl rfl ho x
   refine awp_skip ?_
   refine awp_seq (awp_block ?_)
   refine awp_seq (aR (by simp [go_sem, hS2, henv, setS_new, hx, hlk] <;> rfl) ?_)
   refine awp_seq (awp_reg ?_)
   refine aL 1 (by simp [go_sem, hS2, henv, setS_new, hx, hlk] <;> rfl) ?_
   refine aF call154 ((c_plainName x (by have := free_short hg hxm; omega)) _ (by exact hgl)) (by simp [go_sem, hS2, henv, setS_new, hx, hlk] <;> rfl) (by simp [go_sem, hS2, henv, setS_new, hx, hlk]) ?_
   refine aL 1 (by simp [go_sem, hS2, henv, setS_new, hx, hlk] <;> rfl) ?_
   refine al_splitT 30 (by first | rfl | (simp [go_sem, hS2, henv, setS_new, hx, hlk] <;> rfl)) (fun h2 => ?_) (fun h2 => ?_)
   ·refine aLG 3 30 true (by simp [go_sem, hS2, henv, setS_new, hx, hlk] <;> rfl) ?_
    refine aL 1 (by simp [go_sem, hS2, henv, setS_new, hx, hlk] <;> rfl) ?_
    refine al_nil ?_
    refine awp_cond (by first | rfl | (simp [go_sem, hS2, henv, setS_new, hx, hlk] <;> rfl)) (fun h3 => ?_) (fun h3 => ?_)
    ·refine awp_seq ?_
     refine aR (by simp [go_sem, hS2, henv, setS_new, hx, hlk] <;> rfl) ?_
     refine awp_ret ?_
     refine inBlock_ret ?_
     refine then_ret ?_
     refine then_ret ?_
     refine inBlock_ret ?_
     refine then_ret ?_
     have hcl : mclash d = true := by unfold mclash; rw [← hS]; exact List.any_eq_true.2 ⟨x, hxm, by rw [h2, h3]; rfl⟩
     have hM : mplain d = (dnone, 6) := by unfold mplain; rw [if_neg (by rw [h0]; decide), if_pos hcl]
     refine ends_ret (by simp [go_sem] <;> rfl) (by simp [go_sem]) ?_
     exact ⟨by simp [go_sem, hM, enc_none], by simp [go_sem, setS_new]⟩
    ·refine awp_skip ?_
     refine aR (by simp [go_sem, hS2, henv, setS_new, hx, hlk] <;> rfl) ?_
     exact next_intro (k + 1) (σ.objs.length + 1) σ.toks.length 3 (⟨hlt, hn.succ hx (by simp [h0, h1, h2, h3])⟩) (by omega) ⟨by simp [go_sem, hS2, henv, setS_new, hx, hlk, hw], rfl, by simp, by simp, by simp [go_sem, hS2, henv, setS_new, hx, hlk, hw], fun ob h => mem_app1 rfl h, by simp [go_sem]⟩
   ·refine aK 3 30 true ?_
    refine aL 1 (by simp [go_sem, hS2, henv, setS_new, hx, hlk] <;> rfl) ?_
    refine al_nil ?_
    refine awp_cond (b := false) (by simp [go_sem, hS2, henv, setS_new, hx, hlk, h0, h1, h2]) (fun h => ?_) (fun h => ?_)
    ·cases h
    refine awp_skip ?_
    refine aR (by simp [go_sem, hS2, henv, setS_new, hx, hlk] <;> rfl) ?_
    exact next_intro (k + 1) (σ.objs.length + 1) σ.toks.length 3 (⟨hlt, hn.succ hx (by simp [h0, h1, h2])⟩) (by omega) ⟨by simp [go_sem, hS2, henv, setS_new, hx, hlk, hw], rfl, by simp, by simp, by simp [go_sem, hS2, henv, setS_new, hx, hlk, hw], fun ob h => mem_app1 rfl h, by simp [go_sem]⟩
  ·have hke : k = (mfree d [] []).length := by simp at h1; omega
   subst hke
   have hcl : mclash d = false := by unfold mclash; rw [← hS]; exact hn.any
   refine awp_exit ?_
   refine then_exit ?_
   refine then_exit ?_
   refine inBlock_hit ?_
   refine awp_seq (awp_seq (awp_reg ?_))
   refine aL 1 (by simp [go_sem, hS2, henv, setS_new] <;> rfl) ?_
   refine aF call63 ((c_datum_Check (mren d []) (by have := mren_size hg []; omega)) _ (by exact hgl)) (by simp [go_sem, hS2, henv, setS_new] <;> rfl) (by simp [go_sem, hS2, henv, setS_new]) ?_
   refine aL 1 (by simp [go_sem, hS2, henv, setS_new] <;> rfl) ?_
   refine al_nil ?_
   refine awp_cond (by first | rfl | (simp [go_sem, hS2, henv, setS_new] <;> rfl)) (fun h4 => ?_) (fun h4 => ?_)
   ·refine awp_seq ?_
    refine aR (by simp [go_sem, hS2, henv, setS_new] <;> rfl) ?_
    refine awp_ret ?_
    refine then_ret ?_
    have hM : mplain d = (dnone, 3) := by unfold mplain; rw [if_neg (by rw [h0]; decide), hcl, if_neg (by decide), if_pos h4]
    refine ends_ret (by simp [go_sem] <;> rfl) (by simp [go_sem]) ?_
    exact ⟨by simp [go_sem, hM, enc_none], by simp [go_sem, setS_new]⟩
   ·refine awp_skip ?_
    refine awp_seq (awp_reg ?_)
    refine aL 1 (by simp [go_sem, hS2, henv, setS_new] <;> rfl) ?_
    refine aF call75 ((c_flat_Own (mren d []) (by have := mren_size hg []; omega)) _ (by exact hgl)) (by simp [go_sem, hS2, henv, setS_new] <;> rfl) (by simp [go_sem, hS2, henv, setS_new]) ?_
    refine aL 2 (by simp [go_sem, hS2, henv, setS_new] <;> rfl) ?_
    refine al_nil ?_
    refine awp_ret ?_
    have hM : mplain d = (mren d [], 0) := by unfold mplain; rw [if_neg (by rw [h0]; decide), hcl, if_neg (by decide), if_neg (by rw [h4]; decide)]
    refine ends_ret (by simp [go_sem] <;> rfl) (by simp [go_sem]) ?_
    exact ⟨by simp [go_sem, hM, enc_none], by simp [go_sem, setS_new]⟩

set_option maxHeartbeats 1000000 in
theorem c_Lifted_1 (d : D) (hd : okF d) : Pur Tryz.prog (GL kr) 156 [.pv (enc d)] (.pv (enc (liftF d))) := by
 refine pur_of fun σ hgl => ?_
 refine acalls_of tyOk Tryz.func156 rfl (by simp [Tryz.f156]) ?_
 refine awp_seq (aR (by simp [go_sem] <;> rfl) ?_)
 refine awp_seq (awp_seq (awp_reg ?_))
 refine aL 4 (by simp [go_sem] <;> rfl) ?_
 refine al_splitT 6 (by first | rfl | (simp [go_sem] <;> rfl)) (fun h0 => ?_) (fun h0 => ?_)
 ·refine aK 2 6 false ?_
  refine aL 2 (by simp [go_sem] <;> rfl) ?_
  refine aK 2 10 false ?_
  refine aL 1 (by simp [go_sem] <;> rfl) ?_
  refine al_nil ?_
  refine awp_cond (b := true) (by simp [go_sem, h0]) (fun h => ?_) (fun h => ?_)
  rotate_left
  ·cases h
  refine awp_seq (awp_regDC tyOk tySz 2 (by kernel_rfl) (by decide) ?_)
  refine ul_fn (by first | (intro _ _ hh; exact hh) | simp [go_sem]) rfl rfl rfl rfl (by simp [go_sem] <;> rfl) call57 ((c_flat_Sym sLift) _ (by exact hgl)) (by simp [go_sem] <;> rfl) (by simp [go_sem, eLift]) rfl rfl ?_
  refine ul_run 1 (by simp [go_sem] <;> rfl) ?_
  refine ul_nil ?_
  refine aL 1 (by simp [go_sem] <;> rfl) ?_
  refine aF call61 ((c_flat_List [dsym sLift, d]) _ (by exact hgl)) (by simp [go_sem] <;> rfl) (by simp [go_sem]) ?_
  refine aL 1 (by simp [go_sem] <;> rfl) ?_
  refine al_nil ?_
  refine awp_ret ?_
  refine then_ret ?_
  refine ends_ret (by simp [go_sem] <;> rfl) (by simp [go_sem]) ?_
  exact ⟨by simp only [liftF, h0, bA, bB, bC, bD, bE, bF, bG, bH, bI, bJ, Bool.false_eq_true, if_true, if_false]; simp [go_sem], by simp [go_sem]⟩
 ·refine aLG 1 6 false (by simp [go_sem] <;> rfl) ?_
  refine al_fnG 6 false false (by simp [go_sem]) rfl (by simp [go_sem]) rfl rfl (by simp [go_sem] <;> rfl) call147 ((c_Is d sQuote (fun h => (hd.1 h).1)) _ (by exact hgl)) (by simp [go_sem] <;> rfl) (by simp [go_sem, eQuote]) rfl rfl ?_
  refine aL 2 (by simp [go_sem] <;> rfl) ?_
  refine al_splitT 10 (by first | rfl | (simp [go_sem] <;> rfl)) (fun h1 => ?_) (fun h1 => ?_)
  ·refine aK 2 10 false ?_
   refine aL 1 (by simp [go_sem] <;> rfl) ?_
   refine al_nil ?_
   refine awp_cond (b := true) (by simp [go_sem, h0, h1]) (fun h => ?_) (fun h => ?_)
   rotate_left
   ·cases h
   refine awp_seq (awp_regDC tyOk tySz 2 (by kernel_rfl) (by decide) ?_)
   refine ul_fn (by first | (intro _ _ hh; exact hh) | simp [go_sem]) rfl rfl rfl rfl (by simp [go_sem] <;> rfl) call57 ((c_flat_Sym sLift) _ (by exact hgl)) (by simp [go_sem] <;> rfl) (by simp [go_sem, eLift]) rfl rfl ?_
   refine ul_run 1 (by simp [go_sem] <;> rfl) ?_
   refine ul_nil ?_
   refine aL 1 (by simp [go_sem] <;> rfl) ?_
   refine aF call61 ((c_flat_List [dsym sLift, d]) _ (by exact hgl)) (by simp [go_sem] <;> rfl) (by simp [go_sem]) ?_
   refine aL 1 (by simp [go_sem] <;> rfl) ?_
   refine al_nil ?_
   refine awp_ret ?_
   refine then_ret ?_
   refine ends_ret (by simp [go_sem] <;> rfl) (by simp [go_sem]) ?_
   exact ⟨by simp only [liftF, h0, h1, bA, bB, bC, bD, bE, bF, bG, bH, bI, bJ, Bool.false_eq_true, if_true, if_false]; simp [go_sem], by simp [go_sem]⟩
  ·refine aLG 1 10 false (by simp [go_sem] <;> rfl) ?_
   refine al_fnG 10 false false (by simp [go_sem]) rfl (by simp [go_sem]) rfl rfl (by simp [go_sem] <;> rfl) call147 ((c_Is d sFn (fun h => (hd.1 h).1)) _ (by exact hgl)) (by simp [go_sem] <;> rfl) (by simp [go_sem, eFn]) rfl rfl ?_
   refine aL 1 (by simp [go_sem] <;> rfl) ?_
   refine al_nil ?_
   refine awp_cond (by first | rfl | (simp [go_sem] <;> rfl)) (fun h2 => ?_) (fun h2 => ?_)
   ·refine awp_seq ?_
    refine awp_regDC tyOk tySz 2 (by kernel_rfl) (by decide) ?_
    refine ul_fn (by first | (intro _ _ hh; exact hh) | simp [go_sem]) rfl rfl rfl rfl (by simp [go_sem] <;> rfl) call57 ((c_flat_Sym sLift) _ (by exact hgl)) (by simp [go_sem] <;> rfl) (by simp [go_sem, eLift]) rfl rfl ?_
    refine ul_run 1 (by simp [go_sem] <;> rfl) ?_
    refine ul_nil ?_
    refine aL 1 (by simp [go_sem] <;> rfl) ?_
    refine aF call61 ((c_flat_List [dsym sLift, d]) _ (by exact hgl)) (by simp [go_sem] <;> rfl) (by simp [go_sem]) ?_
    refine aL 1 (by simp [go_sem] <;> rfl) ?_
    refine al_nil ?_
    refine awp_ret ?_
    refine then_ret ?_
    refine ends_ret (by simp [go_sem] <;> rfl) (by simp [go_sem]) ?_
    exact ⟨by simp only [liftF, h0, h1, h2, bA, bB, bC, bD, bE, bF, bG, bH, bI, bJ, Bool.false_eq_true, if_true, if_false]; simp [go_sem], by simp [go_sem]⟩
   ·refine awp_skip ?_
    refine awp_seq (aR (by simp [go_sem] <;> rfl) ?_)
    refine awp_ret ?_
    refine ends_ret (by simp [go_sem] <;> rfl) (by simp [go_sem]) ?_
    exact ⟨by simp only [liftF, h0, h1, h2, bA, bB, bC, bD, bE, bF, bG, bH, bI, bJ, Bool.false_eq_true, if_true, if_false]; simp [go_sem], by simp [go_sem]⟩

set_option maxHeartbeats 1000000 in
theorem c_mLifted (d : D) (hd : d.size ≤ 100000000) : Pur Tryz.prog (GL kr) 79 [.pv (enc d)] (.tuple [.pv (enc (mlifted d).1), .pv (.int .i64 (mlifted d).2)]) := by
 refine pur_of fun σ hgl => ?_
 refine acalls_of tyOk Tryz.func79 rfl (by simp [Tryz.f79]) ?_
 refine awp_seq (aR (by simp [go_sem] <;> rfl) ?_)
 refine awp_seq (awp_seq (awp_reg ?_))
 refine aL 1 (by simp [go_sem] <;> rfl) ?_
 refine aF call72 ((c_mCheck d (by omega)) _ (by exact hgl)) (by simp [go_sem] <;> rfl) (by simp [go_sem]) ?_
 refine aL 1 (by simp [go_sem] <;> rfl) ?_
 refine al_nil ?_
 refine awp_seq (aR (by simp [go_sem] <;> rfl) ?_)
 refine awp_cond (by first | rfl | (simp [go_sem] <;> rfl)) (fun h0 => ?_) (fun h0 => ?_)
 ·refine awp_seq ?_
  refine aR (by simp [go_sem] <;> rfl) ?_
  refine awp_ret ?_
  refine then_ret ?_
  have hM : mlifted d = (dnone, mcheck d) := by unfold mlifted; rw [if_pos h0]
  refine ends_ret (by simp [go_sem] <;> rfl) (by simp [go_sem]) ?_
  exact ⟨by simp [go_sem, hM, enc_none], by simp [go_sem, setS_new]⟩
 ·have hz : mcheck d = 0 := by simpa using h0
  have hg := mcheck_good hz
  refine awp_skip ?_
  refine awp_seq (awp_seq (awp_reg ?_))
  refine aL 1 (by simp [go_sem] <;> rfl) ?_
  refine aF call74 ((c_one d hg (by omega)) _ (by exact hgl)) (by simp [go_sem] <;> rfl) (by simp [go_sem]) ?_
  refine aL 1 (by simp [go_sem] <;> rfl) ?_
  refine al_nil ?_
  refine awp_cond (by first | rfl | (simp [go_sem] <;> rfl)) (fun h1 => ?_) (fun h1 => ?_)
  ·refine awp_seq ?_
   refine aR (by simp [go_sem] <;> rfl) ?_
   refine awp_ret ?_
   refine then_ret ?_
   have hM : mlifted d = (dnone, 13) := by unfold mlifted; rw [if_neg (by rw [h0]; decide), if_pos h1]
   refine ends_ret (by simp [go_sem] <;> rfl) (by simp [go_sem]) ?_
   exact ⟨by simp [go_sem, hM, enc_none], by simp [go_sem, setS_new]⟩
  ·refine awp_skip ?_
   refine awp_seq (awp_reg ?_)
   refine aL 1 (by simp [go_sem] <;> rfl) ?_
   refine aF call155 (c_mapped d hg (by omega) 156 call156 liftF σ hgl (fun x τ hτ hx => c_Lifted_1 x hx τ hτ)) (by simp [go_sem] <;> rfl) (by simp [go_sem]) ?_
   refine aF call75 ((c_flat_Own (mmap liftF d) (by have := mlifted_size hg; omega)) _ (by exact hgl)) (by simp [go_sem] <;> rfl) (by simp [go_sem]) ?_
   refine aL 2 (by simp [go_sem] <;> rfl) ?_
   refine al_nil ?_
   refine awp_seq (awp_seq (awp_reg ?_))
   refine aL 1 (by simp [go_sem] <;> rfl) ?_
   refine aF call63 ((c_datum_Check (mmap liftF d) (by have := mlifted_size hg; omega)) _ (by exact hgl)) (by simp [go_sem] <;> rfl) (by simp [go_sem]) ?_
   refine aL 1 (by simp [go_sem] <;> rfl) ?_
   refine al_nil ?_
   refine awp_cond (by first | rfl | (simp [go_sem] <;> rfl)) (fun h2 => ?_) (fun h2 => ?_)
   ·refine awp_seq ?_
    refine aR (by simp [go_sem] <;> rfl) ?_
    refine awp_ret ?_
    refine then_ret ?_
    have hM : mlifted d = (dnone, 3) := by unfold mlifted; rw [if_neg (by rw [h0]; decide), if_neg (by rw [h1]; decide), if_pos h2]
    refine ends_ret (by simp [go_sem] <;> rfl) (by simp [go_sem]) ?_
    exact ⟨by simp [go_sem, hM, enc_none], by simp [go_sem, setS_new]⟩
   ·refine awp_skip ?_
    refine awp_seq (aR (by simp [go_sem] <;> rfl) ?_)
    refine awp_ret ?_
    have hM : mlifted d = (mmap liftF d, 0) := by unfold mlifted; rw [if_neg (by rw [h0]; decide), if_neg (by rw [h1]; decide), if_neg (by rw [h2]; decide)]
    refine ends_ret (by simp [go_sem] <;> rfl) (by simp [go_sem]) ?_
    exact ⟨by simp [go_sem, hM, enc_none], by simp [go_sem, setS_new]⟩

end Go.Proofs.YtnibcmaaehkhlaaGreatDoor

namespace Go.Proofs.YtnibcmaaehkhlaaGreatDoor
open Go Go.Aw
variable {kr : KR}
set_option maxHeartbeats 1000000 in
theorem c_Arity07 (s : ByteArray) : Pur Tryz.prog (GL kr) 21 [.pv (.str s)] (.tuple [.pv (.int .i64 (arity s).1), .pv (.bool (arity s).2)]) := by
 rw [← arityR_eq]
 refine pur_of fun σ hgl => ?_
 refine acalls_of tyOk Tryz.func21 rfl (by simp [Tryz.f21]) ?_
 refine awp_seq (aR (by simp [go_sem] <;> rfl) ?_)
 refine awp_seq (awp_seq (aR (by simp [go_sem] <;> rfl) ?_))
 refine awp_block ?_
 refine awp_seq (awp_seq (aR (by simp [go_sem] <;> rfl) ?_))
 refine awp_cond (by first | rfl | (simp [go_sem] <;> rfl)) (fun h0 => ?_) (fun h0 => ?_)
 ·refine awp_skip ?_
  refine awp_cond (b := true) (by simp [go_sem, h0]) (fun h => ?_) (fun h => ?_)
  rotate_left
  ·cases h
  refine awp_seq (aR (by simp [go_sem] <;> rfl) ?_)
  refine awp_ret ?_
  refine inBlock_ret ?_
  refine then_ret ?_
  refine ends_ret (by simp [go_sem] <;> rfl) (by simp [go_sem]) ?_
  exact ⟨by simp only [arityR, ar2, ar1, List.any_cons, List.any_nil, h0, bA, bB, bC, bD, bE, bF, bG, bH, bI, bJ, Bool.false_eq_true, if_true, if_false]; simp [go_sem], by simp [go_sem]⟩
 ·refine awp_seq ?_
  refine aR (by simp [go_sem] <;> rfl) ?_
  refine awp_cond (by first | rfl | (simp [go_sem] <;> rfl)) (fun h1 => ?_) (fun h1 => ?_)
  ·refine awp_skip ?_
   refine awp_cond (b := true) (by simp [go_sem, h0, h1]) (fun h => ?_) (fun h => ?_)
   rotate_left
   ·cases h
   refine awp_seq (aR (by simp [go_sem] <;> rfl) ?_)
   refine awp_ret ?_
   refine inBlock_ret ?_
   refine then_ret ?_
   refine ends_ret (by simp [go_sem] <;> rfl) (by simp [go_sem]) ?_
   exact ⟨by simp only [arityR, ar2, ar1, List.any_cons, List.any_nil, h0, h1, bA, bB, bC, bD, bE, bF, bG, bH, bI, bJ, Bool.false_eq_true, if_true, if_false]; simp [go_sem], by simp [go_sem]⟩
  ·refine awp_seq ?_
   refine aR (by simp [go_sem] <;> rfl) ?_
   refine awp_cond (by first | rfl | (simp [go_sem] <;> rfl)) (fun h2 => ?_) (fun h2 => ?_)
   ·refine awp_skip ?_
    refine awp_cond (b := true) (by simp [go_sem, h0, h1, h2]) (fun h => ?_) (fun h => ?_)
    rotate_left
    ·cases h
    refine awp_seq (aR (by simp [go_sem] <;> rfl) ?_)
    refine awp_ret ?_
    refine inBlock_ret ?_
    refine then_ret ?_
    refine ends_ret (by simp [go_sem] <;> rfl) (by simp [go_sem]) ?_
    exact ⟨by simp only [arityR, ar2, ar1, List.any_cons, List.any_nil, h0, h1, h2, bA, bB, bC, bD, bE, bF, bG, bH, bI, bJ, Bool.false_eq_true, if_true, if_false]; simp [go_sem], by simp [go_sem]⟩
   ·refine awp_seq ?_
    refine aR (by simp [go_sem] <;> rfl) ?_
    refine awp_cond (by first | rfl | (simp [go_sem] <;> rfl)) (fun h3 => ?_) (fun h3 => ?_)
    ·refine awp_skip ?_
     refine awp_cond (b := true) (by simp [go_sem, h0, h1, h2, h3]) (fun h => ?_) (fun h => ?_)
     rotate_left
     ·cases h
     refine awp_seq (aR (by simp [go_sem] <;> rfl) ?_)
     refine awp_ret ?_
     refine inBlock_ret ?_
     refine then_ret ?_
     refine ends_ret (by simp [go_sem] <;> rfl) (by simp [go_sem]) ?_
     exact ⟨by simp only [arityR, ar2, ar1, List.any_cons, List.any_nil, h0, h1, h2, h3, bA, bB, bC, bD, bE, bF, bG, bH, bI, bJ, Bool.false_eq_true, if_true, if_false]; simp [go_sem], by simp [go_sem]⟩
    ·refine awp_seq ?_
     refine aR (by simp [go_sem] <;> rfl) ?_
     refine awp_cond (by first | rfl | (simp [go_sem] <;> rfl)) (fun h4 => ?_) (fun h4 => ?_)
     ·refine awp_skip ?_
      refine awp_cond (b := true) (by simp [go_sem, h0, h1, h2, h3, h4]) (fun h => ?_) (fun h => ?_)
      rotate_left
      ·cases h
      refine awp_seq (aR (by simp [go_sem] <;> rfl) ?_)
      refine awp_ret ?_
      refine inBlock_ret ?_
      refine then_ret ?_
      refine ends_ret (by simp [go_sem] <;> rfl) (by simp [go_sem]) ?_
      exact ⟨by simp only [arityR, ar2, ar1, List.any_cons, List.any_nil, h0, h1, h2, h3, h4, bA, bB, bC, bD, bE, bF, bG, bH, bI, bJ, Bool.false_eq_true, if_true, if_false]; simp [go_sem], by simp [go_sem]⟩
     ·refine awp_seq ?_
      refine aR (by simp [go_sem] <;> rfl) ?_
      refine awp_cond (by first | rfl | (simp [go_sem] <;> rfl)) (fun h5 => ?_) (fun h5 => ?_)
      ·refine awp_skip ?_
       refine awp_cond (b := true) (by simp [go_sem, h0, h1, h2, h3, h4, h5]) (fun h => ?_) (fun h => ?_)
       rotate_left
       ·cases h
       refine awp_seq (aR (by simp [go_sem] <;> rfl) ?_)
       refine awp_ret ?_
       refine inBlock_ret ?_
       refine then_ret ?_
       refine ends_ret (by simp [go_sem] <;> rfl) (by simp [go_sem]) ?_
       exact ⟨by simp only [arityR, ar2, ar1, List.any_cons, List.any_nil, h0, h1, h2, h3, h4, h5, bA, bB, bC, bD, bE, bF, bG, bH, bI, bJ, Bool.false_eq_true, if_true, if_false]; simp [go_sem], by simp [go_sem]⟩
      ·refine awp_seq ?_
       refine aR (by simp [go_sem] <;> rfl) ?_
       refine awp_cond (by first | rfl | (simp [go_sem] <;> rfl)) (fun h6 => ?_) (fun h6 => ?_)
       ·refine awp_skip ?_
        refine awp_cond (b := true) (by simp [go_sem, h0, h1, h2, h3, h4, h5, h6]) (fun h => ?_) (fun h => ?_)
        rotate_left
        ·cases h
        refine awp_seq (aR (by simp [go_sem] <;> rfl) ?_)
        refine awp_ret ?_
        refine inBlock_ret ?_
        refine then_ret ?_
        refine ends_ret (by simp [go_sem] <;> rfl) (by simp [go_sem]) ?_
        exact ⟨by simp only [arityR, ar2, ar1, List.any_cons, List.any_nil, h0, h1, h2, h3, h4, h5, h6, bA, bB, bC, bD, bE, bF, bG, bH, bI, bJ, Bool.false_eq_true, if_true, if_false]; simp [go_sem], by simp [go_sem]⟩
       ·refine awp_seq ?_
        refine aR (by simp [go_sem] <;> rfl) ?_
        refine awp_cond (by first | rfl | (simp [go_sem] <;> rfl)) (fun h7 => ?_) (fun h7 => ?_)
        ·refine awp_skip ?_
         refine awp_cond (b := true) (by simp [go_sem, h0, h1, h2, h3, h4, h5, h6, h7]) (fun h => ?_) (fun h => ?_)
         rotate_left
         ·cases h
         refine awp_seq (aR (by simp [go_sem] <;> rfl) ?_)
         refine awp_ret ?_
         refine inBlock_ret ?_
         refine then_ret ?_
         refine ends_ret (by simp [go_sem] <;> rfl) (by simp [go_sem]) ?_
         exact ⟨by simp only [arityR, ar2, ar1, List.any_cons, List.any_nil, h0, h1, h2, h3, h4, h5, h6, h7, bA, bB, bC, bD, bE, bF, bG, bH, bI, bJ, Bool.false_eq_true, if_true, if_false]; simp [go_sem], by simp [go_sem]⟩
        ·refine aR (by simp [go_sem] <;> rfl) ?_
         refine awp_cond (by first | rfl | (simp [go_sem] <;> rfl)) (fun h8 => ?_) (fun h8 => ?_)
         ·refine awp_seq ?_
          refine aR (by simp [go_sem] <;> rfl) ?_
          refine awp_ret ?_
          refine inBlock_ret ?_
          refine then_ret ?_
          refine ends_ret (by simp [go_sem] <;> rfl) (by simp [go_sem]) ?_
          exact ⟨by simp only [arityR, ar2, ar1, List.any_cons, List.any_nil, h0, h1, h2, h3, h4, h5, h6, h7, h8, bA, bB, bC, bD, bE, bF, bG, bH, bI, bJ, Bool.false_eq_true, if_true, if_false]; simp [go_sem], by simp [go_sem]⟩
         ·refine awp_seq ?_
          refine awp_seq (aR (by simp [go_sem] <;> rfl) ?_)
          refine awp_cond (by first | rfl | (simp [go_sem] <;> rfl)) (fun h9 => ?_) (fun h9 => ?_)
          ·refine awp_skip ?_
           refine awp_cond (b := true) (by simp [go_sem, h0, h1, h2, h3, h4, h5, h6, h7, h8, h9]) (fun h => ?_) (fun h => ?_)
           rotate_left
           ·cases h
           refine awp_seq (aR (by simp [go_sem] <;> rfl) ?_)
           refine awp_ret ?_
           refine inBlock_ret ?_
           refine then_ret ?_
           refine ends_ret (by simp [go_sem] <;> rfl) (by simp [go_sem]) ?_
           exact ⟨by simp only [arityR, ar2, ar1, List.any_cons, List.any_nil, h0, h1, h2, h3, h4, h5, h6, h7, h8, h9, bA, bB, bC, bD, bE, bF, bG, bH, bI, bJ, Bool.false_eq_true, if_true, if_false]; simp [go_sem], by simp [go_sem]⟩
          ·refine awp_seq ?_
           refine aR (by simp [go_sem] <;> rfl) ?_
           refine awp_cond (by first | rfl | (simp [go_sem] <;> rfl)) (fun h10 => ?_) (fun h10 => ?_)
           ·refine awp_skip ?_
            refine awp_cond (b := true) (by simp [go_sem, h0, h1, h2, h3, h4, h5, h6, h7, h8, h9, h10]) (fun h => ?_) (fun h => ?_)
            rotate_left
            ·cases h
            refine awp_seq (aR (by simp [go_sem] <;> rfl) ?_)
            refine awp_ret ?_
            refine inBlock_ret ?_
            refine then_ret ?_
            refine ends_ret (by simp [go_sem] <;> rfl) (by simp [go_sem]) ?_
            exact ⟨by simp only [arityR, ar2, ar1, List.any_cons, List.any_nil, h0, h1, h2, h3, h4, h5, h6, h7, h8, h9, h10, bA, bB, bC, bD, bE, bF, bG, bH, bI, bJ, Bool.false_eq_true, if_true, if_false]; simp [go_sem], by simp [go_sem]⟩
           ·refine awp_seq ?_
            refine aR (by simp [go_sem] <;> rfl) ?_
            refine awp_cond (by first | rfl | (simp [go_sem] <;> rfl)) (fun h11 => ?_) (fun h11 => ?_)
            ·refine awp_skip ?_
             refine awp_cond (b := true) (by simp [go_sem, h0, h1, h2, h3, h4, h5, h6, h7, h8, h9, h10, h11]) (fun h => ?_) (fun h => ?_)
             rotate_left
             ·cases h
             refine awp_seq (aR (by simp [go_sem] <;> rfl) ?_)
             refine awp_ret ?_
             refine inBlock_ret ?_
             refine then_ret ?_
             refine ends_ret (by simp [go_sem] <;> rfl) (by simp [go_sem]) ?_
             exact ⟨by simp only [arityR, ar2, ar1, List.any_cons, List.any_nil, h0, h1, h2, h3, h4, h5, h6, h7, h8, h9, h10, h11, bA, bB, bC, bD, bE, bF, bG, bH, bI, bJ, Bool.false_eq_true, if_true, if_false]; simp [go_sem], by simp [go_sem]⟩
            ·refine awp_seq ?_
             refine aR (by simp [go_sem] <;> rfl) ?_
             refine awp_cond (by first | rfl | (simp [go_sem] <;> rfl)) (fun h12 => ?_) (fun h12 => ?_)
             ·refine awp_skip ?_
              refine awp_cond (b := true) (by simp [go_sem, h0, h1, h2, h3, h4, h5, h6, h7, h8, h9, h10, h11, h12]) (fun h => ?_) (fun h => ?_)
              rotate_left
              ·cases h
              refine awp_seq (aR (by simp [go_sem] <;> rfl) ?_)
              refine awp_ret ?_
              refine inBlock_ret ?_
              refine then_ret ?_
              refine ends_ret (by simp [go_sem] <;> rfl) (by simp [go_sem]) ?_
              exact ⟨by simp only [arityR, ar2, ar1, List.any_cons, List.any_nil, h0, h1, h2, h3, h4, h5, h6, h7, h8, h9, h10, h11, h12, bA, bB, bC, bD, bE, bF, bG, bH, bI, bJ, Bool.false_eq_true, if_true, if_false]; simp [go_sem], by simp [go_sem]⟩
             ·refine awp_seq ?_
              refine aR (by simp [go_sem] <;> rfl) ?_
              refine awp_cond (by first | rfl | (simp [go_sem] <;> rfl)) (fun h13 => ?_) (fun h13 => ?_)
              ·refine awp_skip ?_
               refine awp_cond (b := true) (by simp [go_sem, h0, h1, h2, h3, h4, h5, h6, h7, h8, h9, h10, h11, h12, h13]) (fun h => ?_) (fun h => ?_)
               rotate_left
               ·cases h
               refine awp_seq (aR (by simp [go_sem] <;> rfl) ?_)
               refine awp_ret ?_
               refine inBlock_ret ?_
               refine then_ret ?_
               refine ends_ret (by simp [go_sem] <;> rfl) (by simp [go_sem]) ?_
               exact ⟨by simp only [arityR, ar2, ar1, List.any_cons, List.any_nil, h0, h1, h2, h3, h4, h5, h6, h7, h8, h9, h10, h11, h12, h13, bA, bB, bC, bD, bE, bF, bG, bH, bI, bJ, Bool.false_eq_true, if_true, if_false]; simp [go_sem], by simp [go_sem]⟩
              ·refine awp_seq ?_
               refine aR (by simp [go_sem] <;> rfl) ?_
               refine awp_cond (by first | rfl | (simp [go_sem] <;> rfl)) (fun h14 => ?_) (fun h14 => ?_)
               ·refine awp_skip ?_
                refine awp_cond (b := true) (by simp [go_sem, h0, h1, h2, h3, h4, h5, h6, h7, h8, h9, h10, h11, h12, h13, h14]) (fun h => ?_) (fun h => ?_)
                rotate_left
                ·cases h
                refine awp_seq (aR (by simp [go_sem] <;> rfl) ?_)
                refine awp_ret ?_
                refine inBlock_ret ?_
                refine then_ret ?_
                refine ends_ret (by simp [go_sem] <;> rfl) (by simp [go_sem]) ?_
                exact ⟨by simp only [arityR, ar2, ar1, List.any_cons, List.any_nil, h0, h1, h2, h3, h4, h5, h6, h7, h8, h9, h10, h11, h12, h13, h14, bA, bB, bC, bD, bE, bF, bG, bH, bI, bJ, Bool.false_eq_true, if_true, if_false]; simp [go_sem], by simp [go_sem]⟩
               ·refine aR (by simp [go_sem] <;> rfl) ?_
                refine awp_cond (by first | rfl | (simp [go_sem] <;> rfl)) (fun h15 => ?_) (fun h15 => ?_)
                ·refine awp_seq ?_
                 refine aR (by simp [go_sem] <;> rfl) ?_
                 refine awp_ret ?_
                 refine inBlock_ret ?_
                 refine then_ret ?_
                 refine ends_ret (by simp [go_sem] <;> rfl) (by simp [go_sem]) ?_
                 exact ⟨by simp only [arityR, ar2, ar1, List.any_cons, List.any_nil, h0, h1, h2, h3, h4, h5, h6, h7, h8, h9, h10, h11, h12, h13, h14, h15, bA, bB, bC, bD, bE, bF, bG, bH, bI, bJ, Bool.false_eq_true, if_true, if_false]; simp [go_sem], by simp [go_sem]⟩
                ·refine awp_skip ?_
                 refine awp_seq (aR (by simp [go_sem] <;> rfl) ?_)
                 refine awp_ret ?_
                 refine ends_ret (by simp [go_sem] <;> rfl) (by simp [go_sem]) ?_
                 exact ⟨by simp only [arityR, ar2, ar1, List.any_cons, List.any_nil, h0, h1, h2, h3, h4, h5, h6, h7, h8, h9, h10, h11, h12, h13, h14, h15, bA, bB, bC, bD, bE, bF, bG, bH, bI, bJ, Bool.false_eq_true, if_true, if_false]; simp [go_sem], by simp [go_sem]⟩

set_option maxHeartbeats 1000000 in
theorem c_cut (d : D) : ∀ (oc lf : Nat) (dp : Int) (σ : Store), σ.gl = (GL kr) → σ.objs[oc]? = some (.box [.pv (.int .i64 lf)]) → 0 < lf → lf ≤ 3000 → 1 ≤ dp → dp ≤ 2000 → ACalls Tryz.prog 100 [.ptr oc 0, .pv (enc d), .pv (.int .i64 dp)] σ (CutR oc lf σ) := by
 induction d using D.ind with
 | _ kind num text kids ih =>
 generalize hD : D.mk kind num text kids = d at *
 have hk : d.kids = kids := by rw [← hD]; rfl
 clear hD
 subst hk
 intro oc lf dp σ hgl hoc hlf0 hlf hdp hdp2
 have hol := (List.getElem?_eq_some_iff.1 hoc).1
 obtain ⟨tx, htx⟩ : ∃ tx : ByteArray, tx = d.text.extract 0 (if (42 : Int) < d.text.size then (42 : Int) else d.text.size).toNat := ⟨_, rfl⟩
 have hm1 : (0 : Int) ≤ (if (42 : Int) < d.text.size then (42 : Int) else d.text.size) := by split <;> omega
 have hm2 : (if (42 : Int) < d.text.size then (42 : Int) else d.text.size) ≤ d.text.size := by split <;> omega
 have hw1 : IntKind.i64.wrap ((lf : Int) - 1) = ((lf - 1 : Nat) : Int) := by rw [wrap_id (by omega) (by omega)]; omega
 refine cut_less (k := d.kind) (n := d.num) (tx := tx) ?_
 refine acalls_of tyOk Tryz.func100 rfl (by simp [Tryz.f100]) ?_
 refine awp_seq (aR (by simp [go_sem, hoc, hm1, hm2, hw1] <;> rfl) ?_)
 refine awp_seq (aR (by simp [go_sem, hoc, hm1, hm2, hw1] <;> rfl) ?_)
 refine awp_seq (awp_regDP tyOk tySz 13 (by kernel_rfl) (by decide) ?_)
 refine ul_run 13 (by simp [go_sem, hoc, hm1, hm2, hw1] <;> rfl) ?_
 refine ul_nil ?_
 refine aL 1 (by simp [go_sem, hoc, hm1, hm2, hw1] <;> rfl) ?_
 refine al_nil ?_
 refine awp_seq (awp_seq (aR (by simp [go_sem, hoc, hm1, hm2, hw1] <;> rfl) ?_))
 refine awp_adoptL' 2 3 24 4 (by simp [go_sem] <;> rfl) ?_
 refine awp_block ?_
 refine awp_loop_headKL σ.objs.length (σ.toks.length + 1) 3 [0, 2, 4, 6, 7] (fun i : List D × Nat => [(8, .pv (.int .i64 ↑i.1.length))]) (fun i : List D × Nat => [[.pv (.int .i64 d.kind), .pv (.int .i64 d.num), .pv (.str d.text), .pv (.slice (d.kids.map enc))], [.pv (.int .i64 0), .pv (.int .i64 0), .pv (.str ⟨#[]⟩), .pv .nils], [.pv (.int .i64 d.kind), .pv (.int .i64 d.num), .pv (.str tx), .acc (i.1.map enc) σ.toks.length]]) (fun i => { setC σ oc (i.2 : Int) with toks := σ.toks ++ [⟨i.1.length, 24, 4⟩] }) (fun i => D.sizes i.1 + i.2 + 1 ≤ lf ∧ i.1.length ≤ d.kids.length) (fun i => d.kids.length - i.1.length) ([], lf - 1) (⟨by simp [D.sizes]; omega, Nat.zero_le _⟩) ⟨by show ({ setC σ oc _ with toks := _ } : Store) = _; simp [setC, go_sem, List.take_of_length_le], by simp [go_sem, hoc, hm1, hm2, hw1, htx, hol], by simp, by simp, by simp [go_sem, hoc, hm1, hm2, hw1, htx, hol], fun ob h => setC_mem h _ _ _, by simp [go_sem]⟩ ?_
 rintro i ⟨hsz, hil⟩
 have hgc := setC_get (v := (i.2 : Int)) hoc
 have hll := D.length_le_sizes i.1
 refine awp_seq (awp_seq (awp_reg ?_))
 refine aL 6 (by simp [go_sem, hoc, hm1, hm2, hw1, hgc] <;> rfl) ?_
 refine al_splitT 33 (by first | rfl | (simp [go_sem, hoc, hm1, hm2, hw1, hgc] <;> rfl)) (fun h0 => ?_) (fun h0 => ?_)
 ·refine aLG 2 33 true (by simp [go_sem, hoc, hm1, hm2, hw1, hgc] <;> rfl) ?_
  refine aL 2 (by simp [go_sem, hoc, hm1, hm2, hw1, hgc] <;> rfl) ?_
  refine al_splitT 37 (by first | rfl | (simp [go_sem, hoc, hm1, hm2, hw1, hgc] <;> rfl)) (fun h1 => ?_) (fun h1 => ?_)
  ·refine aLG 5 37 true (by simp [go_sem, hoc, hm1, hm2, hw1, hgc] <;> rfl) ?_
   refine aL 1 (by simp [go_sem, hoc, hm1, hm2, hw1, hgc] <;> rfl) ?_
   refine al_nil ?_
   refine awp_cond (by first | rfl | (simp [go_sem, hoc, hm1, hm2, hw1, hgc] <;> rfl)) (fun h2 => ?_) (fun h2 => ?_)
   ·have hlt : i.1.length < d.kids.length := by simpa using h0
    have hlv : 0 < i.2 := by have := h2; simp at this; omega
    have hd1 : (1 : Int) < dp := by have := h1; simp at this; omega
    obtain ⟨x, hx, hxm⟩ := get_lt hlt
    have hwd : IntKind.i64.wrap (dp - 1) = dp - 1 := wrap_id (by omega) (by omega)
    have hbb : (i.1.length + 1) * 56 ≤ 140737488355328 := by omega
    have hw : IntKind.i64.wrap ((i.1.length : Int) + 1) = (i.1.length : Int) + 1 := wrap_succ (by omega)
    refine awp_skip ?_
    refine awp_seq (awp_block ?_)
    refine awp_regDC tyOk tySz 12 (by kernel_rfl) (by decide) ?_
    refine ul_run 10 (by simp [go_sem, hoc, hm1, hm2, hw1, hgc, hx, hwd, hbb, setC_with, setC_toks] <;> rfl) ?_
    refine ul_callW (by simp [go_sem]) rfl rfl rfl rfl (by simp [go_sem, hoc, hm1, hm2, hw1, hgc, hx, hwd, hbb, setC_with, setC_toks] <;> rfl) call100 (ih x hxm oc i.2 (dp - 1) _ (by exact hgl) (setC_get hoc) hlv (by omega) (by omega) (by omega)) (by simp [go_sem, hoc, hm1, hm2, hw1, hgc, hx, hwd, hbb, setC_with, setC_toks] <;> rfl) (by simp [go_sem, hoc, hm1, hm2, hw1, hgc, hx, hwd, hbb, setC_with, setC_toks]) rfl rfl (cutR_some hlv) ?_
    rintro r σ' ⟨d', lv', rfl, rfl, hsz'⟩
    refine ul_run 1 (by simp [go_sem, hoc, hm1, hm2, hw1, hgc, hx, hwd, hbb, setC_with, setC_toks] <;> rfl) ?_
    refine ul_nil ?_
    refine aL 3 (by simp [go_sem, hoc, hm1, hm2, hw1, hgc, hx, hwd, hbb, setC_with, setC_toks] <;> rfl) ?_
    refine al_nil ?_
    refine aR (by simp [go_sem, hoc, hm1, hm2, hw1, hgc, hx, hwd, hbb, setC_with, setC_toks] <;> rfl) ?_
    exact next_intro ((i.1 ++ [d'], lv')) σ.objs.length (σ.toks.length + 1) 3 (⟨by simp [sizes_append, D.sizes]; omega, by simp; omega⟩) (by simp; omega) ⟨by show ({ setC σ oc _ with toks := _ } : Store) = _; simp [setC, go_sem, List.take_of_length_le], by simp [go_sem, hoc, hm1, hm2, hw1, hgc, hx, hwd, hbb, setC_with, setC_toks, hw, hol], by simp, by simp, by simp [go_sem, hoc, hm1, hm2, hw1, hgc, hx, hwd, hbb, setC_with, setC_toks, hw, hol], fun ob h => setC_mem h _ _ _, by simp [go_sem]⟩
   ·refine awp_exit ?_
    refine then_exit ?_
    refine then_exit ?_
    refine inBlock_hit ?_
    refine awp_seq (aR (by simp [go_sem, hoc, hm1, hm2, hw1, hgc] <;> rfl) ?_)
    refine awp_ret ?_
    refine ends_ret (by simp [go_sem] <;> rfl) (by simp [go_sem]) ?_
    exact ⟨i.1, i.2, by simp [go_sem, enc_mk], by simp [setC, go_sem, List.take_of_length_le], by omega⟩
  ·refine aK 5 37 true ?_
   refine aL 1 (by simp [go_sem, hoc, hm1, hm2, hw1, hgc] <;> rfl) ?_
   refine al_nil ?_
   refine awp_cond (b := false) (by simp [go_sem, hoc, hm1, hm2, hw1, hgc, h0, h1]) (fun h => ?_) (fun h => ?_)
   ·cases h
   refine awp_exit ?_
   refine then_exit ?_
   refine then_exit ?_
   refine inBlock_hit ?_
   refine awp_seq (aR (by simp [go_sem, hoc, hm1, hm2, hw1, hgc] <;> rfl) ?_)
   refine awp_ret ?_
   refine ends_ret (by simp [go_sem] <;> rfl) (by simp [go_sem]) ?_
   exact ⟨i.1, i.2, by simp [go_sem, enc_mk], by simp [setC, go_sem, List.take_of_length_le], by omega⟩
 ·refine aK 2 33 true ?_
  refine aL 2 (by simp [go_sem, hoc, hm1, hm2, hw1, hgc] <;> rfl) ?_
  refine aK 5 37 true ?_
  refine aL 1 (by simp [go_sem, hoc, hm1, hm2, hw1, hgc] <;> rfl) ?_
  refine al_nil ?_
  refine awp_cond (b := false) (by simp [go_sem, hoc, hm1, hm2, hw1, hgc, h0]) (fun h => ?_) (fun h => ?_)
  ·cases h
  refine awp_exit ?_
  refine then_exit ?_
  refine then_exit ?_
  refine inBlock_hit ?_
  refine awp_seq (aR (by simp [go_sem, hoc, hm1, hm2, hw1, hgc] <;> rfl) ?_)
  refine awp_ret ?_
  refine ends_ret (by simp [go_sem] <;> rfl) (by simp [go_sem]) ?_
  exact ⟨i.1, i.2, by simp [go_sem, enc_mk], by simp [setC, go_sem, List.take_of_length_le], by omega⟩

set_option maxHeartbeats 1000000 in
theorem c_Same (d : D) (hd : d.size ≤ 1000000000) : ∀ e : D, Pur Tryz.prog (GL kr) 17 [.pv (enc d), .pv (enc e)] (.pv (.bool (deq d e))) := by
 induction d using D.ind with
 | _ kind num text kids ih =>
 generalize hD : D.mk kind num text kids = d at *
 have hk : d.kids = kids := by rw [← hD]; rfl
 clear hD
 subst hk
 have hkl := D.kids_length_lt d
 intro e
 refine pur_of fun σ hgl => ?_
 refine acalls_of tyOk Tryz.func17 rfl (by simp [Tryz.f17]) ?_
 refine awp_seq (aR (by simp [go_sem] <;> rfl) ?_)
 refine awp_seq (awp_seq (awp_reg ?_))
 refine aL 6 (by simp [go_sem] <;> rfl) ?_
 refine al_splitT 11 (by first | rfl | (simp [go_sem] <;> rfl)) (fun h0 => ?_) (fun h0 => ?_)
 ·refine aK 5 11 false ?_
  refine aL 2 (by simp [go_sem] <;> rfl) ?_
  refine aK 5 18 false ?_
  refine aL 2 (by simp [go_sem] <;> rfl) ?_
  refine aK 7 25 false ?_
  refine aL 1 (by simp [go_sem] <;> rfl) ?_
  refine al_nil ?_
  refine awp_cond (b := true) (by simp [go_sem, h0]) (fun h => ?_) (fun h => ?_)
  rotate_left
  ·cases h
  refine awp_seq (aR (by simp [go_sem] <;> rfl) ?_)
  refine awp_ret ?_
  refine then_ret ?_
  refine ends_ret (by simp [go_sem] <;> rfl) (by simp [go_sem]) ?_
  have hs : deq d e = false := by
    cases hq : deq d e with
    | false => rfl
    | true => have := deq_of hq; subst this; simp at h0
  exact ⟨by simp [go_sem, hs], by simp [go_sem]⟩
 ·refine aLG 5 11 false (by simp [go_sem] <;> rfl) ?_
  refine aL 2 (by simp [go_sem] <;> rfl) ?_
  refine al_splitT 18 (by first | rfl | (simp [go_sem] <;> rfl)) (fun h1 => ?_) (fun h1 => ?_)
  ·refine aK 5 18 false ?_
   refine aL 2 (by simp [go_sem] <;> rfl) ?_
   refine aK 7 25 false ?_
   refine aL 1 (by simp [go_sem] <;> rfl) ?_
   refine al_nil ?_
   refine awp_cond (b := true) (by simp [go_sem, h0, h1]) (fun h => ?_) (fun h => ?_)
   rotate_left
   ·cases h
   refine awp_seq (aR (by simp [go_sem] <;> rfl) ?_)
   refine awp_ret ?_
   refine then_ret ?_
   refine ends_ret (by simp [go_sem] <;> rfl) (by simp [go_sem]) ?_
   have hs : deq d e = false := by
     cases hq : deq d e with
     | false => rfl
     | true => have := deq_of hq; subst this; simp at h1
   exact ⟨by simp [go_sem, hs], by simp [go_sem]⟩
  ·refine aLG 5 18 false (by simp [go_sem] <;> rfl) ?_
   refine aL 2 (by simp [go_sem] <;> rfl) ?_
   refine al_splitT 25 (by first | rfl | (simp [go_sem] <;> rfl)) (fun h2 => ?_) (fun h2 => ?_)
   ·refine aK 7 25 false ?_
    refine aL 1 (by simp [go_sem] <;> rfl) ?_
    refine al_nil ?_
    refine awp_cond (b := true) (by simp [go_sem, h0, h1, h2]) (fun h => ?_) (fun h => ?_)
    rotate_left
    ·cases h
    refine awp_seq (aR (by simp [go_sem] <;> rfl) ?_)
    refine awp_ret ?_
    refine then_ret ?_
    refine ends_ret (by simp [go_sem] <;> rfl) (by simp [go_sem]) ?_
    have hs : deq d e = false := by
      cases hq : deq d e with
      | false => rfl
      | true => have := deq_of hq; subst this; simp at h2
    exact ⟨by simp [go_sem, hs], by simp [go_sem]⟩
   ·refine aLG 7 25 false (by simp [go_sem] <;> rfl) ?_
    refine aL 1 (by simp [go_sem] <;> rfl) ?_
    refine al_nil ?_
    refine awp_cond (by first | rfl | (simp [go_sem] <;> rfl)) (fun h3 => ?_) (fun h3 => ?_)
    ·refine awp_seq ?_
     refine aR (by simp [go_sem] <;> rfl) ?_
     refine awp_ret ?_
     refine then_ret ?_
     refine ends_ret (by simp [go_sem] <;> rfl) (by simp [go_sem]) ?_
     have hs : deq d e = false := by
       cases hq : deq d e with
       | false => rfl
       | true => have := deq_of hq; subst this; simp at h3
     exact ⟨by simp [go_sem, hs], by simp [go_sem]⟩
    ·have hlen : d.kids.length = e.kids.length := by have := h3; simp only [bne_eq_false_iff_eq] at this; omega
     have hzl : (d.kids.zip e.kids).length = d.kids.length := by simp; omega
     refine awp_skip ?_
     refine awp_seq (awp_seq (aR (by simp [go_sem] <;> rfl) ?_))
     refine awp_block ?_
     refine awp_loop_headK σ.objs.length σ.toks.length 2 [2, 3, 4] (fun k : Nat => [(5, .pv (.int .i64 ↑k))]) (fun k => σ) (fun k => k ≤ d.kids.length ∧ NotYet (fun x => !deq x.1 x.2) (d.kids.zip e.kids) k) (fun k => d.kids.length - k) 0 (⟨Nat.zero_le _, .zero⟩) ⟨by simp [go_sem], rfl, by simp, by simp, by simp [go_sem], fun ob h => .inl (by simpa [go_sem] using h), by simp [go_sem]⟩ ?_
     rintro k ⟨hk, hn⟩
     refine awp_seq (awp_seq (aR (by simp [go_sem] <;> rfl) ?_))
     refine awp_cond (by first | rfl | (simp [go_sem] <;> rfl)) (fun h4 => ?_) (fun h4 => ?_)
     ·have hlt : k < d.kids.length := by simp at h4; omega
      have hw : IntKind.i64.wrap (↑k + 1) = (k : Int) + 1 := wrap_succ (by omega)
      obtain ⟨x, hx, hxm⟩ := get_lt hlt
      obtain ⟨y, hy, hym⟩ := get_lt (l := e.kids) (k := k) (by omega)
      refine awp_skip ?_
      refine awp_seq (awp_block ?_)
      refine awp_seq (awp_regDP tyOk tySz 10 (by kernel_rfl) (by decide) ?_)
      refine ul_run 10 (by simp [go_sem, hx, hy] <;> rfl) ?_
      refine ul_nil ?_
      refine aF call17 ((ih x hxm (by have := D.size_kid_lt hxm; omega) y) _ (by exact hgl)) (by simp [go_sem, hx, hy] <;> rfl) (by simp [go_sem, hx, hy]) ?_
      refine aL 1 (by simp [go_sem, hx, hy] <;> rfl) ?_
      refine al_nil ?_
      refine awp_cond (by first | rfl | (simp [go_sem, hx, hy] <;> rfl)) (fun h5 => ?_) (fun h5 => ?_)
      ·refine awp_seq ?_
       refine aR (by simp [go_sem, hx, hy] <;> rfl) ?_
       refine awp_ret ?_
       refine inBlock_ret ?_
       refine then_ret ?_
       refine then_ret ?_
       refine inBlock_ret ?_
       refine then_ret ?_
       refine ends_ret (by simp [go_sem] <;> rfl) (by simp [go_sem]) ?_
       have hall : (d.kids.zip e.kids).all (fun x => deq x.1 x.2) = false := by rw [List.all_eq_false]; exact ⟨(x, y), List.mem_of_getElem? (zip_get hx hy), by simpa using h5⟩
       have hs : deq d e = false := by rw [deq_eq]; unfold eqf; rw [hall]; simp
       exact ⟨by simp [go_sem, hs], by simp [go_sem]⟩
      ·refine awp_skip ?_
       refine aR (by simp [go_sem, hx, hy] <;> rfl) ?_
       exact next_intro (k + 1) σ.objs.length σ.toks.length 2 (⟨hlt, hn.succ (zip_get hx hy) (by simpa using h5)⟩) (by omega) ⟨by simp [go_sem, hx, hy, hw], rfl, by simp, by simp, by simp [go_sem, hx, hy, hw], fun ob h => .inl (by simpa [go_sem, hx, hy, hw] using h), by simp [go_sem]⟩
     ·have hke : k = d.kids.length := by simp at h4; omega
      subst hke
      have hall : (d.kids.zip e.kids).all (fun x => deq x.1 x.2) = true := by have := (hzl ▸ hn : NotYet _ (d.kids.zip e.kids) (d.kids.zip e.kids).length).all; rw [List.all_eq_true]; intro z hz; simpa using this z hz
      refine awp_exit ?_
      refine then_exit ?_
      refine then_exit ?_
      refine inBlock_hit ?_
      refine awp_seq (aR (by simp [go_sem] <;> rfl) ?_)
      refine awp_ret ?_
      refine ends_ret (by simp [go_sem] <;> rfl) (by simp [go_sem]) ?_
      have hs : deq d e = true := by
        have e0 : d.kind = e.kind := by simpa using h0
        have e1 : d.num = e.num := by simpa using h1
        have e2 : d.text = e.text := by simpa using h2
        rw [deq_eq]; unfold eqf; rw [hall]; simp [e0, e1, e2, hlen]
      exact ⟨by simp [go_sem, hs], by simp [go_sem]⟩

set_option maxHeartbeats 1000000 in
theorem c_Cut (d : D) (σ : Store) (hgl : σ.gl = (GL kr)) : ACalls Tryz.prog 39 [.pv (enc d), .pv (.int .i64 2000), .pv (.int .i64 1005)] σ (fun r σ' => ∃ d' : D, r = .pv (enc d') ∧ σ' = σ ∧ d'.size ≤ 2000) := by
 refine ACalls.less (R := fun r σ' => ∃ d' : D, WVt σ.objs.length σ.toks.length 0 r (.pv (enc d')) ∧ σ'.cut σ.objs.length σ.toks.length = σ ∧ d'.size ≤ 2000) ?_ (fun r σ' ⟨d', h1, h2, h3⟩ => ⟨_, _, _, h1, Nat.le_refl _, Nat.le_refl _, fun ob hob => .inl (by rw [← h2]; exact hob), ⟨d', rfl, h2, h3⟩⟩)
 refine acalls_of tyOk Tryz.func39 rfl (by simp [Tryz.f39]) ?_
 refine awp_seq (aR (by simp [go_sem] <;> rfl) ?_)
 refine awp_seq (awp_region_run (sh := [10]) tyOk (by simp [go_sem] <;> rfl) ?_)
 refine awp_seq (awp_reg ?_)
 refine aL 3 (by simp [go_sem] <;> rfl) ?_
 refine al_callW rfl rfl rfl (by simp [go_sem] <;> rfl) call100 (c_cut d σ.objs.length 2000 1005 _ (by exact hgl) (by simp [go_sem]) (by decide) (by decide) (by decide) (by decide)) (by simp [go_sem] <;> rfl) (by simp [go_sem]) rfl rfl ?_
 rintro r σ' ⟨d', lv', rfl, rfl, hsz'⟩
 refine aL 1 (by simp [go_sem] <;> rfl) ?_
 refine al_nil ?_
 refine awp_ret ?_
 refine ends_ret (by simp [go_sem] <;> rfl) (by simp [go_sem]) ?_
 exact ⟨d', by simp [go_sem], by simp [setC, go_sem], by omega⟩

set_option maxHeartbeats 1000000 in
theorem c_Cut25 (d : D) (σ : Store) (hgl : σ.gl = (GL kr)) : ACalls Tryz.prog 23 [.pv (enc d)] σ (fun r σ' => ∃ d' : D, r = .pv (enc d') ∧ σ' = σ ∧ d'.size ≤ 2000) := by
 refine ACalls.less (R := fun r σ' => ∃ d' : D, WVt σ.objs.length σ.toks.length 0 r (.pv (enc d')) ∧ σ'.cut σ.objs.length σ.toks.length = σ ∧ d'.size ≤ 2000) ?_ (fun r σ' ⟨d', h1, h2, h3⟩ => ⟨_, _, _, h1, Nat.le_refl _, Nat.le_refl _, fun ob hob => .inl (by rw [← h2]; exact hob), ⟨d', rfl, h2, h3⟩⟩)
 refine acalls_of tyOk Tryz.func23 rfl (by simp [Tryz.f23]) ?_
 refine awp_seq (aR (by simp [go_sem] <;> rfl) ?_)
 refine awp_seq (awp_reg ?_)
 refine aL 1 (by simp [go_sem] <;> rfl) ?_
 refine al_callW rfl rfl rfl (by simp [go_sem] <;> rfl) call39 (c_Cut d σ hgl) (by simp [go_sem] <;> rfl) (by simp [go_sem]) rfl rfl ?_
 rintro r σ' ⟨d', rfl, rfl, hsz'⟩
 refine aL 1 (by simp [go_sem] <;> rfl) ?_
 refine al_nil ?_
 refine awp_ret ?_
 refine ends_ret (by simp [go_sem] <;> rfl) (by simp [go_sem]) ?_
 exact ⟨d', by simp [go_sem], by simp [go_sem], hsz'⟩

end Go.Proofs.YtnibcmaaehkhlaaGreatDoor

namespace Go.Proofs.YtnibcmaaehkhlaaGreatDoor
open Go Go.Aw
variable {kr : KR}
end Go.Proofs.YtnibcmaaehkhlaaGreatDoor

namespace Go.Proofs.YtnibcmaaehkhlaaGreatDoor
open Go Go.Aw
variable {kr : KR}
end Go.Proofs.YtnibcmaaehkhlaaGreatDoor

namespace Go.Proofs.YtnibcmaaehkhlaaGreatDoor
open Go Go.Aw
variable {kr : KR}
def dm : FuncId → Nat → Nat × List Nat × Bool
  | 209, 10 => (11, [], true)
  | 210, 5 => (9, [], false)
  | 245, 0 => (9, [], true)
  | 245, 1 => (8, [], true)
  | 245, 8 => (19, [], true)
  | 246, 3 => (9, [], true)
  | 246, 5 => (14, [], true)
  | 246, 16 => (9, [], false)
  | 246, 18 => (25, [], true)
  | 246, 19 => (7, [], false)
  | 262, 2 => (19, [], true)
  | 262, 4 => (9, [], true)
  | _, _ => (0, [], false)
def shT : FuncId → List Tmp
  | 209 => [13]
  | _ => []
def caL : List Nat := [78, 118, 133, 188, 189, 209, 210, 245, 246, 247, 262, 281]
theorem caOk : ∀ f, caL.contains f = true → Callable Tryz.prog f := by
  intro f h
  simp only [caL, List.contains_eq_mem, List.mem_cons, List.not_mem_nil, or_false, decide_eq_true_eq] at h
  rcases h with rfl | rfl | rfl | rfl | rfl | rfl | rfl | rfl | rfl | rfl | rfl | rfl
  · exact call78
  · exact call118
  · exact call133
  · exact call188
  · exact call189
  · exact call209
  · exact call210
  · exact call245
  · exact call246
  · exact call247
  · exact call262
  · exact call281
def orcT (f : FuncId) (args : List AV) : Option AV := match Nat.beq f 189, args with
  | true, [.pv (.int .u8 c)] => some (.pv (.bool (letter c)))
  | _, _ => none
theorem orcOk : ∀ f args r, orcT f args = some r → Pur Tryz.prog (GL kr) f args r := by
  intro f args r h
  unfold orcT at h
  split at h
  · rename_i c hf
    have := Nat.eq_of_beq_eq_true hf
    subst this
    cases h
    exact c_pagodaref01_Letter c
  · cases h
noncomputable def cfg : Cfg := ⟨Tryz.prog, ty, shT, dm, caL.contains, orcT⟩
theorem cfgOk : CfgOk cfg (GL kr) := ⟨tyOk, tySz, caOk, orcOk⟩
def ex1 : D := dlist [dsym ⟨#[102, 110]⟩, dsym ⟨#[102]⟩, dsym ⟨#[97]⟩, dlist [dsym ⟨#[108, 101, 116]⟩, dsym ⟨#[98]⟩, dlist [dsym ⟨#[43]⟩, dsym ⟨#[97]⟩, dnum 1], dlist [dsym ⟨#[97, 112, 112]⟩, dsym ⟨#[102]⟩, dsym ⟨#[98]⟩]]]
theorem c_read1 : PurAt Tryz.prog ⟨(GL kr), [], []⟩ 78 [.pv (.str ⟨#[40, 102, 110, 32, 102, 32, 97, 32, 40, 108, 101, 116, 32, 98, 32, 40, 43, 32, 97, 32, 49, 41, 32, 40, 97, 112, 112, 32, 102, 32, 98, 41, 41, 41]⟩)] (.pv (enc ex1)) := purAt_eval (n := 100000) cfgOk (by kernel_rfl)
def ex2 : D := dlist [dsym ⟨#[43]⟩, dnum 1, dnum 2]
theorem c_read2 : PurAt Tryz.prog ⟨(GL kr), [], []⟩ 78 [.pv (.str ⟨#[40, 43, 32, 49, 32, 50, 41]⟩)] (.pv (enc ex2)) := purAt_eval (n := 100000) cfgOk (by kernel_rfl)
def ex3 : D := dlist [dsym ⟨#[97, 112, 112]⟩, dlist [dsym ⟨#[102, 110]⟩, dsym ⟨#[102]⟩, dsym ⟨#[120]⟩, dsym ⟨#[120]⟩], dnum 1]
theorem c_read3 : PurAt Tryz.prog ⟨(GL kr), [], []⟩ 78 [.pv (.str ⟨#[40, 97, 112, 112, 32, 40, 102, 110, 32, 102, 32, 120, 32, 120, 41, 32, 49, 41]⟩)] (.pv (enc ex3)) := purAt_eval (n := 100000) cfgOk (by kernel_rfl)
def ex4 : D := dlist [dsym ⟨#[102, 110]⟩, dsym ⟨#[120, 46, 48]⟩, dsym ⟨#[120, 46, 49]⟩, dlist [dsym ⟨#[108, 101, 116]⟩, dsym ⟨#[120, 46, 50]⟩, dlist [dsym ⟨#[43]⟩, dsym ⟨#[120, 46, 49]⟩, dnum 1], dlist [dsym ⟨#[97, 112, 112]⟩, dsym ⟨#[120, 46, 48]⟩, dsym ⟨#[120, 46, 50]⟩]]]
theorem c_read4 : PurAt Tryz.prog ⟨(GL kr), [], []⟩ 78 [.pv (.str ⟨#[40, 102, 110, 32, 120, 46, 48, 32, 120, 46, 49, 32, 40, 108, 101, 116, 32, 120, 46, 50, 32, 40, 43, 32, 120, 46, 49, 32, 49, 41, 32, 40, 97, 112, 112, 32, 120, 46, 48, 32, 120, 46, 50, 41, 41, 41]⟩)] (.pv (enc ex4)) := purAt_eval (n := 100000) cfgOk (by kernel_rfl)
def ex5 : D := dlist [dsym ⟨#[43]⟩, dlist [dsym ⟨#[108, 105, 102, 116]⟩, dnum 1], dlist [dsym ⟨#[108, 105, 102, 116]⟩, dnum 2]]
theorem c_read5 : PurAt Tryz.prog ⟨(GL kr), [], []⟩ 78 [.pv (.str ⟨#[40, 43, 32, 40, 108, 105, 102, 116, 32, 49, 41, 32, 40, 108, 105, 102, 116, 32, 50, 41, 41]⟩)] (.pv (enc ex5)) := purAt_eval (n := 100000) cfgOk (by kernel_rfl)
def ex6 : D := dlist [dsym ⟨#[97, 112, 112]⟩, dnum 1]
theorem c_read6 : PurAt Tryz.prog ⟨(GL kr), [], []⟩ 78 [.pv (.str ⟨#[40, 97, 112, 112, 32, 49, 41]⟩)] (.pv (enc ex6)) := purAt_eval (n := 100000) cfgOk (by kernel_rfl)
theorem ex_plain : mplain ex1 = (ex4, 0) := by kernel_rfl
theorem ex_lifted : mlifted ex2 = (ex5, 0) := by kernel_rfl
theorem ex_check3 : mcheck ex3 = 0 := by kernel_rfl
theorem ex_size3 : mcount pSize ex3 = 4 := by kernel_rfl
theorem ex_check6 : mcheck ex6 = 4 := by kernel_rfl
theorem ex_sizes : ex1.size ≤ 100 ∧ ex2.size ≤ 100 ∧ ex3.size ≤ 100 ∧ ex4.size ≤ 100 ∧ ex5.size ≤ 100 ∧ ex6.size ≤ 100 := ⟨Nat.le_of_ble_eq_true (by kernel_rfl), Nat.le_of_ble_eq_true (by kernel_rfl), Nat.le_of_ble_eq_true (by kernel_rfl), Nat.le_of_ble_eq_true (by kernel_rfl), Nat.le_of_ble_eq_true (by kernel_rfl), Nat.le_of_ble_eq_true (by kernel_rfl)⟩
end Go.Proofs.YtnibcmaaehkhlaaGreatDoor

namespace Go.Proofs.YtnibcmaaehkhlaaGreatDoor
open Go Go.Aw
variable {kr : KR}
set_option maxHeartbeats 1000000 in
theorem c_alive (σ : Store) (hσ : σ = ⟨(GL kr), [], []⟩) : PurAt Tryz.prog σ 24 [] (.pv (.bool true)) := by
 have hgl : σ.gl = (GL kr) := by rw [hσ]
 have hP := ex_plain
 have hL := ex_lifted
 have hC3 := ex_check3
 have hS3 := ex_size3
 have hC6 := ex_check6
 obtain ⟨z1, z2, z3, z4, z5, z6⟩ := ex_sizes
 have hr1 := c_read1 (kr := kr)
 have hr2 := c_read2 (kr := kr)
 have hr3 := c_read3 (kr := kr)
 have hr4 := c_read4 (kr := kr)
 have hr5 := c_read5 (kr := kr)
 have hr6 := c_read6 (kr := kr)
 rw [← hσ] at hr1 hr2 hr3 hr4 hr5 hr6
 clear hσ
 generalize ex1 = x1 at *
 generalize ex2 = x2 at *
 generalize ex3 = x3 at *
 generalize ex4 = x4 at *
 generalize ex5 = x5 at *
 generalize ex6 = x6 at *
 have hd4 := deq_refl x4
 have hd5 := deq_refl x5
 refine purAt_of ?_
 refine acalls_of tyOk Tryz.func24 rfl (by simp [Tryz.f24]) ?_
 refine awp_seq (aR (by simp [go_sem, hP, hL, hC3, hS3, hC6, hd4, hd5] <;> rfl) ?_)
 refine awp_seq (awp_reg ?_)
 refine aF call78 (hr1) (by simp [go_sem, hP, hL, hC3, hS3, hC6, hd4, hd5] <;> rfl) (by simp [go_sem, hP, hL, hC3, hS3, hC6, hd4, hd5]) ?_
 refine aF call77 ((c_mPlain x1 (by omega)) _ (by exact hgl)) (by simp [go_sem, hP, hL, hC3, hS3, hC6, hd4, hd5] <;> rfl) (by simp [go_sem, hP, hL, hC3, hS3, hC6, hd4, hd5]) ?_
 refine aL 6 (by simp [go_sem, hP, hL, hC3, hS3, hC6, hd4, hd5] <;> rfl) ?_
 refine al_nil ?_
 refine awp_seq (awp_reg ?_)
 refine aF call78 (hr2) (by simp [go_sem, hP, hL, hC3, hS3, hC6, hd4, hd5] <;> rfl) (by simp [go_sem, hP, hL, hC3, hS3, hC6, hd4, hd5]) ?_
 refine aF call79 ((c_mLifted x2 (by omega)) _ (by exact hgl)) (by simp [go_sem, hP, hL, hC3, hS3, hC6, hd4, hd5] <;> rfl) (by simp [go_sem, hP, hL, hC3, hS3, hC6, hd4, hd5]) ?_
 refine aL 6 (by simp [go_sem, hP, hL, hC3, hS3, hC6, hd4, hd5] <;> rfl) ?_
 refine al_nil ?_
 refine awp_seq (awp_reg ?_)
 refine aF call78 (hr3) (by simp [go_sem, hP, hL, hC3, hS3, hC6, hd4, hd5] <;> rfl) (by simp [go_sem, hP, hL, hC3, hS3, hC6, hd4, hd5]) ?_
 refine aF call80 ((c_mSize x3 (by omega)) _ (by exact hgl)) (by simp [go_sem, hP, hL, hC3, hS3, hC6, hd4, hd5] <;> rfl) (by simp [go_sem, hP, hL, hC3, hS3, hC6, hd4, hd5]) ?_
 refine aL 5 (by simp [go_sem, hP, hL, hC3, hS3, hC6, hd4, hd5] <;> rfl) ?_
 refine al_nil ?_
 refine awp_seq (awp_regDC tyOk tySz 14 (drawOk_of (by kernel_rfl)) (by decide) ?_)
 refine ul_run 3 (by simp [go_sem, hP, hL, hC3, hS3, hC6, hd4, hd5] <;> rfl) ?_
 refine ul_splitT 24 (by first | rfl | (simp [go_sem, hP, hL, hC3, hS3, hC6, hd4, hd5] <;> rfl)) (fun h20 => ?_) (fun h20 => ?_)
 ·refine ul_runG 1 24 true true (by simp [go_sem]) rfl (by simp [go_sem]) rfl rfl (by simp [go_sem, hP, hL, hC3, hS3, hC6, hd4, hd5] <;> rfl) ?_
  refine ul_fnG 24 true true (by simp [go_sem]) rfl (by first | (intro _ _ hh; exact hh) | simp [go_sem]) (by simp [go_sem]) rfl rfl rfl (by simp [go_sem, hP, hL, hC3, hS3, hC6, hd4, hd5] <;> rfl) call78 (hr4) (by simp [go_sem, hP, hL, hC3, hS3, hC6, hd4, hd5] <;> rfl) (by simp [go_sem, hP, hL, hC3, hS3, hC6, hd4, hd5]) rfl rfl ?_
  refine ul_fnG 24 true true (by simp [go_sem]) rfl (by first | (intro _ _ hh; exact hh) | simp [go_sem]) (by simp [go_sem]) rfl rfl rfl (by simp [go_sem, hP, hL, hC3, hS3, hC6, hd4, hd5] <;> rfl) call17 ((c_Same x4 (by omega) x4) _ (by exact hgl)) (by simp [go_sem, hP, hL, hC3, hS3, hC6, hd4, hd5] <;> rfl) (by simp [go_sem, hP, hL, hC3, hS3, hC6, hd4, hd5]) rfl rfl ?_
  refine ul_run 2 (by simp [go_sem, hP, hL, hC3, hS3, hC6, hd4, hd5] <;> rfl) ?_
  refine ul_splitT 29 (by first | rfl | (simp [go_sem, hP, hL, hC3, hS3, hC6, hd4, hd5] <;> rfl)) (fun h21 => ?_) (fun h21 => ?_)
  ·refine ul_runG 2 29 true true (by simp [go_sem]) rfl (by simp [go_sem]) rfl rfl (by simp [go_sem, hP, hL, hC3, hS3, hC6, hd4, hd5] <;> rfl) ?_
   refine ul_run 2 (by simp [go_sem, hP, hL, hC3, hS3, hC6, hd4, hd5] <;> rfl) ?_
   refine ul_splitT 33 (by first | rfl | (simp [go_sem, hP, hL, hC3, hS3, hC6, hd4, hd5] <;> rfl)) (fun h22 => ?_) (fun h22 => ?_)
   ·refine ul_runG 1 33 true true (by simp [go_sem]) rfl (by simp [go_sem]) rfl rfl (by simp [go_sem, hP, hL, hC3, hS3, hC6, hd4, hd5] <;> rfl) ?_
    refine ul_fnG 33 true true (by simp [go_sem]) rfl (by first | (intro _ _ hh; exact hh) | simp [go_sem]) (by simp [go_sem]) rfl rfl rfl (by simp [go_sem, hP, hL, hC3, hS3, hC6, hd4, hd5] <;> rfl) call78 (hr5) (by simp [go_sem, hP, hL, hC3, hS3, hC6, hd4, hd5] <;> rfl) (by simp [go_sem, hP, hL, hC3, hS3, hC6, hd4, hd5]) rfl rfl ?_
    refine ul_nil ?_
    refine al_fnG 33 true true (by simp [go_sem]) rfl (by simp [go_sem]) rfl rfl (by simp [go_sem, hP, hL, hC3, hS3, hC6, hd4, hd5] <;> rfl) call17 ((c_Same x5 (by omega) x5) _ (by exact hgl)) (by simp [go_sem, hP, hL, hC3, hS3, hC6, hd4, hd5] <;> rfl) (by simp [go_sem, hP, hL, hC3, hS3, hC6, hd4, hd5]) rfl rfl ?_
    refine aL 2 (by simp [go_sem, hP, hL, hC3, hS3, hC6, hd4, hd5] <;> rfl) ?_
    refine al_splitT 38 (by first | rfl | (simp [go_sem, hP, hL, hC3, hS3, hC6, hd4, hd5] <;> rfl)) (fun h23 => ?_) (fun h23 => ?_)
    ·refine aLG 2 38 true (by simp [go_sem, hP, hL, hC3, hS3, hC6, hd4, hd5] <;> rfl) ?_
     refine aL 2 (by simp [go_sem, hP, hL, hC3, hS3, hC6, hd4, hd5] <;> rfl) ?_
     refine al_splitT 42 (by first | rfl | (simp [go_sem, hP, hL, hC3, hS3, hC6, hd4, hd5] <;> rfl)) (fun h24 => ?_) (fun h24 => ?_)
     ·refine aLG 2 42 true (by simp [go_sem, hP, hL, hC3, hS3, hC6, hd4, hd5] <;> rfl) ?_
      refine aL 2 (by simp [go_sem, hP, hL, hC3, hS3, hC6, hd4, hd5] <;> rfl) ?_
      refine al_splitT 46 (by first | rfl | (simp [go_sem, hP, hL, hC3, hS3, hC6, hd4, hd5] <;> rfl)) (fun h25 => ?_) (fun h25 => ?_)
      ·refine al_fnG 46 true true (by simp [go_sem]) rfl (by simp [go_sem]) rfl rfl (by simp [go_sem, hP, hL, hC3, hS3, hC6, hd4, hd5] <;> rfl) call78 (hr6) (by simp [go_sem, hP, hL, hC3, hS3, hC6, hd4, hd5] <;> rfl) (by simp [go_sem, hP, hL, hC3, hS3, hC6, hd4, hd5]) rfl rfl ?_
       refine al_fnG 46 true true (by simp [go_sem]) rfl (by simp [go_sem]) rfl rfl (by simp [go_sem, hP, hL, hC3, hS3, hC6, hd4, hd5] <;> rfl) call72 ((c_mCheck x6 (by omega)) _ (by exact hgl)) (by simp [go_sem, hP, hL, hC3, hS3, hC6, hd4, hd5] <;> rfl) (by simp [go_sem, hP, hL, hC3, hS3, hC6, hd4, hd5]) rfl rfl ?_
       refine aLG 1 46 true (by simp [go_sem, hP, hL, hC3, hS3, hC6, hd4, hd5] <;> rfl) ?_
       refine aL 2 (by simp [go_sem, hP, hL, hC3, hS3, hC6, hd4, hd5] <;> rfl) ?_
       refine al_nil ?_
       refine awp_ret ?_
       refine ends_ret (by simp [go_sem] <;> rfl) (by simp [go_sem]) ?_
       exact ⟨by simp [go_sem], by simp [go_sem]⟩
      ·cases h25
     ·cases h24
    ·cases h23
   ·cases h22
  ·cases h21
 ·cases h20

end Go.Proofs.YtnibcmaaehkhlaaGreatDoor

namespace Go.Proofs.YtnibcmaaehkhlaaGreatDoor
open Go Go.Aw
variable {kr : KR}
set_option maxHeartbeats 1000000 in
theorem c_expr_1 (d : D) (hd : d.text.size ≤ 40) : Pur Tryz.prog (GL kr) 148 [.pv (enc d)] (.pv (enc (xD d))) := by
 have hcat : 2 + (d.text).size ≤ 9223372036854775807 := by have := hd; omega
 have hxb : (⟨#[120, 46]⟩ : ByteArray) ++ d.text = xB d.text := rfl
 refine pur_of fun σ hgl => ?_
 refine acalls_of tyOk Tryz.func148 rfl (by simp [Tryz.f148]) ?_
 refine awp_seq (aR (by simp [go_sem, hcat, hxb] <;> rfl) ?_)
 refine awp_seq (awp_reg ?_)
 refine aL 3 (by simp [go_sem, hcat, hxb] <;> rfl) ?_
 refine aF call57 ((c_flat_Sym (xB d.text)) _ (by exact hgl)) (by simp [go_sem, hcat, hxb] <;> rfl) (by simp [go_sem, hcat, hxb]) ?_
 refine aL 1 (by simp [go_sem, hcat, hxb] <;> rfl) ?_
 refine al_nil ?_
 refine awp_ret ?_
 refine ends_ret (by simp [go_sem, hcat, hxb] <;> rfl) (by simp [go_sem]) ?_
 exact ⟨by simp [go_sem, hcat, hxb, xD], by simp [go_sem]⟩

set_option maxHeartbeats 4000000 in
theorem c_expr_other (d : D) (hg : GoodM d) (hd : d.size ≤ 100000000) (ih : ∀ x, x ∈ inner d → Pur Tryz.prog (GL kr) 76 [.pv (enc x)] (.pv (enc (mexpr x)))) (hna : isW d sApp = false) : Pur Tryz.prog (GL kr) 76 [.pv (enc d)] (.pv (enc (mexpr d))) := by
 have hkl := D.kids_length_lt d
 have hil := inner_len d
 have hft : ∀ x, x ∈ d.kids → x.text.size ≤ 40 := fun x hx => formed_text (formed_kids hg.formed hx)
 refine pur_of fun σ hgl => ?_
 refine acalls_of tyOk Tryz.func76 rfl (by simp [Tryz.f76]) ?_
 refine awp_seq (aR (by simp [go_sem] <;> rfl) ?_)
 refine awp_seq (aR (by simp [go_sem] <;> rfl) ?_)
 refine awp_seq (awp_block ?_)
 refine awp_seq (aR (by simp [go_sem] <;> rfl) ?_)
 refine awp_cond (by first | rfl | (simp [go_sem] <;> rfl)) (fun h0 => ?_) (fun h0 => ?_)
 ·have hM := mexpr_sym (d := d) (by simpa using h0)
  refine awp_seq (awp_reg ?_)
  refine aL 2 (by simp [go_sem] <;> rfl) ?_
  refine al_fn rfl rfl rfl (by simp [go_sem] <;> rfl) call148 ((c_expr_1 d (formed_text hg.formed)) _ (by exact hgl)) (by simp [go_sem] <;> rfl) (by simp [go_sem]) rfl rfl ?_
  refine aL 1 (by simp [go_sem] <;> rfl) ?_
  refine al_nil ?_
  refine awp_ret ?_
  refine inBlock_ret ?_
  refine then_ret ?_
  refine ends_ret (by simp [go_sem] <;> rfl) (by simp [go_sem]) ?_
  exact ⟨by simp [go_sem, hM], by simp [go_sem]⟩
 ·have hk2f : (d.kind == 2) = false := h0
  refine awp_seq (awp_reg ?_)
  refine aL 4 (by simp [go_sem] <;> rfl) ?_
  refine al_splitT 20 (by first | rfl | (simp [go_sem] <;> rfl)) (fun h1 => ?_) (fun h1 => ?_)
  ·have hM := mexpr_num (d := d) (by simpa using h1)
   refine aK 2 20 false ?_
   refine aL 2 (by simp [go_sem] <;> rfl) ?_
   refine al_nil ?_
   refine awp_cond (b := true) (by simp [go_sem, h0, h1]) (fun h => ?_) (fun h => ?_)
   rotate_left
   ·cases h
   refine awp_seq (aR (by simp [go_sem] <;> rfl) ?_)
   refine awp_ret ?_
   refine inBlock_ret ?_
   refine then_ret ?_
   refine ends_ret (by simp [go_sem] <;> rfl) (by simp [go_sem]) ?_
   exact ⟨by simp [go_sem, hM], by simp [go_sem]⟩
  ·have k1 : (d.kind == 1) = false := h1
   refine aLG 1 20 false (by simp [go_sem] <;> rfl) ?_
   refine al_fnG 20 false false (by simp [go_sem]) rfl (by simp [go_sem]) rfl rfl (by simp [go_sem] <;> rfl) call147 ((c_Is d sQuote hg.ne) _ (by exact hgl)) (by simp [go_sem] <;> rfl) (by simp [go_sem, eQuote]) rfl rfl ?_
   refine aL 2 (by simp [go_sem] <;> rfl) ?_
   refine al_nil ?_
   refine awp_cond (by first | rfl | (simp [go_sem] <;> rfl)) (fun h2 => ?_) (fun h2 => ?_)
   ·have hM := mexpr_quote (d := d) h2
    refine awp_seq (aR (by simp [go_sem] <;> rfl) ?_)
    refine awp_ret ?_
    refine inBlock_ret ?_
    refine then_ret ?_
    refine ends_ret (by simp [go_sem] <;> rfl) (by simp [go_sem]) ?_
    exact ⟨by simp [go_sem, hM], by simp [go_sem]⟩
   ·have hnq : isW d sQuote = false := h2
    have hk3 : d.kind = 3 := by rcases hg.kind with h | ⟨h, _⟩ | h; (have k := k1; rw [h] at k; cases k); (have k := hk2f; rw [h] at k; cases k); exact h
    obtain ⟨x0, r0, hks⟩ := kids_cons (hg.ne hk3)
    have hx0 : d.kids[0]? = some x0 := by rw [hks]; rfl
    have hh := head_cons hks
    refine awp_skip ?_
    refine awp_seq (aR (by simp [go_sem, hx0] <;> rfl) ?_)
    refine awp_seq (awp_seq (awp_reg ?_))
    refine aL 1 (by simp [go_sem, hx0] <;> rfl) ?_
    refine aF call149 ((c_Inner d hg.ne hg.n) _ (by exact hgl)) (by simp [go_sem, hx0] <;> rfl) (by simp [go_sem, hx0]) ?_
    refine aL 2 (by simp [go_sem, hx0] <;> rfl) ?_
    refine al_nil ?_
    refine awp_adopt' 4 24 4 (by simp [go_sem] <;> rfl) ?_
    refine awp_block ?_
    refine awp_loop_headK σ.objs.length (σ.toks.length + 1) 2 [1, 2, 3, 26, 27] (fun k : Nat => [(4, .acc (((inner d).map (enc ∘ mexpr)).take k) σ.toks.length), (28, .pv (.int .i64 ↑k))]) (fun k => { σ with toks := σ.toks ++ [⟨k, 24, 4⟩] }) (fun k => k ≤ (inner d).length) (fun k => (inner d).length - k) 0 (Nat.zero_le _) ⟨by simp [go_sem, hx0], rfl, by simp, by simp, by simp [go_sem, hx0], fun ob h => .inl (by simpa [go_sem, hx0] using h), by simp [go_sem]⟩ ?_
    intro k hk
    refine awp_seq (aR (by simp [go_sem, hx0] <;> rfl) ?_)
    refine awp_seq (awp_cond (by first | rfl | (simp [go_sem, hx0] <;> rfl)) (fun h3 => ?_) (fun h3 => ?_))
    ·have hlt : k < (inner d).length := by simp at h3; omega
     have hw : IntKind.i64.wrap (↑k + 1) = (k : Int) + 1 := wrap_succ (by omega)
     obtain ⟨x, hx, hxm⟩ := get_lt hlt
     have ht : ((inner d).map (enc ∘ mexpr)).take (k + 1) = ((inner d).map (enc ∘ mexpr)).take k ++ [enc (mexpr x)] := take_next (by simp [hx])
     have hm : min k (inner d).length = k := by omega
     have hb2 : (k + 1) * 56 ≤ 140737488355328 := by omega
     refine awp_skip ?_
     refine awp_seq (awp_block ?_)
     refine awp_seq (aR (by simp [go_sem, hx0, hx, hm, hb2] <;> rfl) ?_)
     refine awp_reg ?_
     refine aL 2 (by simp [go_sem, hx0, hx, hm, hb2] <;> rfl) ?_
     refine aF call76 ((ih x hxm) _ (by exact hgl)) (by simp [go_sem, hx0, hx, hm, hb2] <;> rfl) (by simp [go_sem, hx0, hx, hm, hb2]) ?_
     refine aL 3 (by simp [go_sem, hx0, hx, hm, hb2] <;> rfl) ?_
     refine al_nil ?_
     refine aR (by simp [go_sem, hx0, hx, hm, hb2] <;> rfl) ?_
     exact next_intro (k + 1) σ.objs.length (σ.toks.length + 1) 2 (hlt) (by omega) ⟨by simp [go_sem, hx0, hx, hm, hb2, hw, ht], rfl, by simp, by simp, by simp [go_sem, hx0, hx, hm, hb2, hw, ht], fun ob h => .inl (by simpa [go_sem, hx0, hx, hm, hb2, hw, ht] using h), by simp [go_sem]⟩
    ·have hke : k = (inner d).length := by simp at h3; omega
     subst hke
     refine awp_exit ?_
     refine then_exit ?_
     refine then_exit ?_
     refine inBlock_hit ?_
     refine awp_seq (aR (by simp [go_sem, hx0] <;> rfl) ?_)
     refine awp_seq (awp_seq (aR (by simp [go_sem, hx0] <;> rfl) ?_))
     refine awp_block ?_
     refine awp_seq (aR (by simp [go_sem, hx0] <;> rfl) ?_)
     refine awp_cond (by first | rfl | (simp [go_sem, hx0] <;> rfl)) (fun h4 => ?_) (fun h4 => ?_)
     ·have hw : isW d sFn = true := isW_iff.2 ⟨hk3, (congrArg D.text hh).trans (of_decide_eq_true h4)⟩
      obtain ⟨f, y, b, hk1, hk2, hkk, hd1, hd2, hin, _⟩ := hg.fn hw
      have hM := mexpr_fn hg hw hd1 hd2 hin
      have hx0f : x0 = dsym sFn := by rw [← hh]; exact head_sym hg hk3 (isW_iff.1 hw).2
      refine awp_seq (awp_seq (awp_regDP tyOk tySz 8 (by kernel_rfl) (by decide) ?_))
      refine ul_run 8 (by simp [go_sem, hx0, hk1, hk2, hin] <;> rfl) ?_
      refine ul_nil ?_
      refine aL 1 (by simp [go_sem, hx0, hk1, hk2, hin] <;> rfl) ?_
      refine al_nil ?_
      refine awp_cond (by first | rfl | (simp [go_sem, hx0, hk1, hk2, hin] <;> rfl)) (fun h5 => ?_) (fun h5 => ?_)
      ·have hM2 : mexpr d = dlist [x0, dlist [xD y], mexpr b] := by rw [hM, hx0f]; unfold exFn; rw [if_pos h5]
       refine awp_seq (awp_regDC tyOk tySz 13 (by kernel_rfl) (by decide) ?_)
       refine ul_run 7 (by simp [go_sem, hx0, hk1, hk2, hin] <;> rfl) ?_
       refine ul_fn (by first | (intro _ _ hh; exact hh) | simp [go_sem]) rfl rfl rfl rfl (by simp [go_sem, hx0, hk1, hk2, hin] <;> rfl) call148 ((c_expr_1 y (hft y (List.mem_of_getElem? hk2))) _ (by exact hgl)) (by simp [go_sem, hx0, hk1, hk2, hin] <;> rfl) (by simp [go_sem, hx0, hk1, hk2, hin]) rfl rfl ?_
       refine ul_run 1 (by simp [go_sem, hx0, hk1, hk2, hin] <;> rfl) ?_
       refine ul_fn (by first | (intro _ _ hh; exact hh) | simp [go_sem]) rfl rfl rfl rfl (by simp [go_sem, hx0, hk1, hk2, hin] <;> rfl) call61 ((c_flat_List [xD y]) _ (by exact hgl)) (by simp [go_sem, hx0, hk1, hk2, hin] <;> rfl) (by simp [go_sem, hx0, hk1, hk2, hin]) rfl rfl ?_
       refine ul_run 3 (by simp [go_sem, hx0, hk1, hk2, hin] <;> rfl) ?_
       refine ul_nil ?_
       refine aL 1 (by simp [go_sem, hx0, hk1, hk2, hin] <;> rfl) ?_
       refine aF call61 ((c_flat_List [x0, dlist [xD y], mexpr b]) _ (by exact hgl)) (by simp [go_sem, hx0, hk1, hk2, hin] <;> rfl) (by simp [go_sem, hx0, hk1, hk2, hin]) ?_
       refine aL 1 (by simp [go_sem, hx0, hk1, hk2, hin] <;> rfl) ?_
       refine al_nil ?_
       refine awp_ret ?_
       refine then_ret ?_
       refine inBlock_ret ?_
       refine then_ret ?_
       refine ends_ret (by simp [go_sem] <;> rfl) (by simp [go_sem]) ?_
       exact ⟨by simp [go_sem, hM2], by simp [go_sem]⟩
      ·have hM2 : mexpr d = dlist [dsym sRec, dlist [dlist [xD f, dlist [xD y], mexpr b]], xD f] := by rw [hM]; unfold exFn; rw [if_neg (by rw [h5]; decide)]
       refine awp_skip ?_
       refine awp_seq (awp_regDC tyOk tySz 24 (drawOk_of (by kernel_rfl)) (by decide) ?_)
       refine ul_fn (by first | (intro _ _ hh; exact hh) | simp [go_sem]) rfl rfl rfl rfl (by simp [go_sem, hx0, hk1, hk2, hin] <;> rfl) call57 ((c_flat_Sym sRec) _ (by exact hgl)) (by simp [go_sem, hx0, hk1, hk2, hin] <;> rfl) (by simp [go_sem, hx0, hk1, hk2, hin, eRec']) rfl rfl ?_
       refine ul_run 4 (by simp [go_sem, hx0, hk1, hk2, hin] <;> rfl) ?_
       refine ul_fn (by first | (intro _ _ hh; exact hh) | simp [go_sem]) rfl rfl rfl rfl (by simp [go_sem, hx0, hk1, hk2, hin] <;> rfl) call148 ((c_expr_1 f (hft f (List.mem_of_getElem? hk1))) _ (by exact hgl)) (by simp [go_sem, hx0, hk1, hk2, hin] <;> rfl) (by simp [go_sem, hx0, hk1, hk2, hin]) rfl rfl ?_
       refine ul_run 4 (by simp [go_sem, hx0, hk1, hk2, hin] <;> rfl) ?_
       refine ul_fn (by first | (intro _ _ hh; exact hh) | simp [go_sem]) rfl rfl rfl rfl (by simp [go_sem, hx0, hk1, hk2, hin] <;> rfl) call148 ((c_expr_1 y (hft y (List.mem_of_getElem? hk2))) _ (by exact hgl)) (by simp [go_sem, hx0, hk1, hk2, hin] <;> rfl) (by simp [go_sem, hx0, hk1, hk2, hin]) rfl rfl ?_
       refine ul_run 1 (by simp [go_sem, hx0, hk1, hk2, hin] <;> rfl) ?_
       refine ul_fn (by first | (intro _ _ hh; exact hh) | simp [go_sem]) rfl rfl rfl rfl (by simp [go_sem, hx0, hk1, hk2, hin] <;> rfl) call61 ((c_flat_List [xD y]) _ (by exact hgl)) (by simp [go_sem, hx0, hk1, hk2, hin] <;> rfl) (by simp [go_sem, hx0, hk1, hk2, hin]) rfl rfl ?_
       refine ul_run 4 (by simp [go_sem, hx0, hk1, hk2, hin] <;> rfl) ?_
       refine ul_fn (by first | (intro _ _ hh; exact hh) | simp [go_sem]) rfl rfl rfl rfl (by simp [go_sem, hx0, hk1, hk2, hin] <;> rfl) call61 ((c_flat_List [xD f, dlist [xD y], mexpr b]) _ (by exact hgl)) (by simp [go_sem, hx0, hk1, hk2, hin] <;> rfl) (by simp [go_sem, hx0, hk1, hk2, hin]) rfl rfl ?_
       refine ul_run 1 (by simp [go_sem, hx0, hk1, hk2, hin] <;> rfl) ?_
       refine ul_fn (by first | (intro _ _ hh; exact hh) | simp [go_sem]) rfl rfl rfl rfl (by simp [go_sem, hx0, hk1, hk2, hin] <;> rfl) call61 ((c_flat_List [dlist [xD f, dlist [xD y], mexpr b]]) _ (by exact hgl)) (by simp [go_sem, hx0, hk1, hk2, hin] <;> rfl) (by simp [go_sem, hx0, hk1, hk2, hin]) rfl rfl ?_
       refine ul_run 4 (by simp [go_sem, hx0, hk1, hk2, hin] <;> rfl) ?_
       refine ul_nil ?_
       refine al_fn rfl rfl rfl (by simp [go_sem, hx0, hk1, hk2, hin] <;> rfl) call148 ((c_expr_1 f (hft f (List.mem_of_getElem? hk1))) _ (by exact hgl)) (by simp [go_sem, hx0, hk1, hk2, hin] <;> rfl) (by simp [go_sem, hx0, hk1, hk2, hin]) rfl rfl ?_
       refine aL 1 (by simp [go_sem, hx0, hk1, hk2, hin] <;> rfl) ?_
       refine aF call61 ((c_flat_List [dsym sRec, dlist [dlist [xD f, dlist [xD y], mexpr b]], xD f]) _ (by exact hgl)) (by simp [go_sem, hx0, hk1, hk2, hin] <;> rfl) (by simp [go_sem, hx0, hk1, hk2, hin]) ?_
       refine aL 1 (by simp [go_sem, hx0, hk1, hk2, hin] <;> rfl) ?_
       refine al_nil ?_
       refine awp_ret ?_
       refine inBlock_ret ?_
       refine then_ret ?_
       refine ends_ret (by simp [go_sem] <;> rfl) (by simp [go_sem]) ?_
       exact ⟨by simp [go_sem, hM2], by simp [go_sem]⟩
     ·have hnf : isW d sFn = false := (Bool.not_eq_true _).mp fun e => absurd ((congrArg D.text hh).symm.trans (isW_iff.1 e).2) (of_decide_eq_false h4)
      refine awp_seq (aR (by simp [go_sem, hx0] <;> rfl) ?_)
      refine awp_cond (by first | rfl | (simp [go_sem, hx0] <;> rfl)) (fun h6 => ?_) (fun h6 => ?_)
      ·have hw : isW d sLet = true := isW_iff.2 ⟨hk3, (congrArg D.text hh).trans (of_decide_eq_true h6)⟩
       obtain ⟨y, a, b, hk1, hkk, hd1, hin, _⟩ := hg.lett hw
       have hM := mexpr_let hg hw hd1 hin
       rw [hh] at hM
       refine awp_seq (awp_regDC tyOk tySz 14 (by kernel_rfl) (by decide) ?_)
       refine ul_run 7 (by simp [go_sem, hx0, hk1, hin] <;> rfl) ?_
       refine ul_fn (by first | (intro _ _ hh; exact hh) | simp [go_sem]) rfl rfl rfl rfl (by simp [go_sem, hx0, hk1, hin] <;> rfl) call148 ((c_expr_1 y (hft y (List.mem_of_getElem? hk1))) _ (by exact hgl)) (by simp [go_sem, hx0, hk1, hin] <;> rfl) (by simp [go_sem, hx0, hk1, hin]) rfl rfl ?_
       refine ul_run 6 (by simp [go_sem, hx0, hk1, hin] <;> rfl) ?_
       refine ul_nil ?_
       refine aL 1 (by simp [go_sem, hx0, hk1, hin] <;> rfl) ?_
       refine aF call61 ((c_flat_List [x0, xD y, mexpr a, mexpr b]) _ (by exact hgl)) (by simp [go_sem, hx0, hk1, hin] <;> rfl) (by simp [go_sem, hx0, hk1, hin]) ?_
       refine aL 1 (by simp [go_sem, hx0, hk1, hin] <;> rfl) ?_
       refine al_nil ?_
       refine awp_ret ?_
       refine inBlock_ret ?_
       refine then_ret ?_
       refine ends_ret (by simp [go_sem, hx0, hk1, hin] <;> rfl) (by simp [go_sem]) ?_
       exact ⟨by simp [go_sem, hM], by simp [go_sem]⟩
      ·have hnl : isW d sLet = false := (Bool.not_eq_true _).mp fun e => absurd ((congrArg D.text hh).symm.trans (isW_iff.1 e).2) (of_decide_eq_false h6)
       refine awp_seq (aR (by simp [go_sem, hx0] <;> rfl) ?_)
       refine awp_cond (by first | rfl | (simp [go_sem, hx0] <;> rfl)) (fun h7 => ?_) (fun h7 => ?_)
       ·exact absurd (show isW d sApp = true from isW_iff.2 ⟨hk3, (congrArg D.text hh).trans (of_decide_eq_true h7)⟩) (by rw [hna]; decide)
       ·refine awp_seq ?_
        refine aR (by simp [go_sem, hx0] <;> rfl) ?_
        refine awp_cond (by first | rfl | (simp [go_sem, hx0] <;> rfl)) (fun h8 => ?_) (fun h8 => ?_)
        ·have hw : isW d sSay = true := isW_iff.2 ⟨hk3, (congrArg D.text hh).trans (of_decide_eq_true h8)⟩
         obtain ⟨a, hin, _⟩ := hg.say hw
         have hM := mexpr_say hw hin
         refine awp_seq (awp_regDC tyOk tySz 4 (by kernel_rfl) (by decide) ?_)
         refine ul_fn (by first | (intro _ _ hh; exact hh) | simp [go_sem]) rfl rfl rfl rfl (by simp [go_sem, hx0, hin] <;> rfl) call57 ((c_flat_Sym sPrn) _ (by exact hgl)) (by simp [go_sem, hx0, hin] <;> rfl) (by simp [go_sem, hx0, hin, ePrn]) rfl rfl ?_
         refine ul_run 3 (by simp [go_sem, hx0, hin] <;> rfl) ?_
         refine ul_nil ?_
         refine aL 1 (by simp [go_sem, hx0, hin] <;> rfl) ?_
         refine aF call61 ((c_flat_List [dsym sPrn, mexpr a]) _ (by exact hgl)) (by simp [go_sem, hx0, hin] <;> rfl) (by simp [go_sem, hx0, hin]) ?_
         refine aL 1 (by simp [go_sem, hx0, hin] <;> rfl) ?_
         refine al_nil ?_
         refine awp_ret ?_
         refine inBlock_ret ?_
         refine then_ret ?_
         refine ends_ret (by simp [go_sem, hx0, hin] <;> rfl) (by simp [go_sem]) ?_
         exact ⟨by simp [go_sem, hM], by simp [go_sem]⟩
        ·have hns : isW d sSay = false := (Bool.not_eq_true _).mp fun e => absurd ((congrArg D.text hh).symm.trans (isW_iff.1 e).2) (of_decide_eq_false h8)
         have hM := mexpr_op hk3 hnq hnf hnl hna hns
         rw [hh] at hM
         have hb3 : (1 + (inner d).length) * 56 ≤ 140737488355328 := by omega
         have hall : allSz 4 ((inner d).map (enc ∘ mexpr)) = true := by rw [← List.map_map]; exact allSz_enc _
         refine awp_skip ?_
         refine awp_seq (awp_reg ?_)
         refine aL 6 (by simp [go_sem, hx0, hb3, hall] <;> rfl) ?_
         refine aF call61 ((c_flat_List (x0 :: (inner d).map mexpr)) _ (by exact hgl)) (by simp [go_sem, hx0, hb3, hall] <;> rfl) (by simp [go_sem, hx0, hb3, hall]) ?_
         refine aL 1 (by simp [go_sem, hx0, hb3, hall] <;> rfl) ?_
         refine al_nil ?_
         refine awp_ret ?_
         refine ends_ret (by simp [go_sem, hx0, hb3, hall] <;> rfl) (by simp [go_sem]) ?_
         exact ⟨by simp [go_sem, hM], by simp [go_sem]⟩

set_option maxHeartbeats 4000000 in
theorem c_expr_app (d : D) (hg : GoodM d) (hd : d.size ≤ 100000000) (ih : ∀ x, x ∈ inner d → Pur Tryz.prog (GL kr) 76 [.pv (enc x)] (.pv (enc (mexpr x)))) (hw : isW d sApp = true) : Pur Tryz.prog (GL kr) 76 [.pv (enc d)] (.pv (enc (mexpr d))) := by
 have hkl := D.kids_length_lt d
 obtain ⟨a, b, hin, hkk, hk3, hht⟩ := hg.app hw
 have hM := mexpr_app hw hin
 have hx0 : d.kids[0]? = some d.head := by rw [hkk]; rfl
 have hkA : (d.kind == 2) = false := by rw [hk3]; rfl
 have hkB : (d.kind == 1) = false := by rw [hk3]; rfl
 have hgx : gX = dsym ⟨#[120, 46]⟩ := rfl
 have hn1 : decide (d.head.text = ⟨#[102, 110]⟩) = false := by rw [hht]; decide
 have hn2 : decide (d.head.text = ⟨#[108, 101, 116]⟩) = false := by rw [hht]; decide
 have hn3 : decide (d.head.text = ⟨#[97, 112, 112]⟩) = true := by rw [hht]; decide
 have hnq : isW d sQuote = false := by unfold isW; rw [hht, hk3]; decide
 have hw1 : IntKind.i64.wrap 1 = 1 := by decide
 have hw2 : IntKind.i64.wrap 2 = 2 := by decide
 obtain ⟨NEWA, hNA⟩ : ∃ z, z = dlist [dsym sLet, gX, mexpr a, gX] := ⟨_, rfl⟩
 rw [← hNA] at hM
 refine pur_of fun σ hgl => ?_
 refine acalls_of tyOk Tryz.func76 rfl (by simp [Tryz.f76]) ?_
 refine awp_seq (aR (by simp [go_sem, flat2_enc, hkA, hkB, hin, hx0, hn1, hn2, hn3, hw1, hw2] <;> rfl) ?_)
 refine awp_seq (aR (by simp [go_sem, flat2_enc, hkA, hkB, hin, hx0, hn1, hn2, hn3, hw1, hw2] <;> rfl) ?_)
 refine awp_seq (awp_block ?_)
 refine awp_seq (aR (by simp [go_sem, flat2_enc, hkA, hkB, hin, hx0, hn1, hn2, hn3, hw1, hw2] <;> rfl) ?_)
 refine awp_cond (by first | rfl | (simp [go_sem, flat2_enc, hkA, hkB, hin, hx0, hn1, hn2, hn3, hw1, hw2] <;> rfl)) (fun h0 => ?_) (fun h0 => ?_)
 ·first | (cases h0; done) | (simp at h0; done)
 ·refine awp_seq ?_
  refine awp_reg ?_
  refine aL 4 (by simp [go_sem, flat2_enc, hkA, hkB, hin, hx0, hn1, hn2, hn3, hw1, hw2] <;> rfl) ?_
  refine al_splitT 20 (by first | rfl | (simp [go_sem, flat2_enc, hkA, hkB, hin, hx0, hn1, hn2, hn3, hw1, hw2] <;> rfl)) (fun h1 => ?_) (fun h1 => ?_)
  ·first | (cases h1; done) | (simp at h1; done)
  ·refine aLG 1 20 false (by simp [go_sem, flat2_enc, hkA, hkB, hin, hx0, hn1, hn2, hn3, hw1, hw2] <;> rfl) ?_
   refine al_fnG 20 false false (by simp [go_sem]) rfl (by simp [go_sem]) rfl rfl (by simp [go_sem, flat2_enc, hkA, hkB, hin, hx0, hn1, hn2, hn3, hw1, hw2] <;> rfl) call147 ((c_Is d sQuote hg.ne) _ (by exact hgl)) (by simp [go_sem, flat2_enc, hkA, hkB, hin, hx0, hn1, hn2, hn3, hw1, hw2] <;> rfl) (by simp [go_sem, flat2_enc, hkA, hkB, hin, hx0, hn1, hn2, hn3, hw1, hw2, eQuote]) rfl rfl ?_
   refine aL 2 (by simp [go_sem, flat2_enc, hkA, hkB, hin, hx0, hn1, hn2, hn3, hw1, hw2, hnq] <;> rfl) ?_
   refine al_nil ?_
   refine awp_cond (by first | rfl | (simp [go_sem, flat2_enc, hkA, hkB, hin, hx0, hn1, hn2, hn3, hw1, hw2, hnq] <;> rfl)) (fun h2 => ?_) (fun h2 => ?_)
   ·first | (cases h2; done) | (simp at h2; done)
   ·refine awp_skip ?_
    refine awp_seq (aR (by simp [go_sem, flat2_enc, hkA, hkB, hin, hx0, hn1, hn2, hn3, hw1, hw2, hnq] <;> rfl) ?_)
    refine awp_seq (awp_seq (awp_reg ?_))
    refine aL 1 (by simp [go_sem, flat2_enc, hkA, hkB, hin, hx0, hn1, hn2, hn3, hw1, hw2, hnq] <;> rfl) ?_
    refine aF call149 ((c_Inner d hg.ne hg.n) _ (by exact hgl)) (by simp [go_sem, flat2_enc, hkA, hkB, hin, hx0, hn1, hn2, hn3, hw1, hw2, hnq] <;> rfl) (by simp [go_sem, flat2_enc, hkA, hkB, hin, hx0, hn1, hn2, hn3, hw1, hw2, hnq]) ?_
    refine aL 2 (by simp [go_sem, flat2_enc, hkA, hkB, hin, hx0, hn1, hn2, hn3, hw1, hw2, hnq] <;> rfl) ?_
    refine al_nil ?_
    refine awp_block ?_
    refine awp_loopL (awpL_round ?_)
    refine awp_seq (aR (by simp [go_sem, flat2_enc, hkA, hkB, hin, hx0, hn1, hn2, hn3, hw1, hw2, hnq] <;> rfl) ?_)
    refine awp_seq (awp_cond (b := true) (by simp [go_sem, flat2_enc, hkA, hkB, hin, hx0, hn1, hn2, hn3, hw1, hw2, hnq, h0, h1, h2]) (fun h => ?_) (fun h => ?_))
    rotate_left
    ·cases h
    refine awp_skip ?_
    refine awp_seq (awp_block ?_)
    refine awp_seq (aR (by simp [go_sem, flat2_enc, hkA, hkB, hin, hx0, hn1, hn2, hn3, hw1, hw2, hnq] <;> rfl) ?_)
    refine awp_reg ?_
    refine aL 2 (by simp [go_sem, flat2_enc, hkA, hkB, hin, hx0, hn1, hn2, hn3, hw1, hw2, hnq] <;> rfl) ?_
    refine aF call76 ((ih a (by rw [hin]; simp)) _ (by exact hgl)) (by simp [go_sem, flat2_enc, hkA, hkB, hin, hx0, hn1, hn2, hn3, hw1, hw2, hnq] <;> rfl) (by simp [go_sem, flat2_enc, hkA, hkB, hin, hx0, hn1, hn2, hn3, hw1, hw2, hnq]) ?_
    refine aL 1 (by simp [go_sem, flat2_enc, hkA, hkB, hin, hx0, hn1, hn2, hn3, hw1, hw2, hnq] <;> rfl) ?_
    refine al_appendNil tyOk 4 (ys := [enc (mexpr a)]) rfl rfl rfl rfl rfl rfl (by simp [go_sem , flat2_enc, hkA, hkB, hin, hx0, hn1, hn2, hn3, hw1, hw2, hnq] <;> rfl) (by simp [go_sem , flat2_enc, hkA, hkB, hin, hx0, hn1, hn2, hn3, hw1, hw2, hnq] <;> rfl) (by simp) (by simp [go_sem]) (by decide) (show 1 * 56 ≤ 140737488355328 by decide) rfl fun cap hcap => ?_
    refine aL 1 (by simp [go_sem, flat2_enc, hkA, hkB, hin, hx0, hn1, hn2, hn3, hw1, hw2, hnq] <;> rfl) ?_
    refine al_nil ?_
    refine aR (by simp [go_sem, flat2_enc, hkA, hkB, hin, hx0, hn1, hn2, hn3, hw1, hw2, hnq] <;> rfl) ?_
    refine awpL_round ?_
    refine awp_seq (aR (by simp [go_sem, flat2_enc, hkA, hkB, hin, hx0, hn1, hn2, hn3, hw1, hw2, hnq] <;> rfl) ?_)
    refine awp_seq (awp_cond (b := true) (by simp [go_sem, flat2_enc, hkA, hkB, hin, hx0, hn1, hn2, hn3, hw1, hw2, hnq, h0, h1, h2]) (fun h => ?_) (fun h => ?_))
    rotate_left
    ·cases h
    refine awp_skip ?_
    refine awp_seq (awp_block ?_)
    refine awp_seq (aR (by simp [go_sem, flat2_enc, hkA, hkB, hin, hx0, hn1, hn2, hn3, hw1, hw2, hnq] <;> rfl) ?_)
    refine awp_reg ?_
    refine aL 2 (by simp [go_sem, flat2_enc, hkA, hkB, hin, hx0, hn1, hn2, hn3, hw1, hw2, hnq] <;> rfl) ?_
    refine aF call76 ((ih b (by rw [hin]; simp)) _ (by exact hgl)) (by simp [go_sem, flat2_enc, hkA, hkB, hin, hx0, hn1, hn2, hn3, hw1, hw2, hnq] <;> rfl) (by simp [go_sem, flat2_enc, hkA, hkB, hin, hx0, hn1, hn2, hn3, hw1, hw2, hnq]) ?_
    refine aL 1 (by simp [go_sem, flat2_enc, hkA, hkB, hin, hx0, hn1, hn2, hn3, hw1, hw2, hnq] <;> rfl) ?_
    refine al_growRow tyOk 4 (ob := σ.objs.length) (cap := cap) (n := 1) (xs := [enc (mexpr a)]) (y := enc (mexpr b)) rfl rfl rfl rfl rfl rfl rfl (by simp [go_sem , flat2_enc, hkA, hkB, hin, hx0, hn1, hn2, hn3, hw1, hw2, hnq] <;> rfl) (by simp [go_sem , flat2_enc, hkA, hkB, hin, hx0, hn1, hn2, hn3, hw1, hw2, hnq] <;> rfl) (by simp) (by simp [go_sem , flat2_enc, hkA, hkB, hin, hx0, hn1, hn2, hn3, hw1, hw2, hnq] <;> rfl) (by rw [enc_cells]; rfl) (by decide) (by decide) rfl (fun hroom => ?_) (fun cap' hgrow => ?_)
    ·refine aL 1 (by simp [go_sem, flat2_enc, hkA, hkB, hin, hx0, hn1, hn2, hn3, hw1, hw2, hnq] <;> rfl) ?_
     refine al_nil ?_
     refine aR (by simp [go_sem, flat2_enc, hkA, hkB, hin, hx0, hn1, hn2, hn3, hw1, hw2, hnq] <;> rfl) ?_
     refine awpL_round ?_
     refine awp_seq (aR (by simp [go_sem, flat2_enc, hkA, hkB, hin, hx0, hn1, hn2, hn3, hw1, hw2, hnq] <;> rfl) ?_)
     refine awp_seq (awp_cond (b := false) (by simp [go_sem, flat2_enc, hkA, hkB, hin, hx0, hn1, hn2, hn3, hw1, hw2, hnq, h0, h1, h2]) (fun h => ?_) (fun h => ?_))
     ·cases h
     refine awp_exit ?_
     refine then_exit ?_
     refine then_exit ?_
     refine inBlock_hit ?_
     refine awp_seq (aR (by simp [go_sem, flat2_enc, hkA, hkB, hin, hx0, hn1, hn2, hn3, hw1, hw2, hnq] <;> rfl) ?_)
     refine awp_seq (awp_seq (aR (by simp [go_sem, flat2_enc, hkA, hkB, hin, hx0, hn1, hn2, hn3, hw1, hw2, hnq] <;> rfl) ?_))
     refine awp_block ?_
     refine awp_seq (aR (by simp [go_sem, flat2_enc, hkA, hkB, hin, hx0, hn1, hn2, hn3, hw1, hw2, hnq] <;> rfl) ?_)
     refine awp_cond (by first | rfl | (simp [go_sem, flat2_enc, hkA, hkB, hin, hx0, hn1, hn2, hn3, hw1, hw2, hnq] <;> rfl)) (fun h3 => ?_) (fun h3 => ?_)
     ·first | (cases h3; done) | (simp at h3; done)
     ·refine awp_seq ?_
      refine aR (by simp [go_sem, flat2_enc, hkA, hkB, hin, hx0, hn1, hn2, hn3, hw1, hw2, hnq] <;> rfl) ?_
      refine awp_cond (by first | rfl | (simp [go_sem, flat2_enc, hkA, hkB, hin, hx0, hn1, hn2, hn3, hw1, hw2, hnq] <;> rfl)) (fun h4 => ?_) (fun h4 => ?_)
      ·first | (cases h4; done) | (simp at h4; done)
      ·refine awp_seq ?_
       refine aR (by simp [go_sem, flat2_enc, hkA, hkB, hin, hx0, hn1, hn2, hn3, hw1, hw2, hnq] <;> rfl) ?_
       refine awp_cond (by first | rfl | (simp [go_sem, flat2_enc, hkA, hkB, hin, hx0, hn1, hn2, hn3, hw1, hw2, hnq] <;> rfl)) (fun h5 => ?_) (fun h5 => ?_)
       ·refine awp_seq ?_
        refine awp_seq (aR (by simp [go_sem, flat2_enc, hkA, hkB, hin, hx0, hn1, hn2, hn3, hw1, hw2, hnq] <;> rfl) ?_)
        refine awp_cond (by first | rfl | (simp [go_sem, flat2_enc, hkA, hkB, hin, hx0, hn1, hn2, hn3, hw1, hw2, hnq] <;> rfl)) (fun h6 => ?_) (fun h6 => ?_)
        ·rw [if_pos h6] at hM
         refine awp_seq (awp_reg ?_)
         refine aF call57 ((c_flat_Sym ⟨#[120, 46]⟩) _ (by exact hgl)) (by simp [go_sem, flat2_enc, hkA, hkB, hin, hx0, hn1, hn2, hn3, hw1, hw2, hnq] <;> rfl) (by simp [go_sem, flat2_enc, hkA, hkB, hin, hx0, hn1, hn2, hn3, hw1, hw2, hnq]) ?_
         refine aL 2 (by simp [go_sem, flat2_enc, hkA, hkB, hin, hx0, hn1, hn2, hn3, hw1, hw2, hnq] <;> rfl) ?_
         refine al_nil ?_
         refine awp_regDP tyOk tySz 9 (by kernel_rfl) (by decide) ?_
         refine ul_run 1 (by simp [go_sem, flat2_enc, hkA, hkB, hin, hx0, hn1, hn2, hn3, hw1, hw2, hnq] <;> rfl) ?_
         refine ul_fn (by first | (intro _ _ hh; exact hh) | simp [go_sem]) rfl rfl rfl rfl (by simp [go_sem, flat2_enc, hkA, hkB, hin, hx0, hn1, hn2, hn3, hw1, hw2, hnq] <;> rfl) call57 ((c_flat_Sym sLet) _ (by exact hgl)) (by simp [go_sem, flat2_enc, hkA, hkB, hin, hx0, hn1, hn2, hn3, hw1, hw2, hnq] <;> rfl) (by simp [go_sem, flat2_enc, hkA, hkB, hin, hx0, hn1, hn2, hn3, hw1, hw2, hnq, eLet]) rfl rfl ?_
         refine ul_run 6 (by simp [go_sem, flat2_enc, hkA, hkB, hin, hx0, hn1, hn2, hn3, hw1, hw2, hnq] <;> rfl) ?_
         refine ul_fn (by first | (intro _ _ hh; exact hh) | simp [go_sem]) rfl rfl rfl rfl (by simp [go_sem, flat2_enc, hkA, hkB, hin, hx0, hn1, hn2, hn3, hw1, hw2, hnq] <;> rfl) call61 ((c_flat_List [dsym sLet, gX, mexpr a, gX]) _ (by exact hgl)) (by simp [go_sem, flat2_enc, hkA, hkB, hin, hx0, hn1, hn2, hn3, hw1, hw2, hnq] <;> rfl) (by simp [go_sem, flat2_enc, hkA, hkB, hin, hx0, hn1, hn2, hn3, hw1, hw2, hnq, hgx]) rfl rfl ?_
         refine ul_nil ?_
         refine aL 1 (by simp [go_sem, flat2_enc, hkA, hkB, hin, hx0, hn1, hn2, hn3, hw1, hw2, hnq, ← hNA] <;> rfl) ?_
         refine al_storeRow tyOk (e := 24) (i := σ.objs.length) (cap := cap) (xs := [enc (mexpr a), enc (mexpr b)]) 0 4 (enc NEWA) rfl rfl (by simp [go_sem , flat2_enc, hkA, hkB, hin, hx0, hn1, hn2, hn3, hw1, hw2, hnq, ← hNA] <;> rfl) rfl rfl (by simp [go_sem , flat2_enc, hkA, hkB, hin, hx0, hn1, hn2, hn3, hw1, hw2, hnq, ← hNA] <;> rfl) (by simp) (Eq.trans (congrArg toPV (show _ = AV.pv (enc NEWA) from by simp [go_sem , flat2_enc, hkA, hkB, hin, hx0, hn1, hn2, hn3, hw1, hw2, hnq, ← hNA])) (toPV_enc _)) (by rw [enc_cells]; rfl) rfl ?_
         ·refine al_nil ?_
          refine awp_seq (awp_freezeK (ob := σ.objs.length) (cap := cap) (sz := 4) (e := 24) 4 [1, 2, 3] σ (xs := [NEWA, mexpr b].map enc) (by simp [go_sem] <;> rfl) (by simp [go_sem] <;> rfl) (by intro h; have := congrArg List.length h; simp at this) (by simp [go_sem]) (by simp [go_sem]) (by simp [go_sem]) (by simp [go_sem]) (fun ob h => by first | exact .inl (by simpa [go_sem] using h) | (simp [go_sem] at h; rcases h with h | h; exact .inl h; subst h; exact .inr rfl)) (by simp [go_sem]) ?_)
          refine awp_reg ?_
          refine aL 1 (by simp [go_sem, flat2_enc, hkA, hkB, hin, hx0, hn1, hn2, hn3, hw1, hw2, hnq, ← hNA] <;> rfl) ?_
          refine aF call61 ((c_flat_List [NEWA, mexpr b]) _ (by exact hgl)) (by simp [go_sem, flat2_enc, hkA, hkB, hin, hx0, hn1, hn2, hn3, hw1, hw2, hnq, ← hNA] <;> rfl) (by simp [go_sem, flat2_enc, hkA, hkB, hin, hx0, hn1, hn2, hn3, hw1, hw2, hnq, ← hNA]) ?_
          refine aL 1 (by simp [go_sem, flat2_enc, hkA, hkB, hin, hx0, hn1, hn2, hn3, hw1, hw2, hnq, ← hNA] <;> rfl) ?_
          refine al_nil ?_
          refine awp_ret ?_
          refine inBlock_ret ?_
          refine then_ret ?_
          refine ends_ret (by simp [go_sem, flat2_enc, hkA, hkB, hin, hx0, hn1, hn2, hn3, hw1, hw2, hnq, ← hNA] <;> rfl) (by simp [go_sem]) ?_
          exact ⟨by simp [go_sem, hM], by simp [go_sem]⟩
        ·rw [h6, if_neg (by decide)] at hM
         refine awp_skip ?_
         refine awp_seq (awp_freezeK (ob := σ.objs.length) (cap := cap) (sz := 4) (e := 24) 4 [1, 2, 3] σ (xs := [mexpr a, mexpr b].map enc) (by simp [go_sem] <;> rfl) (by simp [go_sem] <;> rfl) (by intro h; have := congrArg List.length h; simp at this) (by simp [go_sem]) (by simp [go_sem]) (by simp [go_sem]) (by simp [go_sem]) (fun ob h => by first | exact .inl (by simpa [go_sem] using h) | (simp [go_sem] at h; rcases h with h | h; exact .inl h; subst h; exact .inr rfl)) (by simp [go_sem]) ?_)
         refine awp_reg ?_
         refine aL 1 (by simp [go_sem, flat2_enc, hkA, hkB, hin, hx0, hn1, hn2, hn3, hw1, hw2, hnq] <;> rfl) ?_
         refine aF call61 ((c_flat_List [mexpr a, mexpr b]) _ (by exact hgl)) (by simp [go_sem, flat2_enc, hkA, hkB, hin, hx0, hn1, hn2, hn3, hw1, hw2, hnq] <;> rfl) (by simp [go_sem, flat2_enc, hkA, hkB, hin, hx0, hn1, hn2, hn3, hw1, hw2, hnq]) ?_
         refine aL 1 (by simp [go_sem, flat2_enc, hkA, hkB, hin, hx0, hn1, hn2, hn3, hw1, hw2, hnq] <;> rfl) ?_
         refine al_nil ?_
         refine awp_ret ?_
         refine inBlock_ret ?_
         refine then_ret ?_
         refine ends_ret (by simp [go_sem, flat2_enc, hkA, hkB, hin, hx0, hn1, hn2, hn3, hw1, hw2, hnq] <;> rfl) (by simp [go_sem]) ?_
         exact ⟨by simp [go_sem, hM], by simp [go_sem]⟩
       ·first | (cases h5; done) | (simp at h5; done)
    ·refine aL 1 (by simp [go_sem, flat2_enc, hkA, hkB, hin, hx0, hn1, hn2, hn3, hw1, hw2, hnq] <;> rfl) ?_
     refine al_nil ?_
     refine aR (by simp [go_sem, flat2_enc, hkA, hkB, hin, hx0, hn1, hn2, hn3, hw1, hw2, hnq] <;> rfl) ?_
     refine awpL_round ?_
     refine awp_seq (aR (by simp [go_sem, flat2_enc, hkA, hkB, hin, hx0, hn1, hn2, hn3, hw1, hw2, hnq] <;> rfl) ?_)
     refine awp_seq (awp_cond (b := false) (by simp [go_sem, flat2_enc, hkA, hkB, hin, hx0, hn1, hn2, hn3, hw1, hw2, hnq, h0, h1, h2]) (fun h => ?_) (fun h => ?_))
     ·cases h
     refine awp_exit ?_
     refine then_exit ?_
     refine then_exit ?_
     refine inBlock_hit ?_
     refine awp_seq (aR (by simp [go_sem, flat2_enc, hkA, hkB, hin, hx0, hn1, hn2, hn3, hw1, hw2, hnq] <;> rfl) ?_)
     refine awp_seq (awp_seq (aR (by simp [go_sem, flat2_enc, hkA, hkB, hin, hx0, hn1, hn2, hn3, hw1, hw2, hnq] <;> rfl) ?_))
     refine awp_block ?_
     refine awp_seq (aR (by simp [go_sem, flat2_enc, hkA, hkB, hin, hx0, hn1, hn2, hn3, hw1, hw2, hnq] <;> rfl) ?_)
     refine awp_cond (by first | rfl | (simp [go_sem, flat2_enc, hkA, hkB, hin, hx0, hn1, hn2, hn3, hw1, hw2, hnq] <;> rfl)) (fun h7 => ?_) (fun h7 => ?_)
     ·first | (cases h7; done) | (simp at h7; done)
     ·refine awp_seq ?_
      refine aR (by simp [go_sem, flat2_enc, hkA, hkB, hin, hx0, hn1, hn2, hn3, hw1, hw2, hnq] <;> rfl) ?_
      refine awp_cond (by first | rfl | (simp [go_sem, flat2_enc, hkA, hkB, hin, hx0, hn1, hn2, hn3, hw1, hw2, hnq] <;> rfl)) (fun h8 => ?_) (fun h8 => ?_)
      ·first | (cases h8; done) | (simp at h8; done)
      ·refine awp_seq ?_
       refine aR (by simp [go_sem, flat2_enc, hkA, hkB, hin, hx0, hn1, hn2, hn3, hw1, hw2, hnq] <;> rfl) ?_
       refine awp_cond (by first | rfl | (simp [go_sem, flat2_enc, hkA, hkB, hin, hx0, hn1, hn2, hn3, hw1, hw2, hnq] <;> rfl)) (fun h9 => ?_) (fun h9 => ?_)
       ·refine awp_seq ?_
        refine awp_seq (aR (by simp [go_sem, flat2_enc, hkA, hkB, hin, hx0, hn1, hn2, hn3, hw1, hw2, hnq] <;> rfl) ?_)
        refine awp_cond (by first | rfl | (simp [go_sem, flat2_enc, hkA, hkB, hin, hx0, hn1, hn2, hn3, hw1, hw2, hnq] <;> rfl)) (fun h10 => ?_) (fun h10 => ?_)
        ·rw [if_pos h10] at hM
         refine awp_seq (awp_reg ?_)
         refine aF call57 ((c_flat_Sym ⟨#[120, 46]⟩) _ (by exact hgl)) (by simp [go_sem, flat2_enc, hkA, hkB, hin, hx0, hn1, hn2, hn3, hw1, hw2, hnq] <;> rfl) (by simp [go_sem, flat2_enc, hkA, hkB, hin, hx0, hn1, hn2, hn3, hw1, hw2, hnq]) ?_
         refine aL 2 (by simp [go_sem, flat2_enc, hkA, hkB, hin, hx0, hn1, hn2, hn3, hw1, hw2, hnq] <;> rfl) ?_
         refine al_nil ?_
         refine awp_regDP tyOk tySz 9 (by kernel_rfl) (by decide) ?_
         refine ul_run 1 (by simp [go_sem, flat2_enc, hkA, hkB, hin, hx0, hn1, hn2, hn3, hw1, hw2, hnq] <;> rfl) ?_
         refine ul_fn (by first | (intro _ _ hh; exact hh) | simp [go_sem]) rfl rfl rfl rfl (by simp [go_sem, flat2_enc, hkA, hkB, hin, hx0, hn1, hn2, hn3, hw1, hw2, hnq] <;> rfl) call57 ((c_flat_Sym sLet) _ (by exact hgl)) (by simp [go_sem, flat2_enc, hkA, hkB, hin, hx0, hn1, hn2, hn3, hw1, hw2, hnq] <;> rfl) (by simp [go_sem, flat2_enc, hkA, hkB, hin, hx0, hn1, hn2, hn3, hw1, hw2, hnq, eLet]) rfl rfl ?_
         refine ul_run 6 (by simp [go_sem, flat2_enc, hkA, hkB, hin, hx0, hn1, hn2, hn3, hw1, hw2, hnq] <;> rfl) ?_
         refine ul_fn (by first | (intro _ _ hh; exact hh) | simp [go_sem]) rfl rfl rfl rfl (by simp [go_sem, flat2_enc, hkA, hkB, hin, hx0, hn1, hn2, hn3, hw1, hw2, hnq] <;> rfl) call61 ((c_flat_List [dsym sLet, gX, mexpr a, gX]) _ (by exact hgl)) (by simp [go_sem, flat2_enc, hkA, hkB, hin, hx0, hn1, hn2, hn3, hw1, hw2, hnq] <;> rfl) (by simp [go_sem, flat2_enc, hkA, hkB, hin, hx0, hn1, hn2, hn3, hw1, hw2, hnq, hgx]) rfl rfl ?_
         refine ul_nil ?_
         refine aL 1 (by simp [go_sem, flat2_enc, hkA, hkB, hin, hx0, hn1, hn2, hn3, hw1, hw2, hnq, ← hNA] <;> rfl) ?_
         refine al_storeRow tyOk (e := 24) (i := (σ.objs.length + 1)) (cap := cap') (xs := [enc (mexpr a), enc (mexpr b)]) 0 4 (enc NEWA) rfl rfl (by simp [go_sem , flat2_enc, hkA, hkB, hin, hx0, hn1, hn2, hn3, hw1, hw2, hnq, ← hNA] <;> rfl) rfl rfl (by simp [go_sem , flat2_enc, hkA, hkB, hin, hx0, hn1, hn2, hn3, hw1, hw2, hnq, ← hNA] <;> rfl) (by simp) (Eq.trans (congrArg toPV (show _ = AV.pv (enc NEWA) from by simp [go_sem , flat2_enc, hkA, hkB, hin, hx0, hn1, hn2, hn3, hw1, hw2, hnq, ← hNA])) (toPV_enc _)) (by rw [enc_cells]; rfl) rfl ?_
         ·refine al_nil ?_
          refine awp_seq (awp_freezeK (ob := (σ.objs.length + 1)) (cap := cap') (sz := 4) (e := 24) 4 [1, 2, 3] { σ with objs := σ.objs ++ [.row 24 4 cap [enc (mexpr a)]] } (xs := [NEWA, mexpr b].map enc) (by simp [go_sem] <;> rfl) (by simp [go_sem] <;> rfl) (by intro h; have := congrArg List.length h; simp at this) (by simp [go_sem]) (by simp [go_sem]) (by simp [go_sem]) (by simp [go_sem]) (fun ob h => by first | exact .inl (by simpa [go_sem] using h) | (simp [go_sem] at h; rcases h with h | h; exact .inl h; subst h; exact .inr rfl)) (by simp [go_sem]) ?_)
          refine awp_reg ?_
          refine aL 1 (by simp [go_sem, flat2_enc, hkA, hkB, hin, hx0, hn1, hn2, hn3, hw1, hw2, hnq, ← hNA] <;> rfl) ?_
          refine aF call61 ((c_flat_List [NEWA, mexpr b]) _ (by exact hgl)) (by simp [go_sem, flat2_enc, hkA, hkB, hin, hx0, hn1, hn2, hn3, hw1, hw2, hnq, ← hNA] <;> rfl) (by simp [go_sem, flat2_enc, hkA, hkB, hin, hx0, hn1, hn2, hn3, hw1, hw2, hnq, ← hNA]) ?_
          refine aL 1 (by simp [go_sem, flat2_enc, hkA, hkB, hin, hx0, hn1, hn2, hn3, hw1, hw2, hnq, ← hNA] <;> rfl) ?_
          refine al_nil ?_
          refine awp_ret ?_
          refine inBlock_ret ?_
          refine then_ret ?_
          refine ends_ret (by simp [go_sem, flat2_enc, hkA, hkB, hin, hx0, hn1, hn2, hn3, hw1, hw2, hnq, ← hNA] <;> rfl) (by simp [go_sem]) ?_
          exact ⟨by simp [go_sem, hM], by simp [go_sem]⟩
        ·rw [h10, if_neg (by decide)] at hM
         refine awp_skip ?_
         refine awp_seq (awp_freezeK (ob := (σ.objs.length + 1)) (cap := cap') (sz := 4) (e := 24) 4 [1, 2, 3] { σ with objs := σ.objs ++ [.row 24 4 cap [enc (mexpr a)]] } (xs := [mexpr a, mexpr b].map enc) (by simp [go_sem] <;> rfl) (by simp [go_sem] <;> rfl) (by intro h; have := congrArg List.length h; simp at this) (by simp [go_sem]) (by simp [go_sem]) (by simp [go_sem]) (by simp [go_sem]) (fun ob h => by first | exact .inl (by simpa [go_sem] using h) | (simp [go_sem] at h; rcases h with h | h; exact .inl h; subst h; exact .inr rfl)) (by simp [go_sem]) ?_)
         refine awp_reg ?_
         refine aL 1 (by simp [go_sem, flat2_enc, hkA, hkB, hin, hx0, hn1, hn2, hn3, hw1, hw2, hnq] <;> rfl) ?_
         refine aF call61 ((c_flat_List [mexpr a, mexpr b]) _ (by exact hgl)) (by simp [go_sem, flat2_enc, hkA, hkB, hin, hx0, hn1, hn2, hn3, hw1, hw2, hnq] <;> rfl) (by simp [go_sem, flat2_enc, hkA, hkB, hin, hx0, hn1, hn2, hn3, hw1, hw2, hnq]) ?_
         refine aL 1 (by simp [go_sem, flat2_enc, hkA, hkB, hin, hx0, hn1, hn2, hn3, hw1, hw2, hnq] <;> rfl) ?_
         refine al_nil ?_
         refine awp_ret ?_
         refine inBlock_ret ?_
         refine then_ret ?_
         refine ends_ret (by simp [go_sem, flat2_enc, hkA, hkB, hin, hx0, hn1, hn2, hn3, hw1, hw2, hnq] <;> rfl) (by simp [go_sem]) ?_
         exact ⟨by simp [go_sem, hM], by simp [go_sem]⟩
       ·first | (cases h9; done) | (simp at h9; done)

theorem c_expr (d : D) : ∀ (hg : GoodM d) (hd : d.size ≤ 100000000), Pur Tryz.prog (GL kr) 76 [.pv (enc d)] (.pv (enc (mexpr d))) := by
  induction d using D.ind with
  | _ kind num text kids ih =>
    generalize hD : D.mk kind num text kids = d at *
    have hk : d.kids = kids := by rw [← hD]; rfl
    clear hD
    subst hk
    intro hg hd
    have ih2 : ∀ x, x ∈ inner d → Pur Tryz.prog (GL kr) 76 [.pv (enc x)] (.pv (enc (mexpr x))) := fun x hx => ih x (inner_mem hx) (hg.part hx) (by have := D.size_kid_lt (inner_mem hx); omega)
    cases hw : isW d sApp with
    | true => exact c_expr_app d hg hd ih2 hw
    | false => exact c_expr_other d hg hd ih2 hw

set_option maxHeartbeats 1000000 in
theorem c_mExpr (d : D) (hd : d.size ≤ 100000000) : Pur Tryz.prog (GL kr) 22 [.pv (enc d)] (.tuple [.pv (enc (mexprR d).1), .pv (.int .i64 (mexprR d).2)]) := by
 refine pur_of fun σ hgl => ?_
 refine acalls_of tyOk Tryz.func22 rfl (by simp [Tryz.f22]) ?_
 refine awp_seq (aR (by simp [go_sem] <;> rfl) ?_)
 refine awp_seq (awp_seq (awp_reg ?_))
 refine aL 1 (by simp [go_sem] <;> rfl) ?_
 refine aF call72 ((c_mCheck d (by omega)) _ (by exact hgl)) (by simp [go_sem] <;> rfl) (by simp [go_sem]) ?_
 refine aL 1 (by simp [go_sem] <;> rfl) ?_
 refine al_nil ?_
 refine awp_seq (aR (by simp [go_sem] <;> rfl) ?_)
 refine awp_cond (by first | rfl | (simp [go_sem] <;> rfl)) (fun h0 => ?_) (fun h0 => ?_)
 ·refine awp_seq ?_
  refine aR (by simp [go_sem] <;> rfl) ?_
  refine awp_ret ?_
  refine then_ret ?_
  have hM : mexprR d = (dnone, mcheck d) := by unfold mexprR; rw [if_pos h0]
  refine ends_ret (by simp [go_sem] <;> rfl) (by simp [go_sem]) ?_
  exact ⟨by simp [go_sem, hM, enc_none], by simp [go_sem]⟩
 ·have hz : mcheck d = 0 := by simpa using h0
  have hg := mcheck_good hz
  refine awp_skip ?_
  refine awp_seq (awp_block ?_)
  refine awp_seq (awp_reg ?_)
  refine aL 1 (by simp [go_sem] <;> rfl) ?_
  refine aF call73 ((c_FreeNames d hg hd) _ (by exact hgl)) (by simp [go_sem] <;> rfl) (by simp [go_sem]) ?_
  refine aL 3 (by simp [go_sem] <;> rfl) ?_
  refine al_nil ?_
  refine awp_cond (by first | rfl | (simp [go_sem] <;> rfl)) (fun h1 => ?_) (fun h1 => ?_)
  ·refine awp_seq ?_
   refine aR (by simp [go_sem] <;> rfl) ?_
   refine awp_ret ?_
   refine inBlock_ret ?_
   refine then_ret ?_
   have hM : mexprR d = (dnone, 12) := by unfold mexprR; rw [if_neg (by rw [h0]; decide)]; rw [if_pos h1]
   refine ends_ret (by simp [go_sem] <;> rfl) (by simp [go_sem]) ?_
   exact ⟨by simp [go_sem, hM, enc_none], by simp [go_sem]⟩
  ·refine awp_seq ?_
   refine awp_reg ?_
   refine aL 1 (by simp [go_sem] <;> rfl) ?_
   refine aF call74 ((c_one d hg (by omega)) _ (by exact hgl)) (by simp [go_sem] <;> rfl) (by simp [go_sem]) ?_
   refine aL 2 (by simp [go_sem] <;> rfl) ?_
   refine al_nil ?_
   refine awp_cond (by first | rfl | (simp [go_sem] <;> rfl)) (fun h2 => ?_) (fun h2 => ?_)
   ·refine awp_seq ?_
    refine aR (by simp [go_sem] <;> rfl) ?_
    refine awp_ret ?_
    refine inBlock_ret ?_
    refine then_ret ?_
    have hM : mexprR d = (dnone, 13) := by unfold mexprR; rw [if_neg (by rw [h0]; decide)]; rw [if_neg (by rw [h1]; decide), if_pos h2]
    refine ends_ret (by simp [go_sem] <;> rfl) (by simp [go_sem]) ?_
    exact ⟨by simp [go_sem, hM, enc_none], by simp [go_sem]⟩
   ·refine awp_skip ?_
    refine awp_seq (awp_reg ?_)
    refine aL 1 (by simp [go_sem] <;> rfl) ?_
    refine aF call76 ((c_expr d hg hd) _ (by exact hgl)) (by simp [go_sem] <;> rfl) (by simp [go_sem]) ?_
    refine aF call75 ((c_flat_Own (mexpr d) (by have := mexpr_size hg; omega)) _ (by exact hgl)) (by simp [go_sem] <;> rfl) (by simp [go_sem]) ?_
    refine aL 2 (by simp [go_sem] <;> rfl) ?_
    refine al_nil ?_
    refine awp_seq (awp_seq (awp_reg ?_))
    refine aL 1 (by simp [go_sem] <;> rfl) ?_
    refine aF call63 ((c_datum_Check (mexpr d) (by have := mexpr_size hg; omega)) _ (by exact hgl)) (by simp [go_sem] <;> rfl) (by simp [go_sem]) ?_
    refine aL 1 (by simp [go_sem] <;> rfl) ?_
    refine al_nil ?_
    refine awp_cond (by first | rfl | (simp [go_sem] <;> rfl)) (fun h3 => ?_) (fun h3 => ?_)
    ·refine awp_seq ?_
     refine aR (by simp [go_sem] <;> rfl) ?_
     refine awp_ret ?_
     refine then_ret ?_
     have hM : mexprR d = (dnone, 3) := by unfold mexprR; rw [if_neg (by rw [h0]; decide)]; rw [if_neg (by rw [h1]; decide), if_neg (by rw [h2]; decide), if_pos h3]
     refine ends_ret (by simp [go_sem] <;> rfl) (by simp [go_sem]) ?_
     exact ⟨by simp [go_sem, hM, enc_none], by simp [go_sem]⟩
    ·refine awp_skip ?_
     refine awp_seq (aR (by simp [go_sem] <;> rfl) ?_)
     refine awp_ret ?_
     have hM : mexprR d = (mexpr d, 0) := by unfold mexprR; rw [if_neg (by rw [h0]; decide)]; rw [if_neg (by rw [h1]; decide), if_neg (by rw [h2]; decide), if_neg (by rw [h3]; decide)]
     refine ends_ret (by simp [go_sem] <;> rfl) (by simp [go_sem]) ?_
     exact ⟨by simp [go_sem, hM, enc_none], by simp [go_sem]⟩

end Go.Proofs.YtnibcmaaehkhlaaGreatDoor

namespace Go.Proofs.YtnibcmaaehkhlaaGreatDoor
open Go Go.Aw
variable {kr : KR}
set_option maxHeartbeats 1000000 in
theorem c_sName (d : D) : Pur Tryz.prog (GL kr) 213 [.pv (enc d)] (.pv (.bool (nmS d))) := by
 refine pur_of fun σ hgl => ?_
 have hgw : lookupG σ.gl 0 = some (.ptr [.map (wdK kr) (wdV kr)]) := by rw [hgl]; exact gl_wd
 have hlw := fun (s : St) (x : ByteArray) => look_wd (W := kr) (ty := ty) (s := s) (t := 131) (x := x) rfl rfl rfl rfl rfl rfl rfl
 refine acalls_of tyOk Tryz.func213 rfl (by simp [Tryz.f213]) ?_
 refine awp_seq (aR (by simp [go_sem, hgw, hlw] <;> rfl) ?_)
 refine awp_seq (awp_reg ?_)
 refine aL 4 (by simp [go_sem, hgw, hlw] <;> rfl) ?_
 refine al_splitT 6 (by first | rfl | (simp [go_sem, hgw, hlw] <;> rfl)) (fun h0 => ?_) (fun h0 => ?_)
 ·refine aLG 5 6 true (by simp [go_sem, hgw, hlw] <;> rfl) ?_
  refine aL 2 (by simp [go_sem, hgw, hlw] <;> rfl) ?_
  refine al_nil ?_
  refine awp_ret ?_
  refine ends_ret (by simp [go_sem, hgw, hlw] <;> rfl) (by simp [go_sem]) ?_
  exact ⟨by simp only [nmS, hgw, hlw, h0, bA, bB, bC, bD, bE, bF, bG, bH, bI, bJ, Bool.false_eq_true, if_true, if_false]; simp [go_sem], by simp [go_sem]⟩
 ·refine aK 5 6 true ?_
  refine aL 2 (by simp [go_sem, hgw, hlw] <;> rfl) ?_
  refine al_nil ?_
  refine awp_ret ?_
  refine ends_ret (by simp [go_sem, hgw, hlw] <;> rfl) (by simp [go_sem]) ?_
  exact ⟨by simp only [nmS, hgw, hlw, h0, bA, bB, bC, bD, bE, bF, bG, bH, bI, bJ, Bool.false_eq_true, if_true, if_false]; simp [go_sem], by simp [go_sem]⟩

set_option maxHeartbeats 1000000 in
theorem c_Differ (l : List D) (hl : l.length ≤ 1000000000) (m : Int) : Pur Tryz.prog (GL kr) 248 [.pv (.slice (l.map enc)), .pv (.int .i64 m)] (.pv (.bool (differB l m))) := by
 refine pur_of fun σ hgl => ?_
 refine acalls_of tyOk Tryz.func248 rfl (by simp [Tryz.f248]) ?_
 refine awp_seq (aR (by simp [go_sem, setS_new] <;> rfl) ?_)
 refine awp_seq (awp_seq (aR (by simp [go_sem, setS_new] <;> rfl) ?_))
 refine awp_cond (by first | rfl | (simp [go_sem, setS_new] <;> rfl)) (fun h0 => ?_) (fun h0 => ?_)
 ·refine awp_seq ?_
  refine aR (by simp [go_sem, setS_new] <;> rfl) ?_
  refine awp_ret ?_
  refine then_ret ?_
  have hM : differB l m = false := by unfold differB; rw [if_pos h0]
  refine ends_ret (by simp [go_sem] <;> rfl) (by simp [go_sem]) ?_
  exact ⟨by simp [go_sem, hM], by simp [go_sem]⟩
 ·refine awp_skip ?_
  refine awp_seq (aR (by simp [go_sem, setS_new] <;> rfl) ?_)
  refine awp_seq (awp_seq (aR (by simp [go_sem, setS_new] <;> rfl) ?_))
  refine awp_block ?_
  refine awp_loop_headK (σ.objs.length + 1) σ.toks.length 0 [4, 5, 13, 14] (fun k : Nat => [(15, .pv (.int .i64 ↑k))]) (fun k => { σ with objs := σ.objs ++ [.map (tK (((l.map D.text).take (k)).foldl addS [])) (tV (((l.map D.text).take (k)).foldl addS []))] }) (fun k => k ≤ l.length ∧ NotYet (badAt l) (List.range l.length) k) (fun k => l.length - k) 0 (⟨Nat.zero_le _, .zero⟩) ⟨by simp [go_sem, setS_new, tK_nil, tV_nil], rfl, by simp, by simp, by simp [go_sem, setS_new, tK_nil, tV_nil], fun ob h => mem_app1 rfl h, by simp [go_sem]⟩ ?_
  rintro k ⟨hk, hn⟩
  refine awp_seq (aR (by simp [go_sem, setS_new] <;> rfl) ?_)
  refine awp_seq (awp_cond (by first | rfl | (simp [go_sem, setS_new] <;> rfl)) (fun h1 => ?_) (fun h1 => ?_))
  ·have hlt : k < l.length := by simp at h1; omega
   have hw : IntKind.i64.wrap (↑k + 1) = (k : Int) + 1 := wrap_succ (by omega)
   obtain ⟨x, hx, hxm⟩ := get_lt hlt
   have hr : (List.range l.length)[k]? = some k := by simp [hlt]
   have hlk := fun (s : St) (ho : s.σ.objs[σ.objs.length]? = some (.map (tK (((l.map D.text).take (k)).foldl addS [])) (tV (((l.map D.text).take (k)).foldl addS [])))) => look_set (ty := ty) (s := s) (t := 95) (S := (((l.map D.text).take (k)).foldl addS [])) (o := σ.objs.length) rfl rfl rfl rfl rfl rfl rfl ho x.text
   have hpk := fun (s : St) (ho : s.σ.objs[σ.objs.length]? = some (.map (tK (((l.map D.text).take (k)).foldl addS [])) (tV (((l.map D.text).take (k)).foldl addS [])))) => put_set (ty := ty) (s := s) (t := 95) (o := σ.objs.length) rfl rfl rfl rfl ho x.text
   have htx : addS (((l.map D.text).take (k)).foldl addS []) x.text = (((l.map D.text).take (k + 1)).foldl addS []) := by rw [take_next (l := l.map D.text) (k := k) (x := x.text) (by simp [hx])]; simp
   have hba := badAt_eq hx
   refine awp_skip ?_
   refine awp_seq (awp_block ?_)
   refine awp_seq (aR (by simp [go_sem, setS_new, hx, hlk, hpk] <;> rfl) ?_)
   refine awp_seq (awp_seq (awp_reg ?_))
   refine aL 1 (by simp [go_sem, setS_new, hx, hlk, hpk] <;> rfl) ?_
   refine aF call213 ((c_sName x) _ (by exact hgl)) (by simp [go_sem, setS_new, hx, hlk, hpk] <;> rfl) (by simp [go_sem, setS_new, hx, hlk, hpk]) ?_
   refine aL 2 (by simp [go_sem, setS_new, hx, hlk, hpk] <;> rfl) ?_
   refine al_splitT 22 (by first | rfl | (simp [go_sem, setS_new, hx, hlk, hpk] <;> rfl)) (fun h2 => ?_) (fun h2 => ?_)
   ·refine aK 4 22 false ?_
    refine aL 1 (by simp [go_sem, setS_new, hx, hlk, hpk] <;> rfl) ?_
    refine al_nil ?_
    refine awp_cond (b := true) (by simp [go_sem, setS_new, hx, hlk, hpk, h0, h1, h2]) (fun h => ?_) (fun h => ?_)
    rotate_left
    ·cases h
    refine awp_seq (aR (by simp [go_sem, setS_new, hx, hlk, hpk] <;> rfl) ?_)
    refine awp_ret ?_
    refine then_ret ?_
    refine inBlock_ret ?_
    refine then_ret ?_
    refine then_ret ?_
    refine inBlock_ret ?_
    refine then_ret ?_
    have hM : differB l m = false := by unfold differB; split; rfl; rw [show ((List.range l.length).any (badAt l)) = true from List.any_eq_true.2 ⟨k, List.mem_range.2 hlt, by rw [hba]; simp only [Bool.not_true, setS_new, hx, hlk, hpk, h0, h1, h2, bA, bB, bC, bD, bE, bF, bG, bH, bI, bJ, Bool.false_eq_true, if_true, if_false]⟩]; rfl
    refine ends_ret (by simp [go_sem] <;> rfl) (by simp [go_sem]) ?_
    exact ⟨by simp [go_sem, hM], by simp [go_sem]⟩
   ·refine aLG 4 22 false (by simp [go_sem, setS_new, hx, hlk, hpk] <;> rfl) ?_
    refine aL 1 (by simp [go_sem, setS_new, hx, hlk, hpk] <;> rfl) ?_
    refine al_nil ?_
    refine awp_cond (by first | rfl | (simp [go_sem, setS_new, hx, hlk, hpk] <;> rfl)) (fun h3 => ?_) (fun h3 => ?_)
    ·refine awp_seq ?_
     refine aR (by simp [go_sem, setS_new, hx, hlk, hpk] <;> rfl) ?_
     refine awp_ret ?_
     refine then_ret ?_
     refine inBlock_ret ?_
     refine then_ret ?_
     refine then_ret ?_
     refine inBlock_ret ?_
     refine then_ret ?_
     have hM : differB l m = false := by unfold differB; split; rfl; rw [show ((List.range l.length).any (badAt l)) = true from List.any_eq_true.2 ⟨k, List.mem_range.2 hlt, by rw [hba]; simp only [Bool.not_true, setS_new, hx, hlk, hpk, h0, h1, h2, h3, bA, bB, bC, bD, bE, bF, bG, bH, bI, bJ, Bool.false_eq_true, if_true, if_false]⟩]; rfl
     refine ends_ret (by simp [go_sem] <;> rfl) (by simp [go_sem]) ?_
     exact ⟨by simp [go_sem, hM], by simp [go_sem]⟩
    ·refine awp_skip ?_
     refine aR (by simp [go_sem, setS_new, hx, hlk, hpk] <;> rfl) ?_
     refine aR (by simp [go_sem, setS_new, hx, hlk, hpk] <;> rfl) ?_
     exact next_intro (k + 1) (σ.objs.length + 1) σ.toks.length 0 (⟨hlt, hn.succ hr (by rw [hba]; simp only [h0, h1, h2, h3, bA, bB, bC, bD, bE, bF, bG, bH, bI, bJ, Bool.false_eq_true, if_true, if_false])⟩) (by omega) ⟨by simp [go_sem, setS_new, hx, hlk, hpk, hw, setS_new, htx], rfl, by simp, by simp, by simp [go_sem, setS_new, hx, hlk, hpk, hw, setS_new, htx], fun ob h => mem_app1 rfl h, by simp [go_sem]⟩
  ·have hke : k = l.length := by simp at h1; omega
   subst hke
   have hany : ((List.range l.length).any (badAt l)) = false := NotYet.any (by simpa using hn)
   refine awp_exit ?_
   refine then_exit ?_
   refine then_exit ?_
   refine inBlock_hit ?_
   refine awp_seq (aR (by simp [go_sem, setS_new] <;> rfl) ?_)
   refine awp_ret ?_
   have hM : differB l m = true := by unfold differB; rw [if_neg (by rw [h0]; decide), hany]; rfl
   refine ends_ret (by simp [go_sem] <;> rfl) (by simp [go_sem]) ?_
   exact ⟨by simp [go_sem, hM], by simp [go_sem]⟩

set_option maxHeartbeats 1000000 in
theorem c_isNames (d : D) (hd : d.size ≤ 1000000000) (m : Int) : Pur Tryz.prog (GL kr) 212 [.pv (enc d), .pv (.int .i64 m)] (.pv (.bool (isNms d m))) := by
 have hkl := D.kids_length_lt d
 refine pur_of fun σ hgl => ?_
 refine acalls_of tyOk Tryz.func212 rfl (by simp [Tryz.f212]) ?_
 refine awp_seq (aR (by simp [go_sem] <;> rfl) ?_)
 refine awp_seq (awp_reg ?_)
 refine aL 4 (by simp [go_sem] <;> rfl) ?_
 refine al_splitT 8 (by first | rfl | (simp [go_sem] <;> rfl)) (fun h0 => ?_) (fun h0 => ?_)
 ·refine aLG 3 8 true (by simp [go_sem] <;> rfl) ?_
  refine al_fnG 8 true true (by simp [go_sem]) rfl (by simp [go_sem]) rfl rfl (by simp [go_sem] <;> rfl) call248 ((c_Differ d.kids (by omega) m) _ (by exact hgl)) (by simp [go_sem] <;> rfl) (by simp [go_sem]) rfl rfl ?_
  refine aL 2 (by simp [go_sem] <;> rfl) ?_
  refine al_nil ?_
  refine awp_ret ?_
  refine ends_ret (by simp [go_sem] <;> rfl) (by simp [go_sem]) ?_
  exact ⟨by simp only [isNms, h0, bA, bB, bC, bD, bE, bF, bG, bH, bI, bJ, Bool.false_eq_true, if_true, if_false]; simp [go_sem], by simp [go_sem]⟩
 ·refine aK 4 8 true ?_
  refine aL 2 (by simp [go_sem] <;> rfl) ?_
  refine al_nil ?_
  refine awp_ret ?_
  refine ends_ret (by simp [go_sem] <;> rfl) (by simp [go_sem]) ?_
  exact ⟨by simp only [isNms, h0, bA, bB, bC, bD, bE, bF, bG, bH, bI, bJ, Bool.false_eq_true, if_true, if_false]; simp [go_sem], by simp [go_sem]⟩

set_option maxHeartbeats 1000000 in
theorem c_isGroup (d : D) (hd : d.size ≤ 1000000000) : Pur Tryz.prog (GL kr) 214 [.pv (enc d)] (.pv (.bool (isGrp d))) := by
 have hkl := D.kids_length_lt d
 refine pur_of fun σ hgl => ?_
 refine acalls_of tyOk Tryz.func214 rfl (by simp [Tryz.f214]) ?_
 refine awp_seq (aR (by simp [go_sem] <;> rfl) ?_)
 refine awp_seq (awp_seq (awp_reg ?_))
 refine aL 4 (by simp [go_sem] <;> rfl) ?_
 refine al_splitT 9 (by first | rfl | (simp [go_sem] <;> rfl)) (fun h0 => ?_) (fun h0 => ?_)
 ·refine aK 4 9 false ?_
  refine aL 2 (by simp [go_sem] <;> rfl) ?_
  refine aK 4 15 false ?_
  refine aL 1 (by simp [go_sem] <;> rfl) ?_
  refine al_nil ?_
  refine awp_cond (b := true) (by simp [go_sem, h0]) (fun h => ?_) (fun h => ?_)
  rotate_left
  ·cases h
  refine awp_seq (aR (by simp [go_sem] <;> rfl) ?_)
  refine awp_ret ?_
  refine then_ret ?_
  have hM : isGrp d = false := by unfold isGrp; simp only [Bool.not_true, h0, bA, bB, bC, bD, bE, bF, bG, bH, bI, bJ, Bool.false_eq_true, if_true, if_false]
  refine ends_ret (by simp [go_sem] <;> rfl) (by simp [go_sem]) ?_
  exact ⟨by simp [go_sem, hM], by simp [go_sem]⟩
 ·refine aLG 4 9 false (by simp [go_sem] <;> rfl) ?_
  refine aL 2 (by simp [go_sem] <;> rfl) ?_
  refine al_splitT 15 (by first | rfl | (simp [go_sem] <;> rfl)) (fun h1 => ?_) (fun h1 => ?_)
  ·refine aK 4 15 false ?_
   refine aL 1 (by simp [go_sem] <;> rfl) ?_
   refine al_nil ?_
   refine awp_cond (b := true) (by simp [go_sem, h0, h1]) (fun h => ?_) (fun h => ?_)
   rotate_left
   ·cases h
   refine awp_seq (aR (by simp [go_sem] <;> rfl) ?_)
   refine awp_ret ?_
   refine then_ret ?_
   have hM : isGrp d = false := by unfold isGrp; simp only [Bool.not_true, h0, h1, bA, bB, bC, bD, bE, bF, bG, bH, bI, bJ, Bool.false_eq_true, if_true, if_false]
   refine ends_ret (by simp [go_sem] <;> rfl) (by simp [go_sem]) ?_
   exact ⟨by simp [go_sem, hM], by simp [go_sem]⟩
  ·refine aLG 4 15 false (by simp [go_sem] <;> rfl) ?_
   refine aL 1 (by simp [go_sem] <;> rfl) ?_
   refine al_nil ?_
   refine awp_cond (by first | rfl | (simp [go_sem] <;> rfl)) (fun h2 => ?_) (fun h2 => ?_)
   ·refine awp_seq ?_
    refine aR (by simp [go_sem] <;> rfl) ?_
    refine awp_ret ?_
    refine then_ret ?_
    have hM : isGrp d = false := by unfold isGrp; simp only [Bool.not_true, h0, h1, h2, bA, bB, bC, bD, bE, bF, bG, bH, bI, bJ, Bool.false_eq_true, if_true, if_false]
    refine ends_ret (by simp [go_sem] <;> rfl) (by simp [go_sem]) ?_
    exact ⟨by simp [go_sem, hM], by simp [go_sem]⟩
   ·refine awp_skip ?_
    refine awp_seq (aR (by simp [go_sem] <;> rfl) ?_)
    refine awp_seq (awp_seq (aR (by simp [go_sem] <;> rfl) ?_))
    refine awp_adopt' 3 24 4 (by simp [go_sem] <;> rfl) ?_
    refine awp_block ?_
    refine awp_loop_headK σ.objs.length (σ.toks.length + 1) 1 [2, 22, 23] (fun k : Nat => [(3, .acc ((d.kids.map (enc ∘ D.head)).take k) σ.toks.length), (24, .pv (.int .i64 ↑k))]) (fun k => { σ with toks := σ.toks ++ [⟨k, 24, 4⟩] }) (fun k => k ≤ d.kids.length ∧ NotYet (grpBad) d.kids k) (fun k => d.kids.length - k) 0 (⟨Nat.zero_le _, .zero⟩) ⟨by simp [go_sem], rfl, by simp, by simp, by simp [go_sem], fun ob h => .inl (by simpa [go_sem] using h), by simp [go_sem]⟩ ?_
    rintro k ⟨hk, hn⟩
    refine awp_seq (aR (by simp [go_sem] <;> rfl) ?_)
    refine awp_seq (awp_cond (by first | rfl | (simp [go_sem] <;> rfl)) (fun h3 => ?_) (fun h3 => ?_))
    ·have hlt : k < d.kids.length := by simp at h3; omega
     have hw : IntKind.i64.wrap (↑k + 1) = (k : Int) + 1 := wrap_succ (by omega)
     obtain ⟨x, hx, hxm⟩ := get_lt hlt
     have ht : (d.kids.map (enc ∘ D.head)).take (k + 1) = (d.kids.map (enc ∘ D.head)).take k ++ [enc x.head] := take_next (by simp [hx])
     have hm : min k d.kids.length = k := by omega
     have hb2 : (k + 1) * 56 ≤ 140737488355328 := by omega
     refine awp_skip ?_
     refine awp_seq (awp_block ?_)
     refine awp_seq (aR (by simp [go_sem, hx, hm, hb2] <;> rfl) ?_)
     refine awp_seq (awp_seq (awp_reg ?_))
     refine aL 4 (by simp [go_sem, hx, hm, hb2] <;> rfl) ?_
     refine al_splitT 31 (by first | rfl | (simp [go_sem, hx, hm, hb2] <;> rfl)) (fun h4 => ?_) (fun h4 => ?_)
     ·refine aK 4 31 false ?_
      refine aL 2 (by simp [go_sem, hx, hm, hb2] <;> rfl) ?_
      refine aK 6 37 false ?_
      refine aL 1 (by simp [go_sem, hx, hm, hb2] <;> rfl) ?_
      refine al_nil ?_
      refine awp_cond (b := true) (by simp [go_sem, hx, hm, hb2, h0, h1, h2, h3, h4]) (fun h => ?_) (fun h => ?_)
      rotate_left
      ·cases h
      refine awp_seq (aR (by simp [go_sem, hx, hm, hb2] <;> rfl) ?_)
      refine awp_ret ?_
      refine then_ret ?_
      refine inBlock_ret ?_
      refine then_ret ?_
      refine then_ret ?_
      refine inBlock_ret ?_
      refine then_ret ?_
      have hany : d.kids.any grpBad = true := any_found hx (by unfold grpBad; first | (rw [hd1]; simp only [Bool.not_true, hx, hm, hb2, h0, h1, h2, h3, h4, bA, bB, bC, bD, bE, bF, bG, bH, bI, bJ, Bool.false_eq_true, if_true, if_false]; done) | simp only [Bool.not_true, hx, hm, hb2, h0, h1, h2, h3, h4, bA, bB, bC, bD, bE, bF, bG, bH, bI, bJ, Bool.false_eq_true, if_true, if_false])
      have hM : isGrp d = false := by unfold isGrp; rw [hany]; split <;> rfl
      refine ends_ret (by simp [go_sem] <;> rfl) (by simp [go_sem]) ?_
      exact ⟨by simp [go_sem, hM], by simp [go_sem]⟩
     ·refine aLG 4 31 false (by simp [go_sem, hx, hm, hb2] <;> rfl) ?_
      refine aL 2 (by simp [go_sem, hx, hm, hb2] <;> rfl) ?_
      refine al_splitT 37 (by first | rfl | (simp [go_sem, hx, hm, hb2] <;> rfl)) (fun h5 => ?_) (fun h5 => ?_)
      ·refine aK 6 37 false ?_
       refine aL 1 (by simp [go_sem, hx, hm, hb2] <;> rfl) ?_
       refine al_nil ?_
       refine awp_cond (b := true) (by simp [go_sem, hx, hm, hb2, h0, h1, h2, h3, h4, h5]) (fun h => ?_) (fun h => ?_)
       rotate_left
       ·cases h
       refine awp_seq (aR (by simp [go_sem, hx, hm, hb2] <;> rfl) ?_)
       refine awp_ret ?_
       refine then_ret ?_
       refine inBlock_ret ?_
       refine then_ret ?_
       refine then_ret ?_
       refine inBlock_ret ?_
       refine then_ret ?_
       have hany : d.kids.any grpBad = true := any_found hx (by unfold grpBad; first | (rw [hd1]; simp only [Bool.not_true, hx, hm, hb2, h0, h1, h2, h3, h4, h5, bA, bB, bC, bD, bE, bF, bG, bH, bI, bJ, Bool.false_eq_true, if_true, if_false]; done) | simp only [Bool.not_true, hx, hm, hb2, h0, h1, h2, h3, h4, h5, bA, bB, bC, bD, bE, bF, bG, bH, bI, bJ, Bool.false_eq_true, if_true, if_false])
       have hM : isGrp d = false := by unfold isGrp; rw [hany]; split <;> rfl
       refine ends_ret (by simp [go_sem] <;> rfl) (by simp [go_sem]) ?_
       exact ⟨by simp [go_sem, hM], by simp [go_sem]⟩
      ·have hl3 : x.kids.length = 3 := by have h := h5; simp at h; omega
       obtain ⟨y1, hy1, hy1m⟩ := get_lt (l := x.kids) (k := 1) (by omega)
       have hd1 : d1 x.kids = y1 := getD_of hy1
       obtain ⟨y0, hy0, hy0m⟩ := get_lt (l := x.kids) (k := 0) (by omega)
       have hh0 : x.head = y0 := head_get hy0
       refine aLG 4 37 false (by simp [go_sem, hx, hm, hb2, hy1, hy0] <;> rfl) ?_
       refine al_fnG 37 false false (by simp [go_sem]) rfl (by simp [go_sem]) rfl rfl (by simp [go_sem, hx, hm, hb2, hy1, hy0] <;> rfl) call212 ((c_isNames y1 (by have := D.size_kid_lt hxm; have := D.size_kid_lt hy1m; omega) 8) _ (by exact hgl)) (by simp [go_sem, hx, hm, hb2, hy1, hy0] <;> rfl) (by simp [go_sem, hx, hm, hb2, hy1, hy0]) rfl rfl ?_
       refine aLG 1 37 false (by simp [go_sem, hx, hm, hb2, hy1, hy0] <;> rfl) ?_
       refine aL 1 (by simp [go_sem, hx, hm, hb2, hy1, hy0] <;> rfl) ?_
       refine al_nil ?_
       refine awp_cond (by first | rfl | (simp [go_sem, hx, hm, hb2, hy1, hy0] <;> rfl)) (fun h6 => ?_) (fun h6 => ?_)
       ·refine awp_seq ?_
        refine aR (by simp [go_sem, hx, hm, hb2, hy1, hy0] <;> rfl) ?_
        refine awp_ret ?_
        refine then_ret ?_
        refine inBlock_ret ?_
        refine then_ret ?_
        refine then_ret ?_
        refine inBlock_ret ?_
        refine then_ret ?_
        have hany : d.kids.any grpBad = true := any_found hx (by unfold grpBad; first | (rw [hd1]; simp only [Bool.not_true, hx, hm, hb2, hy1, hy0, h0, h1, h2, h3, h4, h5, h6, bA, bB, bC, bD, bE, bF, bG, bH, bI, bJ, Bool.false_eq_true, if_true, if_false]; done) | simp only [Bool.not_true, hx, hm, hb2, hy1, hy0, h0, h1, h2, h3, h4, h5, h6, bA, bB, bC, bD, bE, bF, bG, bH, bI, bJ, Bool.false_eq_true, if_true, if_false])
        have hM : isGrp d = false := by unfold isGrp; rw [hany]; split <;> rfl
        refine ends_ret (by simp [go_sem] <;> rfl) (by simp [go_sem]) ?_
        exact ⟨by simp [go_sem, hM], by simp [go_sem]⟩
       ·refine awp_skip ?_
        refine aR (by simp [go_sem, hx, hm, hb2, hy1, hy0] <;> rfl) ?_
        refine aR (by simp [go_sem, hx, hm, hb2, hy1, hy0] <;> rfl) ?_
        exact next_intro (k + 1) σ.objs.length (σ.toks.length + 1) 1 (⟨hlt, hn.succ hx (by unfold grpBad; rw [hd1]; simp only [h0, h1, h2, h3, h4, h5, h6, bA, bB, bC, bD, bE, bF, bG, bH, bI, bJ, Bool.false_eq_true, if_true, if_false])⟩) (by omega) ⟨by simp [go_sem, hx, hm, hb2, hy1, hy0, hw, ht, hh0], rfl, by simp, by simp, by simp [go_sem, hx, hm, hb2, hy1, hy0, hw, ht, hh0], fun ob h => .inl (by simpa [go_sem, hx, hm, hb2, hy1, hy0, hw, ht, hh0] using h), by simp [go_sem]⟩
    ·have hke : k = d.kids.length := by simp at h3; omega
     subst hke
     have hany := hn.any
     refine awp_exit ?_
     refine then_exit ?_
     refine then_exit ?_
     refine inBlock_hit ?_
     refine awp_seq (awp_reg ?_)
     refine aL 1 (by simp [go_sem] <;> rfl) ?_
     refine aF call248 ((c_Differ (d.kids.map D.head) (by rw [List.length_map]; omega) 40) _ (by exact hgl)) (by simp [go_sem] <;> rfl) (by simp [go_sem]) ?_
     refine aL 1 (by simp [go_sem] <;> rfl) ?_
     refine al_nil ?_
     refine awp_ret ?_
     have hM : isGrp d = differB (d.kids.map D.head) 40 := by unfold isGrp; rw [if_neg (by simp only [Bool.not_true, h0, h1, h2, bA, bB, bC, bD, bE, bF, bG, bH, bI, bJ, Bool.false_eq_true, if_true, if_false]; decide), hany, if_neg (by decide)]
     refine ends_ret (by simp [go_sem] <;> rfl) (by simp [go_sem]) ?_
     exact ⟨by simp [go_sem, hM], by simp [go_sem]⟩

set_option maxHeartbeats 4000000 in
theorem c_Kind (d : D) (hd : d.size ≤ 1000000000) : Pur Tryz.prog (GL kr) 138 [.pv (enc d)] (.pv (.int .i64 (synKind d))) := by
 refine pur_of fun σ hgl => ?_
 have hgw : lookupG σ.gl 0 = some (.ptr [.map (wdK kr) (wdV kr)]) := by rw [hgl]; exact gl_wd
 have hlw := fun (s : St) (x : ByteArray) => look_wd (W := kr) (ty := ty) (s := s) (t := 131) (x := x) rfl rfl rfl rfl rfl rfl rfl
 refine acalls_of tyOk Tryz.func138 rfl (by simp [Tryz.f138]) ?_
 refine awp_seq (aR (by simp [go_sem, hgw, hlw] <;> rfl) ?_)
 refine awp_seq (awp_seq (aR (by simp [go_sem, hgw, hlw] <;> rfl) ?_))
 refine awp_block ?_
 refine awp_seq (aR (by simp [go_sem, hgw, hlw] <;> rfl) ?_)
 refine awp_cond (by first | rfl | (simp [go_sem, hgw, hlw] <;> rfl)) (fun h0 => ?_) (fun h0 => ?_)
 ·refine awp_seq ?_
  refine aR (by simp [go_sem, hgw, hlw] <;> rfl) ?_
  refine awp_ret ?_
  refine inBlock_ret ?_
  refine then_ret ?_
  refine ends_ret (by simp [go_sem, hgw, hlw] <;> rfl) (by simp [go_sem]) ?_
  exact ⟨by simp only [synKind, fmOk, hgw, hlw, h0, bA, bB, bC, bD, bE, bF, bG, bH, bI, bJ, Bool.false_eq_true, if_true, if_false]; simp [go_sem], by simp [go_sem]⟩
 ·refine awp_seq ?_
  refine aR (by simp [go_sem, hgw, hlw] <;> rfl) ?_
  refine awp_cond (by first | rfl | (simp [go_sem, hgw, hlw] <;> rfl)) (fun h1 => ?_) (fun h1 => ?_)
  ·refine awp_seq ?_
   refine awp_seq (aR (by simp [go_sem, hgw, hlw] <;> rfl) ?_)
   refine awp_cond (by first | rfl | (simp [go_sem, hgw, hlw] <;> rfl)) (fun h2 => ?_) (fun h2 => ?_)
   ·refine awp_seq ?_
    refine aR (by simp [go_sem, hgw, hlw] <;> rfl) ?_
    refine awp_ret ?_
    refine then_ret ?_
    refine inBlock_ret ?_
    refine then_ret ?_
    refine ends_ret (by simp [go_sem, hgw, hlw] <;> rfl) (by simp [go_sem]) ?_
    exact ⟨by simp only [synKind, fmOk, hgw, hlw, h0, h1, h2, bA, bB, bC, bD, bE, bF, bG, bH, bI, bJ, Bool.false_eq_true, if_true, if_false]; simp [go_sem], by simp [go_sem]⟩
   ·refine awp_skip ?_
    refine awp_seq (aR (by simp [go_sem, hgw, hlw] <;> rfl) ?_)
    refine awp_ret ?_
    refine inBlock_ret ?_
    refine then_ret ?_
    refine ends_ret (by simp [go_sem, hgw, hlw] <;> rfl) (by simp [go_sem]) ?_
    exact ⟨by simp only [synKind, fmOk, hgw, hlw, h0, h1, h2, bA, bB, bC, bD, bE, bF, bG, bH, bI, bJ, Bool.false_eq_true, if_true, if_false]; simp [go_sem], by simp [go_sem]⟩
  ·refine awp_skip ?_
   refine awp_seq (awp_seq (aR (by simp [go_sem, hgw, hlw] <;> rfl) ?_))
   refine awp_cond (by first | rfl | (simp [go_sem, hgw, hlw] <;> rfl)) (fun h3 => ?_) (fun h3 => ?_)
   ·refine awp_seq ?_
    refine aR (by simp [go_sem, hgw, hlw] <;> rfl) ?_
    refine awp_ret ?_
    refine then_ret ?_
    refine ends_ret (by simp [go_sem, hgw, hlw] <;> rfl) (by simp [go_sem]) ?_
    exact ⟨by simp only [synKind, fmOk, hgw, hlw, h0, h1, h3, bA, bB, bC, bD, bE, bF, bG, bH, bI, bJ, Bool.false_eq_true, if_true, if_false]; simp [go_sem], by simp [go_sem]⟩
   ·have hne : d.kids ≠ [] := by intro e; rw [e] at h3; cases h3
    obtain ⟨x0, r0, hks⟩ := kids_cons hne
    have hx0 : d.kids[0]? = some x0 := by rw [hks]; rfl
    have hh := head_cons hks
    obtain ⟨f, hf⟩ : ∃ z, z = headN d := ⟨_, rfl⟩
    have hff := hf.symm
    refine awp_skip ?_
    refine awp_seq (awp_regDP tyOk tySz 6 (by kernel_rfl) (by decide) ?_)
    refine ul_run 6 (by simp [go_sem, hgw, hlw, hx0] <;> rfl) ?_
    refine ul_nil ?_
    refine aL 1 (by simp [go_sem, hgw, hlw, hx0] <;> rfl) ?_
    refine al_nil ?_
    refine awp_seq (aR (by simp [go_sem, hgw, hlw, hx0] <;> rfl) ?_)
    refine awp_seq (awp_seq (aR (by simp [go_sem, hgw, hlw, hx0] <;> rfl) ?_))
    refine awp_cond (by first | rfl | (simp [go_sem, hgw, hlw, hx0] <;> rfl)) (fun h4 => ?_) (fun h4 => ?_)
    ·have hfw : wordN x0.text = f := by rw [hf]; unfold headN; rw [hh, if_pos h4]
     refine awp_regDP tyOk tySz 5 (by kernel_rfl) (by decide) ?_
     refine ul_run 5 (by simp [go_sem, hgw, hlw, hx0, hfw] <;> rfl) ?_
     refine ul_nil ?_
     refine aL 2 (by simp [go_sem, hgw, hlw, hx0, hfw] <;> rfl) ?_
     refine al_nil ?_
     refine awp_seq (aR (by simp [go_sem, hgw, hlw, hx0, hfw] <;> rfl) ?_)
     refine awp_seq (awp_seq (aR (by simp [go_sem, hgw, hlw, hx0, hfw] <;> rfl) ?_))
     refine awp_block ?_
     refine awp_seq (aR (by simp [go_sem, hgw, hlw, hx0, hfw] <;> rfl) ?_)
     refine awp_cond (by first | rfl | (simp [go_sem, hgw, hlw, hx0, hfw] <;> rfl)) (fun h5 => ?_) (fun h5 => ?_)
     ·refine aR (by simp [go_sem, hgw, hlw, hx0, hfw] <;> rfl) ?_
      refine awp_seq (awp_seq (aR (by simp [go_sem, hgw, hlw, hx0, hfw] <;> rfl) ?_))
      refine awp_cond (by first | rfl | (simp [go_sem, hgw, hlw, hx0, hfw] <;> rfl)) (fun h6 => ?_) (fun h6 => ?_)
      ·have hq := h6
       first | rw [Bool.not_eq_true'] at hq | skip
       refine awp_seq (aR (by simp [go_sem, hgw, hlw, hx0, hfw] <;> rfl) ?_)
       refine awp_ret ?_
       refine then_ret ?_
       refine ends_ret (by simp [go_sem, hgw, hlw, hx0, hfw] <;> rfl) (by simp [go_sem]) ?_
       exact ⟨by simp only [synKind, fmOk, hgw, hlw, hx0, hfw, h0, h1, h3, hff, h4, h5, h6, hq, bA, bB, bC, bD, bE, bF, bG, bH, bI, bJ, Bool.false_eq_true, if_true, if_false]; simp [go_sem], by simp [go_sem]⟩
      ·have hq := h6
       first | rw [Bool.not_eq_false'] at hq | skip
       refine awp_skip ?_
       refine awp_seq (aR (by simp [go_sem, hgw, hlw, hx0, hfw] <;> rfl) ?_)
       refine awp_ret ?_
       refine ends_ret (by simp [go_sem, hgw, hlw, hx0, hfw] <;> rfl) (by simp [go_sem]) ?_
       exact ⟨by simp only [synKind, fmOk, hgw, hlw, hx0, hfw, h0, h1, h3, hff, h4, h5, h6, hq, bA, bB, bC, bD, bE, bF, bG, bH, bI, bJ, Bool.false_eq_true, if_true, if_false]; simp [go_sem], by simp [go_sem]⟩
     ·refine awp_seq ?_
      refine aR (by simp [go_sem, hgw, hlw, hx0, hfw] <;> rfl) ?_
      refine awp_cond (by first | rfl | (simp [go_sem, hgw, hlw, hx0, hfw] <;> rfl)) (fun h7 => ?_) (fun h7 => ?_)
      ·refine aR (by simp [go_sem, hgw, hlw, hx0, hfw] <;> rfl) ?_
       refine awp_seq (awp_seq (aR (by simp [go_sem, hgw, hlw, hx0, hfw] <;> rfl) ?_))
       refine awp_cond (by first | rfl | (simp [go_sem, hgw, hlw, hx0, hfw] <;> rfl)) (fun h8 => ?_) (fun h8 => ?_)
       ·have hq := h8
        first | rw [Bool.not_eq_true'] at hq | skip
        refine awp_seq (aR (by simp [go_sem, hgw, hlw, hx0, hfw] <;> rfl) ?_)
        refine awp_ret ?_
        refine then_ret ?_
        refine ends_ret (by simp [go_sem, hgw, hlw, hx0, hfw] <;> rfl) (by simp [go_sem]) ?_
        exact ⟨by simp only [synKind, fmOk, hgw, hlw, hx0, hfw, h0, h1, h3, hff, h4, h5, h7, h8, hq, bA, bB, bC, bD, bE, bF, bG, bH, bI, bJ, Bool.false_eq_true, if_true, if_false]; simp [go_sem], by simp [go_sem]⟩
       ·have hq := h8
        first | rw [Bool.not_eq_false'] at hq | skip
        refine awp_skip ?_
        refine awp_seq (aR (by simp [go_sem, hgw, hlw, hx0, hfw] <;> rfl) ?_)
        refine awp_ret ?_
        refine ends_ret (by simp [go_sem, hgw, hlw, hx0, hfw] <;> rfl) (by simp [go_sem]) ?_
        exact ⟨by simp only [synKind, fmOk, hgw, hlw, hx0, hfw, h0, h1, h3, hff, h4, h5, h7, h8, hq, bA, bB, bC, bD, bE, bF, bG, bH, bI, bJ, Bool.false_eq_true, if_true, if_false]; simp [go_sem], by simp [go_sem]⟩
      ·refine awp_seq ?_
       refine aR (by simp [go_sem, hgw, hlw, hx0, hfw] <;> rfl) ?_
       refine awp_cond (by first | rfl | (simp [go_sem, hgw, hlw, hx0, hfw] <;> rfl)) (fun h9 => ?_) (fun h9 => ?_)
       ·refine aR (by simp [go_sem, hgw, hlw, hx0, hfw] <;> rfl) ?_
        refine awp_seq (awp_seq (aR (by simp [go_sem, hgw, hlw, hx0, hfw] <;> rfl) ?_))
        refine awp_cond (by first | rfl | (simp [go_sem, hgw, hlw, hx0, hfw] <;> rfl)) (fun h10 => ?_) (fun h10 => ?_)
        ·have hq := h10
         first | rw [Bool.not_eq_true'] at hq | skip
         refine awp_seq (aR (by simp [go_sem, hgw, hlw, hx0, hfw] <;> rfl) ?_)
         refine awp_ret ?_
         refine then_ret ?_
         refine ends_ret (by simp [go_sem, hgw, hlw, hx0, hfw] <;> rfl) (by simp [go_sem]) ?_
         exact ⟨by simp only [synKind, fmOk, hgw, hlw, hx0, hfw, h0, h1, h3, hff, h4, h5, h7, h9, h10, hq, bA, bB, bC, bD, bE, bF, bG, bH, bI, bJ, Bool.false_eq_true, if_true, if_false]; simp [go_sem], by simp [go_sem]⟩
        ·have hq := h10
         first | rw [Bool.not_eq_false'] at hq | skip
         refine awp_skip ?_
         refine awp_seq (aR (by simp [go_sem, hgw, hlw, hx0, hfw] <;> rfl) ?_)
         refine awp_ret ?_
         refine ends_ret (by simp [go_sem, hgw, hlw, hx0, hfw] <;> rfl) (by simp [go_sem]) ?_
         exact ⟨by simp only [synKind, fmOk, hgw, hlw, hx0, hfw, h0, h1, h3, hff, h4, h5, h7, h9, h10, hq, bA, bB, bC, bD, bE, bF, bG, bH, bI, bJ, Bool.false_eq_true, if_true, if_false]; simp [go_sem], by simp [go_sem]⟩
       ·refine awp_seq ?_
        refine aR (by simp [go_sem, hgw, hlw, hx0, hfw] <;> rfl) ?_
        refine awp_cond (by first | rfl | (simp [go_sem, hgw, hlw, hx0, hfw] <;> rfl)) (fun h11 => ?_) (fun h11 => ?_)
        ·refine awp_reg ?_
         refine aL 3 (by simp [go_sem, hgw, hlw, hx0, hfw] <;> rfl) ?_
         refine al_splitT 55 (by first | rfl | (simp [go_sem, hgw, hlw, hx0, hfw] <;> rfl)) (fun h12 => ?_) (fun h12 => ?_)
         ·have hlk : d.kids.length = 3 := by have h := h12; simp at h; omega
          obtain ⟨x1, hx1, hx1m⟩ := get_lt (l := d.kids) (k := 1) (by omega)
          have hd1 : d1 d.kids = x1 := getD_of hx1
          have hxs := D.size_kid_lt hx1m
          refine aLG 3 55 true (by simp [go_sem, hgw, hlw, hx0, hfw, hx1] <;> rfl) ?_
          refine al_fnG 55 true true (by simp [go_sem]) rfl (by simp [go_sem]) rfl rfl (by simp [go_sem, hgw, hlw, hx0, hfw, hx1] <;> rfl) call212 ((c_isNames x1 (by omega) 8) _ (by exact hgl)) (by simp [go_sem, hgw, hlw, hx0, hfw, hx1] <;> rfl) (by simp [go_sem, hgw, hlw, hx0, hfw, hx1]) rfl rfl ?_
          refine aL 2 (by simp [go_sem, hgw, hlw, hx0, hfw, hx1] <;> rfl) ?_
          refine al_nil ?_
          refine awp_seq (awp_seq (aR (by simp [go_sem, hgw, hlw, hx0, hfw, hx1] <;> rfl) ?_))
          refine awp_cond (by first | rfl | (simp [go_sem, hgw, hlw, hx0, hfw, hx1] <;> rfl)) (fun h13 => ?_) (fun h13 => ?_)
          ·have hq := h13
           first | rw [Bool.not_eq_true'] at hq | skip
           refine awp_seq (aR (by simp [go_sem, hgw, hlw, hx0, hfw, hx1] <;> rfl) ?_)
           refine awp_ret ?_
           refine then_ret ?_
           refine ends_ret (by simp [go_sem, hgw, hlw, hx0, hfw, hx1] <;> rfl) (by simp [go_sem]) ?_
           exact ⟨by simp only [synKind, fmOk, hgw, hlw, hx0, hfw, hx1, h0, h1, h3, hff, h4, h5, h7, h9, h11, h12, hd1, h13, hq, bA, bB, bC, bD, bE, bF, bG, bH, bI, bJ, Bool.false_eq_true, if_true, if_false]; simp [go_sem], by simp [go_sem]⟩
          ·have hq := h13
           first | rw [Bool.not_eq_false'] at hq | skip
           refine awp_skip ?_
           refine awp_seq (aR (by simp [go_sem, hgw, hlw, hx0, hfw, hx1] <;> rfl) ?_)
           refine awp_ret ?_
           refine ends_ret (by simp [go_sem, hgw, hlw, hx0, hfw, hx1] <;> rfl) (by simp [go_sem]) ?_
           exact ⟨by simp only [synKind, fmOk, hgw, hlw, hx0, hfw, hx1, h0, h1, h3, hff, h4, h5, h7, h9, h11, h12, hd1, h13, hq, bA, bB, bC, bD, bE, bF, bG, bH, bI, bJ, Bool.false_eq_true, if_true, if_false]; simp [go_sem], by simp [go_sem]⟩
         ·refine aK 4 55 true ?_
          refine aL 2 (by simp [go_sem, hgw, hlw, hx0, hfw] <;> rfl) ?_
          refine al_nil ?_
          refine awp_seq (awp_seq (aR (by simp [go_sem, hgw, hlw, hx0, hfw] <;> rfl) ?_))
          refine awp_cond (b := true) (by simp [go_sem, hgw, hlw, hx0, hfw, h0, h1, h3, hff, h4, h5, h7, h9, h11, h12]) (fun h => ?_) (fun h => ?_)
          rotate_left
          ·cases h
          refine awp_seq (aR (by simp [go_sem, hgw, hlw, hx0, hfw] <;> rfl) ?_)
          refine awp_ret ?_
          refine then_ret ?_
          refine ends_ret (by simp [go_sem, hgw, hlw, hx0, hfw] <;> rfl) (by simp [go_sem]) ?_
          exact ⟨by simp only [synKind, fmOk, hgw, hlw, hx0, hfw, h0, h1, h3, hff, h4, h5, h7, h9, h11, h12, bA, bB, bC, bD, bE, bF, bG, bH, bI, bJ, Bool.false_eq_true, if_true, if_false]; simp [go_sem], by simp [go_sem]⟩
        ·refine awp_seq ?_
         refine aR (by simp [go_sem, hgw, hlw, hx0, hfw] <;> rfl) ?_
         refine awp_cond (by first | rfl | (simp [go_sem, hgw, hlw, hx0, hfw] <;> rfl)) (fun h14 => ?_) (fun h14 => ?_)
         ·refine awp_reg ?_
          refine aL 3 (by simp [go_sem, hgw, hlw, hx0, hfw] <;> rfl) ?_
          refine al_splitT 65 (by first | rfl | (simp [go_sem, hgw, hlw, hx0, hfw] <;> rfl)) (fun h15 => ?_) (fun h15 => ?_)
          ·have hlk : d.kids.length = 3 := by have h := h15; simp at h; omega
           obtain ⟨x1, hx1, hx1m⟩ := get_lt (l := d.kids) (k := 1) (by omega)
           have hd1 : d1 d.kids = x1 := getD_of hx1
           have hxs := D.size_kid_lt hx1m
           refine aLG 3 65 true (by simp [go_sem, hgw, hlw, hx0, hfw, hx1] <;> rfl) ?_
           refine al_fnG 65 true true (by simp [go_sem]) rfl (by simp [go_sem]) rfl rfl (by simp [go_sem, hgw, hlw, hx0, hfw, hx1] <;> rfl) call212 ((c_isNames x1 (by omega) 3) _ (by exact hgl)) (by simp [go_sem, hgw, hlw, hx0, hfw, hx1] <;> rfl) (by simp [go_sem, hgw, hlw, hx0, hfw, hx1]) rfl rfl ?_
           refine aL 2 (by simp [go_sem, hgw, hlw, hx0, hfw, hx1] <;> rfl) ?_
           refine al_splitT 71 (by first | rfl | (simp [go_sem, hgw, hlw, hx0, hfw, hx1] <;> rfl)) (fun h16 => ?_) (fun h16 => ?_)
           ·refine aLG 6 71 true (by simp [go_sem, hgw, hlw, hx0, hfw, hx1] <;> rfl) ?_
            refine aL 2 (by simp [go_sem, hgw, hlw, hx0, hfw, hx1] <;> rfl) ?_
            refine al_nil ?_
            refine awp_seq (awp_seq (aR (by simp [go_sem, hgw, hlw, hx0, hfw, hx1] <;> rfl) ?_))
            refine awp_cond (by first | rfl | (simp [go_sem, hgw, hlw, hx0, hfw, hx1] <;> rfl)) (fun h17 => ?_) (fun h17 => ?_)
            ·have hq := h17
             first | rw [Bool.not_eq_true'] at hq | skip
             refine awp_seq (aR (by simp [go_sem, hgw, hlw, hx0, hfw, hx1] <;> rfl) ?_)
             refine awp_ret ?_
             refine then_ret ?_
             refine ends_ret (by simp [go_sem, hgw, hlw, hx0, hfw, hx1] <;> rfl) (by simp [go_sem]) ?_
             exact ⟨by simp only [synKind, fmOk, hgw, hlw, hx0, hfw, hx1, h0, h1, h3, hff, h4, h5, h7, h9, h11, h14, h15, hd1, h16, h17, hq, bA, bB, bC, bD, bE, bF, bG, bH, bI, bJ, Bool.false_eq_true, if_true, if_false]; simp [go_sem], by simp [go_sem]⟩
            ·have hq := h17
             first | rw [Bool.not_eq_false'] at hq | skip
             refine awp_skip ?_
             refine awp_seq (aR (by simp [go_sem, hgw, hlw, hx0, hfw, hx1] <;> rfl) ?_)
             refine awp_ret ?_
             refine ends_ret (by simp [go_sem, hgw, hlw, hx0, hfw, hx1] <;> rfl) (by simp [go_sem]) ?_
             exact ⟨by simp only [synKind, fmOk, hgw, hlw, hx0, hfw, hx1, h0, h1, h3, hff, h4, h5, h7, h9, h11, h14, h15, hd1, h16, h17, hq, bA, bB, bC, bD, bE, bF, bG, bH, bI, bJ, Bool.false_eq_true, if_true, if_false]; simp [go_sem], by simp [go_sem]⟩
           ·refine aK 6 71 true ?_
            refine aL 2 (by simp [go_sem, hgw, hlw, hx0, hfw, hx1] <;> rfl) ?_
            refine al_nil ?_
            refine awp_seq (awp_seq (aR (by simp [go_sem, hgw, hlw, hx0, hfw, hx1] <;> rfl) ?_))
            refine awp_cond (b := true) (by simp [go_sem, hgw, hlw, hx0, hfw, hx1, h0, h1, h3, hff, h4, h5, h7, h9, h11, h14, h15, hd1, h16]) (fun h => ?_) (fun h => ?_)
            rotate_left
            ·cases h
            refine awp_seq (aR (by simp [go_sem, hgw, hlw, hx0, hfw, hx1] <;> rfl) ?_)
            refine awp_ret ?_
            refine then_ret ?_
            refine ends_ret (by simp [go_sem, hgw, hlw, hx0, hfw, hx1] <;> rfl) (by simp [go_sem]) ?_
            exact ⟨by simp only [synKind, fmOk, hgw, hlw, hx0, hfw, hx1, h0, h1, h3, hff, h4, h5, h7, h9, h11, h14, h15, hd1, h16, bA, bB, bC, bD, bE, bF, bG, bH, bI, bJ, Bool.false_eq_true, if_true, if_false]; simp [go_sem], by simp [go_sem]⟩
          ·refine aK 4 65 true ?_
           refine aL 2 (by simp [go_sem, hgw, hlw, hx0, hfw] <;> rfl) ?_
           refine aK 6 71 true ?_
           refine aL 2 (by simp [go_sem, hgw, hlw, hx0, hfw] <;> rfl) ?_
           refine al_nil ?_
           refine awp_seq (awp_seq (aR (by simp [go_sem, hgw, hlw, hx0, hfw] <;> rfl) ?_))
           refine awp_cond (b := true) (by simp [go_sem, hgw, hlw, hx0, hfw, h0, h1, h3, hff, h4, h5, h7, h9, h11, h14, h15]) (fun h => ?_) (fun h => ?_)
           rotate_left
           ·cases h
           refine awp_seq (aR (by simp [go_sem, hgw, hlw, hx0, hfw] <;> rfl) ?_)
           refine awp_ret ?_
           refine then_ret ?_
           refine ends_ret (by simp [go_sem, hgw, hlw, hx0, hfw] <;> rfl) (by simp [go_sem]) ?_
           exact ⟨by simp only [synKind, fmOk, hgw, hlw, hx0, hfw, h0, h1, h3, hff, h4, h5, h7, h9, h11, h14, h15, bA, bB, bC, bD, bE, bF, bG, bH, bI, bJ, Bool.false_eq_true, if_true, if_false]; simp [go_sem], by simp [go_sem]⟩
         ·refine awp_seq ?_
          refine aR (by simp [go_sem, hgw, hlw, hx0, hfw] <;> rfl) ?_
          refine awp_cond (by first | rfl | (simp [go_sem, hgw, hlw, hx0, hfw] <;> rfl)) (fun h18 => ?_) (fun h18 => ?_)
          ·refine awp_reg ?_
           refine aL 3 (by simp [go_sem, hgw, hlw, hx0, hfw] <;> rfl) ?_
           refine al_splitT 83 (by first | rfl | (simp [go_sem, hgw, hlw, hx0, hfw] <;> rfl)) (fun h19 => ?_) (fun h19 => ?_)
           ·have hlk : d.kids.length = 4 := by have h := h19; simp at h; omega
            obtain ⟨x1, hx1, hx1m⟩ := get_lt (l := d.kids) (k := 1) (by omega)
            have hd1 : d1 d.kids = x1 := getD_of hx1
            have hxs := D.size_kid_lt hx1m
            refine aLG 3 83 true (by simp [go_sem, hgw, hlw, hx0, hfw, hx1] <;> rfl) ?_
            refine al_fnG 83 true true (by simp [go_sem]) rfl (by simp [go_sem]) rfl rfl (by simp [go_sem, hgw, hlw, hx0, hfw, hx1] <;> rfl) call213 ((c_sName x1) _ (by exact hgl)) (by simp [go_sem, hgw, hlw, hx0, hfw, hx1] <;> rfl) (by simp [go_sem, hgw, hlw, hx0, hfw, hx1]) rfl rfl ?_
            refine aL 2 (by simp [go_sem, hgw, hlw, hx0, hfw, hx1] <;> rfl) ?_
            refine al_nil ?_
            refine awp_seq (awp_seq (aR (by simp [go_sem, hgw, hlw, hx0, hfw, hx1] <;> rfl) ?_))
            refine awp_cond (by first | rfl | (simp [go_sem, hgw, hlw, hx0, hfw, hx1] <;> rfl)) (fun h20 => ?_) (fun h20 => ?_)
            ·have hq := h20
             first | rw [Bool.not_eq_true'] at hq | skip
             refine awp_seq (aR (by simp [go_sem, hgw, hlw, hx0, hfw, hx1] <;> rfl) ?_)
             refine awp_ret ?_
             refine then_ret ?_
             refine ends_ret (by simp [go_sem, hgw, hlw, hx0, hfw, hx1] <;> rfl) (by simp [go_sem]) ?_
             exact ⟨by simp only [synKind, fmOk, hgw, hlw, hx0, hfw, hx1, h0, h1, h3, hff, h4, h5, h7, h9, h11, h14, h18, h19, hd1, h20, hq, bA, bB, bC, bD, bE, bF, bG, bH, bI, bJ, Bool.false_eq_true, if_true, if_false]; simp [go_sem], by simp [go_sem]⟩
            ·have hq := h20
             first | rw [Bool.not_eq_false'] at hq | skip
             refine awp_skip ?_
             refine awp_seq (aR (by simp [go_sem, hgw, hlw, hx0, hfw, hx1] <;> rfl) ?_)
             refine awp_ret ?_
             refine ends_ret (by simp [go_sem, hgw, hlw, hx0, hfw, hx1] <;> rfl) (by simp [go_sem]) ?_
             exact ⟨by simp only [synKind, fmOk, hgw, hlw, hx0, hfw, hx1, h0, h1, h3, hff, h4, h5, h7, h9, h11, h14, h18, h19, hd1, h20, hq, bA, bB, bC, bD, bE, bF, bG, bH, bI, bJ, Bool.false_eq_true, if_true, if_false]; simp [go_sem], by simp [go_sem]⟩
           ·refine aK 4 83 true ?_
            refine aL 2 (by simp [go_sem, hgw, hlw, hx0, hfw] <;> rfl) ?_
            refine al_nil ?_
            refine awp_seq (awp_seq (aR (by simp [go_sem, hgw, hlw, hx0, hfw] <;> rfl) ?_))
            refine awp_cond (b := true) (by simp [go_sem, hgw, hlw, hx0, hfw, h0, h1, h3, hff, h4, h5, h7, h9, h11, h14, h18, h19]) (fun h => ?_) (fun h => ?_)
            rotate_left
            ·cases h
            refine awp_seq (aR (by simp [go_sem, hgw, hlw, hx0, hfw] <;> rfl) ?_)
            refine awp_ret ?_
            refine then_ret ?_
            refine ends_ret (by simp [go_sem, hgw, hlw, hx0, hfw] <;> rfl) (by simp [go_sem]) ?_
            exact ⟨by simp only [synKind, fmOk, hgw, hlw, hx0, hfw, h0, h1, h3, hff, h4, h5, h7, h9, h11, h14, h18, h19, bA, bB, bC, bD, bE, bF, bG, bH, bI, bJ, Bool.false_eq_true, if_true, if_false]; simp [go_sem], by simp [go_sem]⟩
          ·refine awp_seq ?_
           refine aR (by simp [go_sem, hgw, hlw, hx0, hfw] <;> rfl) ?_
           refine awp_cond (by first | rfl | (simp [go_sem, hgw, hlw, hx0, hfw] <;> rfl)) (fun h21 => ?_) (fun h21 => ?_)
           ·refine aR (by simp [go_sem, hgw, hlw, hx0, hfw] <;> rfl) ?_
            refine awp_seq (awp_seq (aR (by simp [go_sem, hgw, hlw, hx0, hfw] <;> rfl) ?_))
            refine awp_cond (by first | rfl | (simp [go_sem, hgw, hlw, hx0, hfw] <;> rfl)) (fun h22 => ?_) (fun h22 => ?_)
            ·have hq := h22
             first | rw [Bool.not_eq_true'] at hq | skip
             refine awp_seq (aR (by simp [go_sem, hgw, hlw, hx0, hfw] <;> rfl) ?_)
             refine awp_ret ?_
             refine then_ret ?_
             refine ends_ret (by simp [go_sem, hgw, hlw, hx0, hfw] <;> rfl) (by simp [go_sem]) ?_
             exact ⟨by simp only [synKind, fmOk, hgw, hlw, hx0, hfw, h0, h1, h3, hff, h4, h5, h7, h9, h11, h14, h18, h21, h22, hq, bA, bB, bC, bD, bE, bF, bG, bH, bI, bJ, Bool.false_eq_true, if_true, if_false]; simp [go_sem], by simp [go_sem]⟩
            ·have hq := h22
             first | rw [Bool.not_eq_false'] at hq | skip
             refine awp_skip ?_
             refine awp_seq (aR (by simp [go_sem, hgw, hlw, hx0, hfw] <;> rfl) ?_)
             refine awp_ret ?_
             refine ends_ret (by simp [go_sem, hgw, hlw, hx0, hfw] <;> rfl) (by simp [go_sem]) ?_
             exact ⟨by simp only [synKind, fmOk, hgw, hlw, hx0, hfw, h0, h1, h3, hff, h4, h5, h7, h9, h11, h14, h18, h21, h22, hq, bA, bB, bC, bD, bE, bF, bG, bH, bI, bJ, Bool.false_eq_true, if_true, if_false]; simp [go_sem], by simp [go_sem]⟩
           ·refine awp_seq ?_
            refine aR (by simp [go_sem, hgw, hlw, hx0, hfw] <;> rfl) ?_
            refine awp_cond (by first | rfl | (simp [go_sem, hgw, hlw, hx0, hfw] <;> rfl)) (fun h23 => ?_) (fun h23 => ?_)
            ·refine awp_reg ?_
             refine aL 3 (by simp [go_sem, hgw, hlw, hx0, hfw] <;> rfl) ?_
             refine al_splitT 97 (by first | rfl | (simp [go_sem, hgw, hlw, hx0, hfw] <;> rfl)) (fun h24 => ?_) (fun h24 => ?_)
             ·have hlk : d.kids.length = 3 := by have h := h24; simp at h; omega
              obtain ⟨x1, hx1, hx1m⟩ := get_lt (l := d.kids) (k := 1) (by omega)
              have hd1 : d1 d.kids = x1 := getD_of hx1
              have hxs := D.size_kid_lt hx1m
              refine aLG 3 97 true (by simp [go_sem, hgw, hlw, hx0, hfw, hx1] <;> rfl) ?_
              refine al_fnG 97 true true (by simp [go_sem]) rfl (by simp [go_sem]) rfl rfl (by simp [go_sem, hgw, hlw, hx0, hfw, hx1] <;> rfl) call214 ((c_isGroup x1 (by omega)) _ (by exact hgl)) (by simp [go_sem, hgw, hlw, hx0, hfw, hx1] <;> rfl) (by simp [go_sem, hgw, hlw, hx0, hfw, hx1]) rfl rfl ?_
              refine aL 2 (by simp [go_sem, hgw, hlw, hx0, hfw, hx1] <;> rfl) ?_
              refine al_nil ?_
              refine awp_seq (awp_seq (aR (by simp [go_sem, hgw, hlw, hx0, hfw, hx1] <;> rfl) ?_))
              refine awp_cond (by first | rfl | (simp [go_sem, hgw, hlw, hx0, hfw, hx1] <;> rfl)) (fun h25 => ?_) (fun h25 => ?_)
              ·have hq := h25
               first | rw [Bool.not_eq_true'] at hq | skip
               refine awp_seq (aR (by simp [go_sem, hgw, hlw, hx0, hfw, hx1] <;> rfl) ?_)
               refine awp_ret ?_
               refine then_ret ?_
               refine ends_ret (by simp [go_sem, hgw, hlw, hx0, hfw, hx1] <;> rfl) (by simp [go_sem]) ?_
               exact ⟨by simp only [synKind, fmOk, hgw, hlw, hx0, hfw, hx1, h0, h1, h3, hff, h4, h5, h7, h9, h11, h14, h18, h21, h23, h24, hd1, h25, hq, bA, bB, bC, bD, bE, bF, bG, bH, bI, bJ, Bool.false_eq_true, if_true, if_false]; simp [go_sem], by simp [go_sem]⟩
              ·have hq := h25
               first | rw [Bool.not_eq_false'] at hq | skip
               refine awp_skip ?_
               refine awp_seq (aR (by simp [go_sem, hgw, hlw, hx0, hfw, hx1] <;> rfl) ?_)
               refine awp_ret ?_
               refine ends_ret (by simp [go_sem, hgw, hlw, hx0, hfw, hx1] <;> rfl) (by simp [go_sem]) ?_
               exact ⟨by simp only [synKind, fmOk, hgw, hlw, hx0, hfw, hx1, h0, h1, h3, hff, h4, h5, h7, h9, h11, h14, h18, h21, h23, h24, hd1, h25, hq, bA, bB, bC, bD, bE, bF, bG, bH, bI, bJ, Bool.false_eq_true, if_true, if_false]; simp [go_sem], by simp [go_sem]⟩
             ·refine aK 4 97 true ?_
              refine aL 2 (by simp [go_sem, hgw, hlw, hx0, hfw] <;> rfl) ?_
              refine al_nil ?_
              refine awp_seq (awp_seq (aR (by simp [go_sem, hgw, hlw, hx0, hfw] <;> rfl) ?_))
              refine awp_cond (b := true) (by simp [go_sem, hgw, hlw, hx0, hfw, h0, h1, h3, hff, h4, h5, h7, h9, h11, h14, h18, h21, h23, h24]) (fun h => ?_) (fun h => ?_)
              rotate_left
              ·cases h
              refine awp_seq (aR (by simp [go_sem, hgw, hlw, hx0, hfw] <;> rfl) ?_)
              refine awp_ret ?_
              refine then_ret ?_
              refine ends_ret (by simp [go_sem, hgw, hlw, hx0, hfw] <;> rfl) (by simp [go_sem]) ?_
              exact ⟨by simp only [synKind, fmOk, hgw, hlw, hx0, hfw, h0, h1, h3, hff, h4, h5, h7, h9, h11, h14, h18, h21, h23, h24, bA, bB, bC, bD, bE, bF, bG, bH, bI, bJ, Bool.false_eq_true, if_true, if_false]; simp [go_sem], by simp [go_sem]⟩
            ·refine awp_skip ?_
             refine awp_seq (awp_seq (aR (by simp [go_sem, hgw, hlw, hx0, hfw] <;> rfl) ?_))
             refine awp_cond (b := true) (by simp [go_sem, hgw, hlw, hx0, hfw, h0, h1, h3, hff, h4, h5, h7, h9, h11, h14, h18, h21, h23]) (fun h => ?_) (fun h => ?_)
             rotate_left
             ·cases h
             refine awp_seq (aR (by simp [go_sem, hgw, hlw, hx0, hfw] <;> rfl) ?_)
             refine awp_ret ?_
             refine then_ret ?_
             refine ends_ret (by simp [go_sem, hgw, hlw, hx0, hfw] <;> rfl) (by simp [go_sem]) ?_
             exact ⟨by simp only [synKind, fmOk, hgw, hlw, hx0, hfw, h0, h1, h3, hff, h4, h5, h7, h9, h11, h14, h18, h21, h23, bA, bB, bC, bD, bE, bF, bG, bH, bI, bJ, Bool.false_eq_true, if_true, if_false]; simp [go_sem], by simp [go_sem]⟩
    ·have hf0 : f = 0 := by rw [hf]; unfold headN; rw [hh, if_neg (by rw [h4]; decide)]
     subst hf0
     refine awp_skip ?_
     refine awp_seq (aR (by simp [go_sem, hgw, hlw, hx0] <;> rfl) ?_)
     refine awp_seq (awp_seq (aR (by simp [go_sem, hgw, hlw, hx0] <;> rfl) ?_))
     refine awp_block ?_
     refine awp_seq (aR (by simp [go_sem, hgw, hlw, hx0] <;> rfl) ?_)
     refine awp_cond (by first | rfl | (simp [go_sem, hgw, hlw, hx0] <;> rfl)) (fun h26 => ?_) (fun h26 => ?_)
     ·refine aR (by simp [go_sem, hgw, hlw, hx0] <;> rfl) ?_
      refine awp_seq (awp_seq (aR (by simp [go_sem, hgw, hlw, hx0] <;> rfl) ?_))
      refine awp_cond (by first | rfl | (simp [go_sem, hgw, hlw, hx0] <;> rfl)) (fun h27 => ?_) (fun h27 => ?_)
      ·have hq := h27
       first | rw [Bool.not_eq_true'] at hq | skip
       refine awp_seq (aR (by simp [go_sem, hgw, hlw, hx0] <;> rfl) ?_)
       refine awp_ret ?_
       refine then_ret ?_
       refine ends_ret (by simp [go_sem, hgw, hlw, hx0] <;> rfl) (by simp [go_sem]) ?_
       exact ⟨by simp only [synKind, fmOk, hgw, hlw, hx0, h0, h1, h3, hff, h4, h26, h27, hq, bA, bB, bC, bD, bE, bF, bG, bH, bI, bJ, Bool.false_eq_true, if_true, if_false]; simp [go_sem], by simp [go_sem]⟩
      ·have hq := h27
       first | rw [Bool.not_eq_false'] at hq | skip
       refine awp_skip ?_
       refine awp_seq (aR (by simp [go_sem, hgw, hlw, hx0] <;> rfl) ?_)
       refine awp_ret ?_
       refine ends_ret (by simp [go_sem, hgw, hlw, hx0] <;> rfl) (by simp [go_sem]) ?_
       exact ⟨by simp only [synKind, fmOk, hgw, hlw, hx0, h0, h1, h3, hff, h4, h26, h27, hq, bA, bB, bC, bD, bE, bF, bG, bH, bI, bJ, Bool.false_eq_true, if_true, if_false]; simp [go_sem], by simp [go_sem]⟩
     ·first | (cases h26; done) | (simp at h26; done)

end Go.Proofs.YtnibcmaaehkhlaaGreatDoor

namespace Go.Proofs.YtnibcmaaehkhlaaGreatDoor
open Go Go.Aw
variable {kr : KR}
def renG : Go.Shelf.Ren := ⟨fun x => match x with | 4 => 216 | n => n, fun x => match x with | 0 => 0 | 3 => 3 | 4 => 4 | 9 => 9 | 20 => 20 | 22 => 32 | 25 => 3 | n => n, fun x => match x with | n => n⟩
theorem laysG : Go.Proofs.Lays8.n4 Tryz.prog renG :=
  {
    mixed := by kernel_rfl,
    f4 := ⟨Tryz.f216.name, by kernel_rfl, Eq.trans Tryz.func216 (congrArg some (by kernel_rfl))⟩,
    t0 := Tryz.underlying0,
    a0 := Tryz.isAgg0,
    z0 := Tryz.sizeOf0,
    v0 := Tryz.zeroValue0,
    t3 := Tryz.underlying3,
    a3 := Tryz.isAgg3,
    z3 := Tryz.sizeOf3,
    v3 := Tryz.zeroValue3,
    t4 := Tryz.underlying4,
    a4 := Tryz.isAgg4,
    z4 := Tryz.sizeOf4,
    v4 := Tryz.zeroValue4,
    t9 := Tryz.underlying9,
    a9 := Tryz.isAgg9,
    z9 := Tryz.sizeOf9,
    v9 := Tryz.zeroValue9,
    t20 := Tryz.underlying20,
    a20 := Tryz.isAgg20,
    z20 := Tryz.sizeOf20,
    v20 := Tryz.zeroValue20,
    t22 := Tryz.underlying32,
    a22 := Tryz.isAgg32,
    z22 := Tryz.sizeOf32,
    v22 := Tryz.zeroValue32 }
theorem c_Grow (n : Nat) (hn : n ≤ 1000000000) (σ : Store) : ACalls Tryz.prog 216 [.pv .nils, .pv (.int .i64 n)] σ fun r σ' => r = .acc [] σ.toks.length ∧ σ' = { σ with toks := σ.toks ++ [⟨0, 3, 1⟩] } := by
  refine acalls_grow (e := 3) (fun w => Go.Proofs.Any8.slices_Grow_room laysG none 0 0 0 w (by decide) (by decide) (by decide) (by decide)) (fun n w h0 h1 => ?_) n hn σ
  obtain ⟨i, z, k1, k2, k3, k4, k5, k6, k7⟩ := (tyOk _ _ ty3).info
  have hz1 : z.cells.size = 1 := k6
  refine (Go.Proofs.Any8.slices_Grow_grow laysG i z k1 k4 (by rw [k2]; decide) none 0 0 n [] w (by omega) (by omega) (by rw [k3]; show (0 + n) * 8 ≤ _; omega) (by omega) (by simp) (fun _ => rfl) (fun a h => by cases h)).mono ?_
  rintro r w' ⟨rfl, rfl⟩
  have hge := grownCap_ge w (0 + n) 0 3
  have hcm : grownCap w (0 + n) 0 3 ≤ maxLen := grownCap_le_maxLen w _ 0 3 (by simp only [maxLen]; omega)
  refine ⟨_, _, rfl, rfl, ?_, hcm⟩
  simp only [Array.size_append, size_zeroCells, hz1, List.size_toArray, List.length_nil]
  show 0 + (0 + n - 0) * 1 + (grownCap w (0 + n) 0 3 - (0 + n)) * 1 = grownCap w (0 + n) 0 3
  omega

def ipv (p : List Int) : List PV := p.map (.int .i64)
theorem ipv_len (p : List Int) : (ipv p).length = p.length := by simp [ipv]
@[go_sem] theorem allSz_ipv (p : List Int) : allSz 1 (ipv p) = true := by
  unfold allSz ipv
  rw [List.all_map]
  exact List.all_eq_true.2 fun _ _ => rfl
theorem ipv_nil : ipv [] = [] := rfl
theorem ipv_app (p q : List Int) : ipv (p ++ q) = ipv p ++ ipv q := by simp [ipv]

set_option maxHeartbeats 1000000 in
theorem c_Texts (l : List D) (hl : l.length ≤ 1000000000) : Pur Tryz.prog (GL kr) 165 [.pv (.slice (l.map enc))] (.pv (.slice ((l.map D.text).map .str))) := by
 refine pur_of fun σ hgl => ?_
 refine acalls_of tyOk Tryz.func165 rfl (by simp [Tryz.f165]) ?_
 refine awp_seq (aR (by simp [go_sem] <;> rfl) ?_)
 refine awp_seq (aR (by simp [go_sem] <;> rfl) ?_)
 refine awp_seq (awp_seq (aR (by simp [go_sem] <;> rfl) ?_))
 refine awp_adopt' 3 9 1 (by simp [go_sem] <;> rfl) ?_
 refine awp_block ?_
 refine awp_loop_headK σ.objs.length (σ.toks.length + 1) 0 [2, 6, 7] (fun k : Nat => [(3, .acc ((l.map (PV.str ∘ D.text)).take k) σ.toks.length), (8, .pv (.int .i64 ↑k))]) (fun k => { σ with toks := σ.toks ++ [⟨k, 9, 1⟩] }) (fun k => k ≤ l.length) (fun k => l.length - k) 0 (Nat.zero_le _) ⟨by simp [go_sem], rfl, by simp, by simp, by simp [go_sem], fun ob h => .inl (by simpa [go_sem] using h), by simp [go_sem]⟩ ?_
 intro k hk
 refine awp_seq (aR (by simp [go_sem] <;> rfl) ?_)
 refine awp_seq (awp_cond (by first | rfl | (simp [go_sem] <;> rfl)) (fun h0 => ?_) (fun h0 => ?_))
 ·have hlt : k < l.length := by simp at h0; omega
  have hw : IntKind.i64.wrap (↑k + 1) = (k : Int) + 1 := wrap_succ (by omega)
  obtain ⟨x, hx, hxm⟩ := get_lt hlt
  have ht : (l.map (PV.str ∘ D.text)).take (k + 1) = (l.map (PV.str ∘ D.text)).take k ++ [.str x.text] := take_next (by simp [hx])
  have hm : min k l.length = k := by omega
  have hb2 : (k + 1) * 16 ≤ 140737488355328 := by omega
  refine awp_skip ?_
  refine awp_seq (awp_block ?_)
  refine awp_seq (aR (by simp [go_sem, hx, hm, hb2] <;> rfl) ?_)
  refine aR (by simp [go_sem, hx, hm, hb2] <;> rfl) ?_
  refine aR (by simp [go_sem, hx, hm, hb2] <;> rfl) ?_
  exact next_intro (k + 1) σ.objs.length (σ.toks.length + 1) 0 (hlt) (by omega) ⟨by simp [go_sem, hx, hm, hb2, hw, ht], rfl, by simp, by simp, by simp [go_sem, hx, hm, hb2, hw, ht], fun ob h => .inl (by simpa [go_sem, hx, hm, hb2, hw, ht] using h), by simp [go_sem]⟩
 ·have hke : k = l.length := by simp at h0; omega
  subst hke
  refine awp_exit ?_
  refine then_exit ?_
  refine then_exit ?_
  refine inBlock_hit ?_
  refine awp_seq (aR (by simp [go_sem] <;> rfl) ?_)
  refine awp_ret ?_
  refine ends_ret (by simp [go_sem] <;> rfl) (by simp [go_sem]) ?_
  exact ⟨by simp [go_sem], by simp [go_sem]⟩

set_option maxHeartbeats 1000000 in
theorem c_Own (d : D) (hd : d.size ≤ 1000000000) : Pur Tryz.prog (GL kr) 104 [.pv (enc d)] (.pv (.slice ((ownS d).map .str))) := by
 have hkl := D.kids_length_lt d
 have h5l := syn_len d
 refine pur_of fun σ hgl => ?_
 refine acalls_of tyOk Tryz.func104 rfl (by simp [Tryz.f104]) ?_
 refine awp_seq (aR (by simp [go_sem] <;> rfl) ?_)
 refine awp_seq (awp_seq (awp_reg ?_))
 refine aL 1 (by simp [go_sem] <;> rfl) ?_
 refine aF call138 ((c_Kind d hd) _ (by exact hgl)) (by simp [go_sem] <;> rfl) (by simp [go_sem]) ?_
 refine al_nil ?_
 refine awp_block ?_
 refine awp_seq (awp_seq (aR (by simp [go_sem] <;> rfl) ?_))
 refine awp_cond (by first | rfl | (simp [go_sem] <;> rfl)) (fun h0 => ?_) (fun h0 => ?_)
 ·have hlen := h5l.1 (by first | exact .inl (by simpa using h0) | exact .inr (.inl (by simpa using h0)))
  obtain ⟨x1, hx1, hx1m⟩ := get_lt (l := d.kids) (k := 1) (by omega)
  have hd1 : d1 d.kids = x1 := getD_of hx1
  have hxs := D.size_kid_lt hx1m
  have hxl := D.kids_length_lt x1
  refine awp_skip ?_
  refine awp_cond (b := true) (by simp [go_sem, hx1, h0, hd1]) (fun h => ?_) (fun h => ?_)
  rotate_left
  ·cases h
  refine awp_seq (awp_reg ?_)
  refine aL 5 (by simp [go_sem, hx1] <;> rfl) ?_
  refine aF call165 ((c_Texts x1.kids (by omega)) _ (by exact hgl)) (by simp [go_sem, hx1] <;> rfl) (by simp [go_sem, hx1]) ?_
  refine aL 1 (by simp [go_sem, hx1] <;> rfl) ?_
  refine al_nil ?_
  refine awp_ret ?_
  refine inBlock_ret ?_
  refine then_ret ?_
  refine ends_ret (by simp [go_sem, hx1] <;> rfl) (by simp [go_sem]) ?_
  exact ⟨by simp only [ownS, hx1, h0, hd1, bA, bB, bC, bD, bE, bF, bG, bH, bI, bJ, Bool.false_eq_true, if_true, if_false]; simp [go_sem], by simp [go_sem]⟩
 ·refine aR (by simp [go_sem] <;> rfl) ?_
  refine awp_cond (by first | rfl | (simp [go_sem] <;> rfl)) (fun h1 => ?_) (fun h1 => ?_)
  ·have hlen := h5l.1 (by first | exact .inl (by simpa using h1) | exact .inr (.inl (by simpa using h1)))
   obtain ⟨x1, hx1, hx1m⟩ := get_lt (l := d.kids) (k := 1) (by omega)
   have hd1 : d1 d.kids = x1 := getD_of hx1
   have hxs := D.size_kid_lt hx1m
   have hxl := D.kids_length_lt x1
   refine awp_seq (awp_reg ?_)
   refine aL 5 (by simp [go_sem, hx1] <;> rfl) ?_
   refine aF call165 ((c_Texts x1.kids (by omega)) _ (by exact hgl)) (by simp [go_sem, hx1] <;> rfl) (by simp [go_sem, hx1]) ?_
   refine aL 1 (by simp [go_sem, hx1] <;> rfl) ?_
   refine al_nil ?_
   refine awp_ret ?_
   refine inBlock_ret ?_
   refine then_ret ?_
   refine ends_ret (by simp [go_sem, hx1] <;> rfl) (by simp [go_sem]) ?_
   exact ⟨by simp only [ownS, hx1, h0, h1, hd1, bA, bB, bC, bD, bE, bF, bG, bH, bI, bJ, Bool.false_eq_true, if_true, if_false]; simp [go_sem], by simp [go_sem]⟩
  ·refine awp_seq ?_
   refine aR (by simp [go_sem] <;> rfl) ?_
   refine awp_cond (by first | rfl | (simp [go_sem] <;> rfl)) (fun h2 => ?_) (fun h2 => ?_)
   ·have hlen := h5l.2.1 (by simpa using h2)
    obtain ⟨x1, hx1, hx1m⟩ := get_lt (l := d.kids) (k := 1) (by omega)
    have hd1 : d1 d.kids = x1 := getD_of hx1
    have hxs := D.size_kid_lt hx1m
    have hxl := D.kids_length_lt x1
    have hT : (List.take 2 (List.map enc d.kids)).tail = [enc x1] := take_two hx1
    have h2i : (2 : Int) ≤ d.kids.length := by omega
    refine awp_seq (awp_reg ?_)
    refine aL 3 (by simp [go_sem, hx1, hT, h2i] <;> rfl) ?_
    refine aF call165 ((c_Texts [x1] (by simp)) _ (by exact hgl)) (by simp [go_sem, hx1, hT, h2i] <;> rfl) (by simp [go_sem, hx1, hT, h2i]) ?_
    refine aL 1 (by simp [go_sem, hx1, hT, h2i] <;> rfl) ?_
    refine al_nil ?_
    refine awp_ret ?_
    refine inBlock_ret ?_
    refine then_ret ?_
    refine ends_ret (by simp [go_sem, hx1, hT, h2i] <;> rfl) (by simp [go_sem]) ?_
    exact ⟨by simp only [ownS, hx1, hT, h2i, h0, h1, h2, hd1, bA, bB, bC, bD, bE, bF, bG, bH, bI, bJ, Bool.false_eq_true, if_true, if_false]; simp [go_sem], by simp [go_sem]⟩
   ·refine awp_seq ?_
    refine aR (by simp [go_sem] <;> rfl) ?_
    refine awp_cond (by first | rfl | (simp [go_sem] <;> rfl)) (fun h3 => ?_) (fun h3 => ?_)
    ·have hlen := h5l.1 (.inr (.inr (by simpa using h3)))
     obtain ⟨x1, hx1, hx1m⟩ := get_lt (l := d.kids) (k := 1) (by omega)
     have hd1 : d1 d.kids = x1 := getD_of hx1
     have hxs := D.size_kid_lt hx1m
     have hxl := D.kids_length_lt x1
     have hk3 := h5l.2.2 (by simpa using h3)
     rw [hd1] at hk3
     refine awp_seq (aR (by simp [go_sem, hx1] <;> rfl) ?_)
     refine awp_seq (awp_seq (aR (by simp [go_sem, hx1] <;> rfl) ?_))
     refine awp_adopt' 3 24 4 (by simp [go_sem] <;> rfl) ?_
     refine awp_block ?_
     refine awp_loop_headK σ.objs.length (σ.toks.length + 1) 1 [2, 29, 30] (fun k : Nat => [(3, .acc ((x1.kids.map (enc ∘ D.head)).take k) σ.toks.length), (31, .pv (.int .i64 ↑k))]) (fun k => { σ with toks := σ.toks ++ [⟨k, 24, 4⟩] }) (fun k => k ≤ x1.kids.length) (fun k => x1.kids.length - k) 0 (Nat.zero_le _) ⟨by simp [go_sem, hx1], rfl, by simp, by simp, by simp [go_sem, hx1], fun ob h => .inl (by simpa [go_sem, hx1] using h), by simp [go_sem]⟩ ?_
     intro k hk
     refine awp_seq (aR (by simp [go_sem, hx1] <;> rfl) ?_)
     refine awp_seq (awp_cond (by first | rfl | (simp [go_sem, hx1] <;> rfl)) (fun h4 => ?_) (fun h4 => ?_))
     ·have hlt : k < x1.kids.length := by simp at h4; omega
      have hw : IntKind.i64.wrap (↑k + 1) = (k : Int) + 1 := wrap_succ (by omega)
      obtain ⟨x, hx, hxm⟩ := get_lt hlt
      obtain ⟨y0, hy0, hy0m⟩ := get_lt (l := x.kids) (k := 0) (by rw [hk3 x hxm]; decide)
      have hh0 : x.head = y0 := head_get hy0
      have ht : (x1.kids.map (enc ∘ D.head)).take (k + 1) = (x1.kids.map (enc ∘ D.head)).take k ++ [enc x.head] := take_next (by simp [hx])
      have hm : min k x1.kids.length = k := by omega
      have hb2 : (k + 1) * 56 ≤ 140737488355328 := by omega
      refine awp_skip ?_
      refine awp_seq (awp_block ?_)
      refine awp_seq (aR (by simp [go_sem, hx1, hx, hy0, hm, hb2] <;> rfl) ?_)
      refine aR (by simp [go_sem, hx1, hx, hy0, hm, hb2] <;> rfl) ?_
      refine aR (by simp [go_sem, hx1, hx, hy0, hm, hb2] <;> rfl) ?_
      exact next_intro (k + 1) σ.objs.length (σ.toks.length + 1) 1 (hlt) (by omega) ⟨by simp [go_sem, hx1, hx, hy0, hm, hb2, hw, ht, hh0], rfl, by simp, by simp, by simp [go_sem, hx1, hx, hy0, hm, hb2, hw, ht, hh0], fun ob h => .inl (by simpa [go_sem, hx1, hx, hy0, hm, hb2, hw, ht, hh0] using h), by simp [go_sem]⟩
     ·have hke : k = x1.kids.length := by simp at h4; omega
      subst hke
      refine awp_exit ?_
      refine then_exit ?_
      refine then_exit ?_
      refine inBlock_hit ?_
      refine awp_seq (awp_reg ?_)
      refine aL 1 (by simp [go_sem, hx1] <;> rfl) ?_
      refine aF call165 ((c_Texts (x1.kids.map D.head) (by rw [List.length_map]; omega)) _ (by exact hgl)) (by simp [go_sem, hx1] <;> rfl) (by simp [go_sem, hx1]) ?_
      refine aL 1 (by simp [go_sem, hx1] <;> rfl) ?_
      refine al_nil ?_
      refine awp_ret ?_
      refine inBlock_ret ?_
      refine then_ret ?_
      refine ends_ret (by simp [go_sem, hx1] <;> rfl) (by simp [go_sem]) ?_
      exact ⟨by simp only [ownS, hx1, h0, h1, h2, h3, hd1, bA, bB, bC, bD, bE, bF, bG, bH, bI, bJ, Bool.false_eq_true, if_true, if_false]; simp [go_sem], by simp [go_sem]⟩
    ·refine awp_skip ?_
     refine awp_seq (aR (by simp [go_sem] <;> rfl) ?_)
     refine awp_ret ?_
     refine ends_ret (by simp [go_sem] <;> rfl) (by simp [go_sem]) ?_
     exact ⟨by simp only [ownS, h0, h1, h2, h3, bA, bB, bC, bD, bE, bF, bG, bH, bI, bJ, Bool.false_eq_true, if_true, if_false]; simp [go_sem], by simp [go_sem]⟩

set_option maxHeartbeats 1000000 in
theorem c_Concat (ls : List (List Int)) (hl : ls.length ≤ 1000000) (hs : (ls.map List.length).sum ≤ 1000000000) : Pur Tryz.prog (GL kr) 140 [.pv (.slice (ls.map fun p => .slice (ipv p)))] (.pv (.slice (ipv ls.flatten))) := by
 have hs0 : ((ls.map List.length).take 0).sum = 0 := rfl
 have hsa : ((ls.map List.length).take ls.length).sum = (ls.map List.length).sum := by rw [List.take_of_length_le (by simp)]
 have hf0 : ipv (ls.take 0).flatten = [] := rfl
 have hfa : ipv (ls.take ls.length).flatten = ipv ls.flatten := by rw [List.take_length]
 have hsk := fun k => sum_take_le ls k
 have hflat := fun k => flatten_len ls k
 refine pur_of fun σ hgl => ?_
 refine acalls_of tyOk Tryz.func140 rfl (by simp [Tryz.f140]) ?_
 refine awp_seq (aR (by simp [go_sem] <;> rfl) ?_)
 refine awp_seq (aR (by simp [go_sem] <;> rfl) ?_)
 refine awp_seq (awp_seq (aR (by simp [go_sem] <;> rfl) ?_))
 refine awp_block ?_
 refine awp_loop_headK σ.objs.length σ.toks.length 0 [0, 2, 9, 10] (fun k : Nat => [(3, .pv (.int .i64 (((((ls.map List.length).take k).sum : Nat) : Nat) : Int))), (11, .pv (.int .i64 ↑k))]) (fun k => σ) (fun k => k ≤ ls.length) (fun k => ls.length - k) 0 (Nat.zero_le _) ⟨by simp [go_sem, hs0], rfl, by simp, by simp, by simp [go_sem, hs0], fun ob h => .inl (by simpa [go_sem, hs0] using h), by simp [go_sem]⟩ ?_
 intro k hk
 refine awp_seq (aR (by simp [go_sem] <;> rfl) ?_)
 refine awp_seq (awp_cond (by first | rfl | (simp [go_sem] <;> rfl)) (fun h0 => ?_) (fun h0 => ?_))
 ·have hlt : k < ls.length := by simp at h0; omega
  have hw : IntKind.i64.wrap (↑k + 1) = (k : Int) + 1 := wrap_succ (by omega)
  obtain ⟨x, hx, hxm⟩ := get_lt hlt
  have hnx := sum_take_next hx
  have hkk := hsk (k + 1)
  have hadd : IntKind.i64.wrap ((((((ls.map List.length).take k).sum : Nat) : Nat) : Int) + (x.length : Int)) = ((((ls.map List.length).take (k + 1)).sum : Nat) : Int) := by rw [wrap_id (by omega) (by omega)]; omega
  refine awp_skip ?_
  refine awp_seq (awp_block ?_)
  refine awp_seq (aR (by simp [go_sem, hx, ipv_len, hadd] <;> rfl) ?_)
  refine awp_seq (aR (by simp [go_sem, hx, ipv_len, hadd] <;> rfl) ?_)
  refine awp_seq (aR (by simp [go_sem, hx, ipv_len, hadd] <;> rfl) ?_)
  refine awp_cond (by first | rfl | (simp [go_sem, hx, ipv_len, hadd] <;> rfl)) (fun h1 => ?_) (fun h1 => ?_)
  ·exfalso; have h := h1; simp at h; omega
  ·refine awp_skip ?_
   refine aR (by simp [go_sem, hx, ipv_len, hadd] <;> rfl) ?_
   exact next_intro (k + 1) σ.objs.length σ.toks.length 0 (hlt) (by omega) ⟨by simp [go_sem, hx, ipv_len, hadd, hw], rfl, by simp, by simp, by simp [go_sem, hx, ipv_len, hadd, hw], fun ob h => .inl (by simpa [go_sem, hx, ipv_len, hadd, hw] using h), by simp [go_sem]⟩
 ·have hke : k = ls.length := by simp at h0; omega
  subst hke
  refine awp_exit ?_
  refine then_exit ?_
  refine then_exit ?_
  refine inBlock_hit ?_
  refine awp_seq (awp_reg ?_)
  refine aL 1 (by simp [go_sem, hsa] <;> rfl) ?_
  refine al_callW rfl rfl rfl (by simp [go_sem, hsa] <;> rfl) call216 (c_Grow ((ls.map List.length).sum) (by omega) σ) (by simp [go_sem, hsa] <;> rfl) (by simp [go_sem, hsa]) rfl rfl ?_
  rintro r σ' ⟨rfl, rfl⟩
  refine aL 1 (by simp [go_sem, hsa] <;> rfl) ?_
  refine al_nil ?_
  refine awp_seq (awp_seq (aR (by simp [go_sem, hsa] <;> rfl) ?_))
  refine awp_block ?_
  refine awp_loop_headK σ.objs.length (σ.toks.length + 1) 0 [2, 25, 26] (fun k : Nat => [(6, .acc (ipv (ls.take k).flatten) σ.toks.length), (27, .pv (.int .i64 ↑k))]) (fun k => { σ with toks := σ.toks ++ [⟨(ipv (ls.take k).flatten).length, 3, 1⟩] }) (fun k => k ≤ ls.length) (fun k => ls.length - k) 0 (Nat.zero_le _) ⟨by simp [go_sem, hsa, hf0, ipv_len, ipv_nil], rfl, by simp, by simp, by simp [go_sem, hsa, hf0, ipv_len, ipv_nil], fun ob h => .inl (by simpa [go_sem, hsa, hf0, ipv_len, ipv_nil] using h), by simp [go_sem]⟩ ?_
  intro k hk
  refine awp_seq (aR (by simp [go_sem, hsa] <;> rfl) ?_)
  refine awp_seq (awp_cond (by first | rfl | (simp [go_sem, hsa] <;> rfl)) (fun h2 => ?_) (fun h2 => ?_))
  ·have hlt : k < ls.length := by simp at h2; omega
   have hw : IntKind.i64.wrap (↑k + 1) = (k : Int) + 1 := wrap_succ (by omega)
   obtain ⟨x, hx, hxm⟩ := get_lt hlt
   have hnx := flat_take_next hx
   have hkk := hsk (k + 1)
   have hk2 := hflat (k + 1)
   have hk1 := hflat k
   have hsn := sum_take_next hx
   have hb2 : ((ipv (ls.take k).flatten).length + (ipv x).length) * 8 ≤ 140737488355328 := by rw [ipv_len, ipv_len]; omega
   refine awp_skip ?_
   refine awp_seq (awp_block ?_)
   refine awp_seq (aR (by simp [go_sem, hsa, hx, hb2] <;> rfl) ?_)
   refine aR (by simp [go_sem, hsa, hx, hb2] <;> rfl) ?_
   refine aR (by simp [go_sem, hsa, hx, hb2] <;> rfl) ?_
   exact next_intro (k + 1) σ.objs.length (σ.toks.length + 1) 0 (hlt) (by omega) ⟨by simp [go_sem, hsa, hx, hb2, hw, hnx, ipv_app, ipv_len], rfl, by simp, by simp, by simp [go_sem, hsa, hx, hb2, hw, hnx, ipv_app, ipv_len], fun ob h => .inl (by simpa [go_sem, hsa, hx, hb2, hw, hnx, ipv_app, ipv_len] using h), by simp [go_sem]⟩
  ·have hke : k = ls.length := by simp at h2; omega
   subst hke
   refine awp_exit ?_
   refine then_exit ?_
   refine then_exit ?_
   refine inBlock_hit ?_
   refine awp_seq (aR (by simp [go_sem, hsa, hfa] <;> rfl) ?_)
   refine awp_ret ?_
   refine ends_ret (by simp [go_sem, hsa, hfa] <;> rfl) (by simp [go_sem]) ?_
   exact ⟨by simp [go_sem, hsa, hfa], by simp [go_sem]⟩

end Go.Proofs.YtnibcmaaehkhlaaGreatDoor
