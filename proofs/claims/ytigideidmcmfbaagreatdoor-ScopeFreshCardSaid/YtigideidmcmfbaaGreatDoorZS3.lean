/- Part of the proof that the statement holds for every input that its row lets in: the contracts of the program's functions, printed by a program out of annotations; the statement itself stands at the end of the last part. -/
import Derived.Test.YtigideidmcmfbaaGreatDoorZS2
import Derived.Test.YtigideidmcmfbaaGreatDoorZA5
import Derived.Test.YtigideidmcmfbaaGreatDoorZA3
import Derived.Test.YtigideidmcmfbaaGreatDoorRows
import Derived.Test.YtigideidmcmfbaaGreatDoorCards
import Derived.Test.YtigideidmcmfbaaGreatDoorTie
set_option linter.unusedSimpArgs false
set_option linter.unusedVariables false
namespace Go.Proofs.YtigideidmcmfbaaGreatDoor
open Go Go.Aw
variable {kr : KR}
def dm : FuncId → Nat → Nat × List Nat × Bool
  | 19, 6 => (8, [], true)
  | 20, 6 => (10, [], true)
  | 136, 10 => (11, [], true)
  | 137, 5 => (9, [], false)
  | 162, 0 => (9, [], true)
  | 162, 1 => (8, [], true)
  | 162, 8 => (19, [], true)
  | 163, 3 => (9, [], true)
  | 163, 5 => (14, [], true)
  | 163, 16 => (9, [], false)
  | 163, 18 => (25, [], true)
  | 163, 19 => (7, [], false)
  | 181, 2 => (19, [], true)
  | 181, 4 => (9, [], true)
  | _, _ => (0, [], false)
def shT : FuncId → List Tmp
  | 136 => [13]
  | _ => []
def caL : List Nat := [19, 20, 50, 85, 93, 128, 129, 136, 137, 162, 163, 164, 181, 193]
theorem caOk : ∀ f, caL.contains f = true → Callable Tryz.prog f := by
  intro f h
  simp only [caL, List.contains_eq_mem, List.mem_cons, List.not_mem_nil, or_false, decide_eq_true_eq] at h
  rcases h with rfl | rfl | rfl | rfl | rfl | rfl | rfl | rfl | rfl | rfl | rfl | rfl | rfl | rfl
  · exact call19
  · exact call20
  · exact call50
  · exact call85
  · exact call93
  · exact call128
  · exact call129
  · exact call136
  · exact call137
  · exact call162
  · exact call163
  · exact call164
  · exact call181
  · exact call193
def orcT (f : FuncId) (args : List AV) : Option AV := match Nat.beq f 129, args with
  | true, [.pv (.int .u8 c)] => some (.pv (.bool (letter c)))
  | _, _ => none
theorem orcOk : ∀ f args r, orcT f args = some r → Pur Tryz.prog (GL kr) f args r := by
  intro f args r h
  unfold orcT at h
  split at h
  · rename_i c hf
    have := Nat.eq_of_beq_eq_true hf
    subst this
    cases h
    exact c_pagodaref01_Letter c
  · cases h
noncomputable def cfg : Cfg := ⟨Tryz.prog, ty, shT, dm, caL.contains, orcT⟩
theorem cfgOk : CfgOk cfg (GL kr) := ⟨tyOk, tySz, caOk, orcOk⟩
def ex1 : D := dlist [dsym ⟨#[102, 110]⟩, dlist [dsym ⟨#[120]⟩], dlist [dsym ⟨#[102]⟩, dsym ⟨#[120]⟩, dsym ⟨#[121]⟩]]
theorem c_read1 : PurAt Tryz.prog ⟨(GL kr), [], []⟩ 50 [.pv (.str ⟨#[40, 102, 110, 32, 40, 120, 41, 32, 40, 102, 32, 120, 32, 121, 41, 41]⟩)] (.pv (enc ex1)) := purAt_eval (n := 100000) cfgOk (by kernel_rfl)
def ex2 : D := dsym ⟨#[120]⟩
theorem c_read2 : PurAt Tryz.prog ⟨(GL kr), [], []⟩ 50 [.pv (.str ⟨#[120]⟩)] (.pv (enc ex2)) := purAt_eval (n := 100000) cfgOk (by kernel_rfl)
def ex3 : D := dlist [dsym ⟨#[102, 110]⟩, dlist [dsym ⟨#[118, 48]⟩], dlist [dsym ⟨#[102]⟩, dsym ⟨#[118, 48]⟩, dsym ⟨#[121]⟩]]
theorem c_read3 : PurAt Tryz.prog ⟨(GL kr), [], []⟩ 50 [.pv (.str ⟨#[40, 102, 110, 32, 40, 118, 48, 41, 32, 40, 102, 32, 118, 48, 32, 121, 41, 41]⟩)] (.pv (enc ex3)) := purAt_eval (n := 100000) cfgOk (by kernel_rfl)
def ex4 : D := dlist [dsym ⟨#[102, 110]⟩, dlist [dsym ⟨#[118, 48]⟩], dlist [dsym ⟨#[102]⟩, dsym ⟨#[118, 48]⟩, dsym ⟨#[120]⟩]]
theorem c_read4 : PurAt Tryz.prog ⟨(GL kr), [], []⟩ 50 [.pv (.str ⟨#[40, 102, 110, 32, 40, 118, 48, 41, 32, 40, 102, 32, 118, 48, 32, 120, 41, 41]⟩)] (.pv (enc ex4)) := purAt_eval (n := 100000) cfgOk (by kernel_rfl)
theorem ex_sf : sfree ex1 [] [] = [⟨#[102]⟩, ⟨#[121]⟩] := by kernel_rfl
theorem ex_sis : sis ex1 = 0 := by kernel_rfl
theorem ex_sort : sortB [⟨#[102]⟩, ⟨#[121]⟩] = [⟨#[102]⟩, ⟨#[121]⟩] := by
  unfold sortB
  first | rw [List.mergeSort_of_pairwise (by simp; decide)] | rw [List.mergeSort_of_sorted (by simp; decide)] | rw [List.mergeSort_of_pairwise (by decide)] | rw [List.mergeSort_of_sorted (by decide)]
  rfl
theorem ex_free : sFree ex1 = (.slice [.str ⟨#[102]⟩, .str ⟨#[121]⟩], 0) := by unfold sFree; rw [ex_sis, if_neg (by decide), ex_sf, ex_sort]; rfl
theorem ex_canon : sCanon ex1 = (ex3, 0) := by kernel_rfl
theorem ex_subst : sSubst ex1 ⟨#[121]⟩ ex2 = (ex4, 0) := by kernel_rfl
theorem c_exTexts : PurAt Tryz.prog ⟨(GL kr), [], []⟩ 19 [.pv (.slice [.str ⟨#[102]⟩, .str ⟨#[121]⟩]), .full [.str ⟨#[102]⟩, .str ⟨#[121]⟩]] (.pv (.bool true)) := purAt_eval (n := 100000) cfgOk (by kernel_rfl)
theorem c_exSame3 : PurAt Tryz.prog ⟨(GL kr), [], []⟩ 20 [.pv (enc ex3), .pv (enc ex3)] (.pv (.bool true)) := purAt_eval (n := 100000) cfgOk (by kernel_rfl)
theorem c_exSame4 : PurAt Tryz.prog ⟨(GL kr), [], []⟩ 20 [.pv (enc ex4), .pv (enc ex4)] (.pv (.bool true)) := purAt_eval (n := 100000) cfgOk (by kernel_rfl)
theorem c_exFree : Pur Tryz.prog (GL kr) 13 [.pv (enc ex1)] (.tuple [.pv (.slice [.str ⟨#[102]⟩, .str ⟨#[121]⟩]), .pv (.int .i64 0)]) := by
  have h := c_sFree (kr := kr) ex1 (Nat.le_of_ble_eq_true (by kernel_rfl)) (by rw [ex_sf]; decide) (by rw [ex_sf]; intro s hs; simp at hs; rcases hs with rfl | rfl <;> decide)
  rw [ex_free] at h
  exact h
theorem c_exCanon : Pur Tryz.prog (GL kr) 34 [.pv (enc ex1)] (.tuple [.pv (enc ex3), .pv (.int .i64 0)]) := by
  have h := c_sCanon (kr := kr) ex1 (Nat.le_of_ble_eq_true (by kernel_rfl))
  rw [ex_canon] at h
  exact h
theorem c_exSubst : Pur Tryz.prog (GL kr) 39 [.pv (enc ex1), .pv (.str ⟨#[121]⟩), .pv (enc ex2)] (.tuple [.pv (enc ex4), .pv (.int .i64 0)]) := by
  have h := c_Subst (kr := kr) ex1 ⟨#[121]⟩ ex2 (Nat.le_of_ble_eq_true (by kernel_rfl)) (Nat.le_of_ble_eq_true (by kernel_rfl)) (Nat.le_of_ble_eq_true (by kernel_rfl)) (Nat.le_of_ble_eq_true (by kernel_rfl))
  rw [ex_subst] at h
  exact h

end Go.Proofs.YtigideidmcmfbaaGreatDoor

namespace Go.Proofs.YtigideidmcmfbaaGreatDoor
open Go Go.Aw
variable {kr : KR}
set_option maxHeartbeats 1000000 in
theorem c_alive (σ : Store) (hσ : σ = ⟨(GL kr), [], []⟩) : PurAt Tryz.prog σ 16 [] (.pv (.bool true)) := by
 have hgl : σ.gl = (GL kr) := by rw [hσ]
 have hF := c_exFree (kr := kr)
 have hC := c_exCanon (kr := kr)
 have hS := c_exSubst (kr := kr)
 have hr1 := c_read1 (kr := kr)
 have hr2 := c_read2 (kr := kr)
 have hr3 := c_read3 (kr := kr)
 have hr4 := c_read4 (kr := kr)
 have ht := c_exTexts (kr := kr)
 have h3 := c_exSame3 (kr := kr)
 have h4 := c_exSame4 (kr := kr)
 rw [← hσ] at hr1 hr2 hr3 hr4 ht h3 h4
 clear hσ
 generalize ex1 = x1 at *
 generalize ex2 = x2 at *
 generalize ex3 = x3 at *
 generalize ex4 = x4 at *
 refine purAt_of ?_
 refine acalls_of tyOk Tryz.func16 rfl (by simp [Tryz.f16]) ?_
 refine sS ?_
 refine sG ?_
 refine aG call50 (hr1) ?_
 refine aT 2 ?_
 refine al_nil (sG ?_)
 refine aT 1 ?_
 refine aG call13 ((hF) _ (by exact hgl)) ?_
 refine aT 5 ?_
 refine al_nil (sG ?_)
 refine aT 1 ?_
 refine aG call34 ((hC) _ (by exact hgl)) ?_
 refine aT 6 ?_
 refine al_nil (awp_seq (awp_regDC tyOk tySz 8 (by kernel_rfl) (by decide) ?_))
 refine ul_run 1 (by simp [go_sem] <;> rfl) ?_
 refine ul_fn (by first | (intro _ _ hh; exact hh) | simp [go_sem]) rfl rfl rfl rfl (by simp [go_sem] <;> rfl) call50 (hr2) (by simp [go_sem] <;> rfl) (by simp [go_sem]) rfl rfl ?_
 refine ul_fn (by first | (intro _ _ hh; exact hh) | simp [go_sem]) rfl rfl rfl rfl (by simp [go_sem] <;> rfl) call39 ((hS) _ (by exact hgl)) (by simp [go_sem] <;> rfl) (by simp [go_sem]) rfl rfl ?_
 refine ul_run 5 (by simp [go_sem] <;> rfl) ?_
 refine ul_nil ?_
 refine aT 1 ?_
 refine al_nil (awp_seq (awp_regDC tyOk tySz 23 (drawOk_of (by kernel_rfl)) (by decide) ?_))
 refine ul_run 3 (by simp [go_sem] <;> rfl) ?_
 refine ul_splitT 27 (by first | rfl | (simp [go_sem] <;> rfl)) (fun h20 => ?_) (fun h20 => ?_)
 ·refine ul_runG 2 27 true true (by simp [go_sem]) rfl (by simp [go_sem]) rfl rfl (by simp [go_sem] <;> rfl) ?_
  refine ul_fnG 27 true true (by simp [go_sem]) rfl (by first | (intro _ _ hh; exact hh) | simp [go_sem]) (by simp [go_sem]) rfl rfl rfl (by simp [go_sem] <;> rfl) call19 (ht) (by simp [go_sem] <;> rfl) (by simp [go_sem]) rfl rfl ?_
  refine ul_run 2 (by simp [go_sem] <;> rfl) ?_
  refine ul_splitT 32 (by first | rfl | (simp [go_sem] <;> rfl)) (fun h21 => ?_) (fun h21 => ?_)
  ·refine ul_runG 2 32 true true (by simp [go_sem]) rfl (by simp [go_sem]) rfl rfl (by simp [go_sem] <;> rfl) ?_
   refine ul_run 2 (by simp [go_sem] <;> rfl) ?_
   refine ul_splitT 36 (by first | rfl | (simp [go_sem] <;> rfl)) (fun h22 => ?_) (fun h22 => ?_)
   ·refine ul_runG 1 36 true true (by simp [go_sem]) rfl (by simp [go_sem]) rfl rfl (by simp [go_sem] <;> rfl) ?_
    refine ul_fnG 36 true true (by simp [go_sem]) rfl (by first | (intro _ _ hh; exact hh) | simp [go_sem]) (by simp [go_sem]) rfl rfl rfl (by simp [go_sem] <;> rfl) call50 (hr3) (by simp [go_sem] <;> rfl) (by simp [go_sem]) rfl rfl ?_
    refine ul_fnG 36 true true (by simp [go_sem]) rfl (by first | (intro _ _ hh; exact hh) | simp [go_sem]) (by simp [go_sem]) rfl rfl rfl (by simp [go_sem] <;> rfl) call20 (h3) (by simp [go_sem] <;> rfl) (by simp [go_sem]) rfl rfl ?_
    refine ul_run 2 (by simp [go_sem] <;> rfl) ?_
    refine ul_splitT 41 (by first | rfl | (simp [go_sem] <;> rfl)) (fun h23 => ?_) (fun h23 => ?_)
    ·refine ul_runG 2 41 true true (by simp [go_sem]) rfl (by simp [go_sem]) rfl rfl (by simp [go_sem] <;> rfl) ?_
     refine ul_run 2 (by simp [go_sem] <;> rfl) ?_
     refine ul_splitT 45 (by first | rfl | (simp [go_sem] <;> rfl)) (fun h24 => ?_) (fun h24 => ?_)
     ·refine ul_runG 1 45 true true (by simp [go_sem]) rfl (by simp [go_sem]) rfl rfl (by simp [go_sem] <;> rfl) ?_
      refine ul_fnG 45 true true (by simp [go_sem]) rfl (by first | (intro _ _ hh; exact hh) | simp [go_sem]) (by simp [go_sem]) rfl rfl rfl (by simp [go_sem] <;> rfl) call50 (hr4) (by simp [go_sem] <;> rfl) (by simp [go_sem]) rfl rfl ?_
      refine ul_nil ?_
      refine al_fnG 45 true true (by simp [go_sem]) rfl (by simp [go_sem]) rfl rfl (by simp [go_sem] <;> rfl) call20 (h4) (by simp [go_sem] <;> rfl) (by simp [go_sem]) rfl rfl ?_
      refine aT 2 ?_
      refine al_nil (awp_ret (eR ?_))
      exact ⟨by simp [go_sem], by simp [go_sem]⟩
     ·cases h24
    ·cases h23
   ·cases h22
  ·cases h21
 ·cases h20

end Go.Proofs.YtigideidmcmfbaaGreatDoor

namespace Go.Proofs.YtigideidmcmfbaaGreatDoor
open Go Go.Aw
variable {kr : KR}
def sFresh (l : List D) (n : Int) : ByteArray × Int := match l.find? (fun d => dcheck d != 0) with
  | some d => (⟨#[]⟩, dcheck d)
  | none => if (decide (n < 0) || decide (1000000 < n)) = true then (⟨#[]⟩, 2) else (frS (symSs l []) n.toNat, 0)

set_option maxHeartbeats 1000000 in
theorem c_sFresh (l : List D) (hl : l.length ≤ 1000000) (hs : D.sizes l ≤ 1000000000) (n : Int) : Pur Tryz.prog (GL kr) 21 [.pv (.slice (l.map enc)), .pv (.int .i64 n)] (.tuple [.pv (.str (sFresh l n).1), .pv (.int .i64 (sFresh l n).2)]) := by
 refine pur_of fun σ hgl => ?_
 have hml := symSs_len l []
 refine acalls_of tyOk Tryz.func21 rfl (by simp [Tryz.f21]) ?_
 refine sS ?_
 refine awp_seq (sS ?_)
 refine awp_block (awp_loop_headK σ.objs.length σ.toks.length 0 [0, 1, 4, 5, 9, 10] (fun k : Nat => [(11, .pv (.int .i64 ↑k))]) (fun k => σ) (fun k => k ≤ l.length ∧ NotYet (fun d => dcheck d != 0) l k) (fun k => l.length - k) 0 (⟨Nat.zero_le _, .zero⟩) ⟨by simp [go_sem], rfl, by simp, by simp, by simp [go_sem], fun ob h => .inl (by simpa [go_sem] using h), by simp [go_sem]⟩ ?_)
 rintro k ⟨hk, hn⟩
 refine sS ?_
 refine awp_seq (aC (fun h0 => ?_) (fun h0 => ?_))
 ·have hlt : k < l.length := by simp at h0; omega
  have hw : IntKind.i64.wrap (↑k + 1) = (k : Int) + 1 := wrap_succ (by omega)
  obtain ⟨x, hx, hxm⟩ := get_lt hlt
  refine awp_skip (awp_seq (awp_block (sA (by simp [go_sem, hx] <;> rfl) ?_)))
  refine sG ?_
  refine aT 1 ?_
  refine aG call52 ((c_datum_Check x (by have := D.size_le_sizes hxm; omega)) _ (by exact hgl)) ?_
  refine aT 1 ?_
  refine al_nil (sS ?_)
  refine awp_cond (by first | rfl | (simp [go_sem, hx] <;> rfl)) (fun h1 => ?_) (fun h1 => ?_)
  ·refine awp_seq (aS ?_)
   refine awp_ret (inBlock_ret (then_ret (then_ret (inBlock_ret (then_ret ?_)))))
   have hM := find_found hn hx h1
   refine eR ?_
   exact ⟨by unfold sFresh; rw [hM]; simp [go_sem], by simp [go_sem]⟩
  ·refine awp_skip (aS ?_)
   exact next_intro (k + 1) σ.objs.length σ.toks.length 0 (⟨hlt, hn.succ hx h1⟩) (by omega) ⟨by simp [go_sem], rfl, by simp, by simp, by simp [go_sem, hw], fun ob h => .inl (by simpa [go_sem, hx, hw] using h), by simp [go_sem]⟩
 ·have hke : k = l.length := by simp at h0; omega
  subst hke
  have hM := find_none hn
  refine awp_exit (then_exit (then_exit (inBlock_hit (awp_seq (sG ?_)))))
  refine aT 3 ?_
  refine al_splitT 23 (by first | rfl | (simp [go_sem] <;> rfl)) (fun h2 => ?_) (fun h2 => ?_)
  ·refine aK 2 23 false ?_
   refine aT 1 ?_
   refine al_nil (awp_cond (b := true) (by simp [go_sem]) (fun h => ?_) (fun h => ?_))
   rotate_left
   ·cases h
   refine sS ?_
   refine awp_ret (then_ret (eR ?_))
   exact ⟨by unfold sFresh; rw [hM]; first | (rw [if_neg (by simp; omega)]; simp [go_sem]; done) | simp_all [go_sem], by first | (simp [go_sem]; done) | simp [go_sem, setS, Store.cut]⟩
  ·refine aLG 2 23 false (by simp [go_sem] <;> rfl) ?_
   refine aT 1 ?_
   refine al_nil (aC (fun h3 => ?_) (fun h3 => ?_))
   ·refine awp_seq (aS ?_)
    refine awp_ret (then_ret (eR ?_))
    exact ⟨by unfold sFresh; rw [hM]; first | (rw [if_neg (by simp; omega)]; simp [go_sem]; done) | simp_all [go_sem], by first | (simp [go_sem]; done) | simp [go_sem, setS, Store.cut]⟩
   ·have hn2 : 0 ≤ n ∧ n ≤ 1000000 := by simp_all <;> omega
    have hnt : ((n.toNat : Nat) : Int) = n := Int.toNat_of_nonneg hn2.1
    refine awp_skip (sG ?_)
    refine aT 2 ?_
    refine al_callW rfl rfl rfl (by simp [go_sem] <;> rfl) call54 (c_symbols l (by omega) hs σ.objs.length [] _ (by exact hgl) (by simp [tK, tV])) (by simp [go_sem] <;> rfl) (by simp [go_sem]) rfl rfl ?_
    rintro r σ' ⟨rfl, rfl⟩
    refine aT 1 ?_
    refine al_callW rfl rfl rfl (by simp [go_sem] <;> rfl) call53 (c_frsh (symSs l []) (by simp at hml; omega) n.toNat (by have := hn2; omega) σ.objs.length _ (by exact hgl) (setS_get (by simp))) (by simp [go_sem] <;> rfl) (by simp [go_sem, hnt]) rfl rfl ?_
    rintro r σ' ⟨rfl, rfl⟩
    refine aT 2 ?_
    refine al_nil (awp_ret (eR ?_))
    exact ⟨by unfold sFresh; rw [hM]; first | (rw [if_neg (by simp; omega)]; simp [go_sem]; done) | simp_all [go_sem], by first | (simp [go_sem]; done) | simp [go_sem, setS, Store.cut]⟩

end Go.Proofs.YtigideidmcmfbaaGreatDoor

namespace Go.Proofs.YtigideidmcmfbaaGreatDoor
open Go Go.Aw
variable {kr : KR}
set_option maxHeartbeats 1000000 in
theorem c_formed01 (d : D) (hd : d.size ≤ 1000000000) : Pur Tryz.prog (GL kr) 55 [.pv (enc d)] (.pv (.bool (formed d))) := by
 induction d using D.ind with
 | _ kind num text kids ih =>
 generalize hD : D.mk kind num text kids = d at *
 have hk : d.kids = kids := by rw [← hD]; rfl
 clear hD
 subst hk
 have hkl := D.kids_length_lt d
 refine pur_of fun σ hgl => ?_
 refine acalls_of tyOk Tryz.func55 rfl (by simp [Tryz.f55]) ?_
 refine sS ?_
 refine awp_seq (sS ?_)
 refine awp_block (sS ?_)
 refine aC (fun h0 => ?_) (fun h0 => ?_)
 ·refine awp_seq (awp_reg ?_)
  refine aT 4 ?_
  refine al_splitT 11 (by first | rfl | (simp [go_sem] <;> rfl)) (fun h1 => ?_) (fun h1 => ?_)
  ·refine aLG 4 11 true (by simp [go_sem] <;> rfl) ?_
   refine aT 2 ?_
   refine al_nil (awp_ret (inBlock_ret (then_ret (eR ?_))))
   exact ⟨by rw [formed_eq]; simp only [h0, h1, bE, if_true, Bool.and_comm]; first | (simp [go_sem]; done) | (simp [go_sem, Bool.and_comm, Bool.and_left_comm]; done), by simp [go_sem]⟩
  ·refine aK 4 11 true ?_
   refine aT 2 ?_
   refine al_nil (awp_ret (inBlock_ret (then_ret (eR ?_))))
   exact ⟨by rw [formed_eq]; simp only [h0, h1, bG, if_true, Bool.and_comm]; first | (simp [go_sem]; done) | (simp [go_sem, Bool.and_comm, Bool.and_left_comm]; done), by simp [go_sem]⟩
 ·refine awp_seq (aS ?_)
  refine aC (fun h2 => ?_) (fun h2 => ?_)
  ·refine awp_seq (awp_reg ?_)
   refine aT 4 ?_
   refine al_splitT 22 (by first | rfl | (simp [go_sem] <;> rfl)) (fun h3 => ?_) (fun h3 => ?_)
   ·refine aLG 2 22 true (by simp [go_sem] <;> rfl) ?_
    refine al_fnG 22 true true (by simp [go_sem]) rfl (by simp [go_sem]) rfl rfl (by simp [go_sem] <;> rfl) call85 ((c_pagodaref01_Symbol d.text) _ (by exact hgl)) (by simp [go_sem] <;> rfl) (by simp [go_sem]) rfl rfl ?_
    refine aL 2 (by simp [go_sem, isSym_letter] <;> rfl) ?_
    refine al_splitT 27 (by first | rfl | (simp [go_sem, isSym_letter] <;> rfl)) (fun h4 => ?_) (fun h4 => ?_)
    ·refine aLG 4 27 true (by simp [go_sem] <;> rfl) ?_
     refine aT 2 ?_
     refine al_nil (awp_ret (inBlock_ret (then_ret (eR ?_))))
     exact ⟨by rw [formed_eq]; simp only [h0, h2, h3, h4, bE, Bool.false_eq_true, if_true, if_false, Bool.and_comm]; first | (simp [go_sem]; done) | (simp [go_sem, Bool.and_comm, Bool.and_left_comm]; done), by simp [go_sem]⟩
    ·refine aK 4 27 true ?_
     refine aT 2 ?_
     refine al_nil (awp_ret (inBlock_ret (then_ret (eR ?_))))
     exact ⟨by rw [formed_eq]; simp only [h0, h2, h3, h4, bE, bG, Bool.false_eq_true, if_true, if_false, Bool.and_comm]; first | (simp [go_sem]; done) | (simp [go_sem, Bool.and_comm, Bool.and_left_comm]; done), by simp [go_sem]⟩
   ·refine aK 3 22 true ?_
    refine aT 2 ?_
    refine aK 4 27 true ?_
    refine aT 2 ?_
    refine al_nil (awp_ret (inBlock_ret (then_ret (eR ?_))))
    exact ⟨by rw [formed_eq]; simp only [h0, h2, h3, bG, Bool.false_eq_true, if_true, if_false, Bool.and_comm]; first | (simp [go_sem]; done) | (simp [go_sem, Bool.and_comm, Bool.and_left_comm]; done), by simp [go_sem]⟩
  ·refine awp_seq (aS ?_)
   refine aC (fun h5 => ?_) (fun h5 => ?_)
   ·refine awp_seq (sS ?_)
    refine awp_block (awp_loop_headK σ.objs.length σ.toks.length 1 [1, 2] (fun k : Nat => [(3, .pv (.int .i64 ↑k))]) (fun k => σ) (fun k => k ≤ d.kids.length ∧ NotYet (fun d => !formed d) d.kids k) (fun k => d.kids.length - k) 0 (⟨Nat.zero_le _, .zero⟩) ⟨by simp [go_sem], rfl, by simp, by simp, by simp [go_sem], fun ob h => .inl (by simpa [go_sem] using h), by simp [go_sem]⟩ ?_)
    rintro k ⟨hk, hn⟩
    refine awp_seq (sS ?_)
    refine aC (fun h6 => ?_) (fun h6 => ?_)
    ·have hlt : k < d.kids.length := by simp at h6; omega
     have hw : IntKind.i64.wrap (↑k + 1) = (k : Int) + 1 := wrap_succ (by omega)
     obtain ⟨x, hx, hxm⟩ := get_lt hlt
     refine awp_skip (awp_seq (awp_block (sG ?_)))
     refine aL 5 (by simp [go_sem, hx] <;> rfl) ?_
     refine aG call55 ((ih x hxm (by have := D.size_kid_lt hxm; omega)) _ (by exact hgl)) ?_
     refine aT 1 ?_
     refine al_nil (awp_cond (by first | rfl | (simp [go_sem, hx] <;> rfl)) (fun h7 => ?_) (fun h7 => ?_))
     ·have hany : (d.kids.any fun d => !formed d) = true := any_found (p := fun d => !formed d) hx h7
      refine sS ?_
      refine awp_ret (inBlock_ret (then_ret (then_ret (inBlock_ret (then_ret (inBlock_ret (then_ret (eR ?_))))))))
      exact ⟨by rw [formed_eq]; simp only [Bool.not_true, h0, h2, h5, hany, bG, Bool.false_eq_true, if_true, if_false, Bool.and_comm]; first | (simp [go_sem]; done) | (simp [go_sem, Bool.and_comm, Bool.and_left_comm]; done), by simp [go_sem]⟩
     ·refine awp_skip (aS ?_)
      exact next_intro (k + 1) σ.objs.length σ.toks.length 1 (⟨hlt, hn.succ hx h7⟩) (by omega) ⟨by simp [go_sem], rfl, by simp, by simp, by simp [go_sem, hw], fun ob h => .inl (by simpa [go_sem, hx, hw] using h), by simp [go_sem]⟩
    ·have hke : k = d.kids.length := by simp at h6; omega
     subst hke
     have hany := hn.any
     refine awp_exit (then_exit (then_exit (inBlock_hit (sG ?_))))
     refine aT 4 ?_
     refine al_splitT 52 (by first | rfl | (simp [go_sem, hany] <;> rfl)) (fun h8 => ?_) (fun h8 => ?_)
     ·refine aLG 3 52 true (by simp [go_sem] <;> rfl) ?_
      refine aT 2 ?_
      refine al_nil (awp_ret (inBlock_ret (then_ret (eR ?_))))
      exact ⟨by rw [formed_eq]; simp only [hany, h0, h2, h5, h8, bE, bJ, Bool.false_eq_true, if_true, if_false, Bool.and_comm]; first | (simp [go_sem]; done) | (simp [go_sem, Bool.and_comm, Bool.and_left_comm]; done), by simp [go_sem]⟩
     ·refine aK 3 52 true ?_
      refine aT 2 ?_
      refine al_nil (awp_ret (inBlock_ret (then_ret (eR ?_))))
      exact ⟨by rw [formed_eq]; simp only [hany, h0, h2, h5, h8, bF, bG, bJ, Bool.false_eq_true, if_true, if_false, Bool.and_comm]; first | (simp [go_sem]; done) | (simp [go_sem, Bool.and_comm, Bool.and_left_comm]; done), by simp [go_sem]⟩
   ·refine awp_skip (sS ?_)
    refine awp_ret (eR ?_)
    exact ⟨by rw [formed_eq]; simp only [h0, h2, h5, Bool.false_eq_true, if_false, Bool.and_comm]; first | (simp [go_sem]; done) | (simp [go_sem, Bool.and_comm, Bool.and_left_comm]; done), by simp [go_sem]⟩

set_option maxHeartbeats 1000000 in
theorem c_Parts01 (d : D) (hd : d.size ≤ 1000000000) : Pur Tryz.prog (GL kr) 56 [.pv (enc d)] (.pv (.int .i64 d.size)) := by
 induction d using D.ind with
 | _ kind num text kids ih =>
 generalize hD : D.mk kind num text kids = d at *
 have hk : d.kids = kids := by rw [← hD]; rfl
 clear hD
 subst hk
 have hkl := D.kids_length_lt d
 have hds := size_sum d
 rw [sumTo_all] at hds
 refine pur_of fun σ hgl => ?_
 refine acalls_of tyOk Tryz.func56 rfl (by simp [Tryz.f56]) ?_
 refine sS ?_
 refine sS ?_
 refine awp_seq (sS ?_)
 refine awp_block (awp_loop_headK σ.objs.length σ.toks.length 1 [1, 2] (fun k : Nat => [(3, .pv (.int .i64 (1 + ((sumTo D.size d.kids k : Nat) : Int)))), (4, .pv (.int .i64 ↑k))]) (fun k => σ) (fun k => k ≤ d.kids.length) (fun k => d.kids.length - k) 0 (Nat.zero_le _) ⟨by simp [go_sem, sumTo_zero], rfl, by simp, by simp, by simp [go_sem, sumTo_zero], fun ob h => .inl (by simpa [go_sem, sumTo_zero] using h), by simp [go_sem]⟩ ?_)
 intro k hk
 refine awp_seq (sS ?_)
 refine aC (fun h0 => ?_) (fun h0 => ?_)
 ·have hlt : k < d.kids.length := by simp at h0; omega
  have hw : IntKind.i64.wrap (↑k + 1) = (k : Int) + 1 := wrap_succ (by omega)
  obtain ⟨x, hx, hxm⟩ := get_lt hlt
  have hsn := sumTo_next (f := D.size) hx
  have hs2 := sumTo_le (f := D.size) (l := d.kids) (k := k + 1) (fun x _ => Nat.le_refl _)
  have hsk := D.size_kids d
  have hwa : IntKind.i64.wrap (1 + ((sumTo D.size d.kids k : Nat) : Int) + (x.size : Int)) = 1 + ((sumTo D.size d.kids (k + 1) : Nat) : Int) := by rw [wrap_id (by omega) (by omega)]; omega
  refine awp_skip (awp_seq (awp_block (awp_reg ?_)))
  refine aL 6 (by simp [go_sem, hx] <;> rfl) ?_
  refine aG call56 ((ih x hxm (by have := D.size_kid_lt hxm; omega)) _ (by exact hgl)) ?_
  refine aL 2 (by simp [go_sem, hwa] <;> rfl) ?_
  refine al_nil (aS ?_)
  exact next_intro (k + 1) σ.objs.length σ.toks.length 1 (hlt) (by omega) ⟨by simp [go_sem], rfl, by simp, by simp, by simp [go_sem, hw], fun ob h => .inl (by simpa [go_sem, hx, hwa, hw] using h), by simp [go_sem]⟩
 ·have hke : k = d.kids.length := by simp at h0; omega
  subst hke
  refine awp_exit (then_exit (then_exit (inBlock_hit (sS ?_))))
  refine awp_ret (eR ?_)
  have hds := size_sum d
  exact ⟨by rw [hds]; simp [go_sem], by simp [go_sem]⟩

set_option maxHeartbeats 1000000 in
theorem c_Deep01 (d : D) (hd : d.size ≤ 1000000000) : Pur Tryz.prog (GL kr) 57 [.pv (enc d)] (.pv (.int .i64 d.deep)) := by
 induction d using D.ind with
 | _ kind num text kids ih =>
 generalize hD : D.mk kind num text kids = d at *
 have hk : d.kids = kids := by rw [← hD]; rfl
 clear hD
 subst hk
 have hkl := D.kids_length_lt d
 have hdd := D.deep_le_size d
 have hdk := deep_kids d
 refine pur_of fun σ hgl => ?_
 refine acalls_of tyOk Tryz.func57 rfl (by simp [Tryz.f57]) ?_
 refine sS ?_
 refine sS ?_
 refine awp_seq (sS ?_)
 refine awp_block (awp_loop_headK σ.objs.length σ.toks.length 1 [1, 2] (fun k : Nat => [(3, .pv (.int .i64 ((D.deeps (d.kids.take k) : Nat) : Int))), (4, .pv (.int .i64 ↑k))]) (fun k => σ) (fun k => k ≤ d.kids.length) (fun k => d.kids.length - k) 0 (Nat.zero_le _) ⟨by simp [go_sem, List.take_zero, D.deeps], rfl, by simp, by simp, by simp [go_sem, List.take_zero, D.deeps], fun ob h => .inl (by simpa [go_sem, List.take_zero, D.deeps] using h), by simp [go_sem]⟩ ?_)
 intro k hk
 refine awp_seq (sS ?_)
 refine aC (fun h0 => ?_) (fun h0 => ?_)
 ·have hlt : k < d.kids.length := by simp at h0; omega
  have hw : IntKind.i64.wrap (↑k + 1) = (k : Int) + 1 := wrap_succ (by omega)
  obtain ⟨x, hx, hxm⟩ := get_lt hlt
  have hdn := deeps_next hx
  refine awp_skip (awp_seq (awp_block (awp_reg ?_)))
  refine aL 6 (by simp [go_sem, hx] <;> rfl) ?_
  refine aG call57 ((ih x hxm (by have := D.size_kid_lt hxm; omega)) _ (by exact hgl)) ?_
  refine aL 2 (by simp [go_sem, hdn] <;> rfl) ?_
  refine al_nil (aS ?_)
  exact next_intro (k + 1) σ.objs.length σ.toks.length 1 (hlt) (by omega) ⟨by simp [go_sem], rfl, by simp, by simp, by simp [go_sem, hw], fun ob h => .inl (by simpa [go_sem, hx, hdn, hw] using h), by simp [go_sem]⟩
 ·have hke : k = d.kids.length := by simp at h0; omega
  subst hke
  have hta : d.kids.take d.kids.length = d.kids := List.take_length
  have hwd : IntKind.i64.wrap (((D.deeps d.kids : Nat) : Int) + 1) = ((D.deeps d.kids : Nat) : Int) + 1 := wrap_id (by omega) (by omega)
  refine awp_exit (then_exit (then_exit (inBlock_hit (sA (by simp [go_sem, hta, hwd] <;> rfl) ?_))))
  refine awp_ret (eR ?_)
  exact ⟨by rw [hdk]; simp [go_sem, Int.add_comm], by simp [go_sem]⟩

set_option maxHeartbeats 1000000 in
theorem c_Check01 (d : D) (hd : d.size ≤ 1000000000) : Pur Tryz.prog (GL kr) 22 [.pv (enc d)] (.pv (.int .i64 (dcheck d))) := by
 refine pur_of fun σ hgl => ?_
 refine acalls_of tyOk Tryz.func22 rfl (by simp [Tryz.f22]) ?_
 refine sS ?_
 refine awp_seq (sG ?_)
 refine aT 1 ?_
 refine aG call55 ((c_formed01 d hd) _ (by exact hgl)) ?_
 refine aT 1 ?_
 refine al_nil (aC (fun h0 => ?_) (fun h0 => ?_))
 ·refine awp_seq (aS ?_)
  refine awp_ret (then_ret (eR ?_))
  exact ⟨by simp only [dcheck, h0, if_true]; simp [go_sem], by simp [go_sem]⟩
 ·refine awp_skip (awp_seq (sG ?_))
  refine aT 1 ?_
  refine aG call56 ((c_Parts01 d hd) _ (by exact hgl)) ?_
  refine aT 2 ?_
  refine al_splitT 9 (by first | rfl | (simp [go_sem] <;> rfl)) (fun h1 => ?_) (fun h1 => ?_)
  ·refine aK 3 9 false ?_
   refine aT 1 ?_
   refine al_nil (awp_cond (b := true) (by simp [go_sem]) (fun h => ?_) (fun h => ?_))
   rotate_left
   ·cases h
   refine sS ?_
   refine awp_ret (then_ret (eR ?_))
   exact ⟨by simp only [dcheck, h0, h1, Bool.false_eq_true, if_true, if_false]; simp [go_sem], by simp [go_sem]⟩
  ·refine aLG 1 9 false (by simp [go_sem] <;> rfl) ?_
   refine al_fnG 9 false false (by simp [go_sem]) rfl (by simp [go_sem]) rfl rfl (by simp [go_sem] <;> rfl) call57 ((c_Deep01 d hd) _ (by exact hgl)) (by simp [go_sem] <;> rfl) (by simp [go_sem]) rfl rfl ?_
   refine aLG 1 9 false (by simp [go_sem] <;> rfl) ?_
   refine aT 1 ?_
   refine al_nil (aC (fun h2 => ?_) (fun h2 => ?_))
   ·refine awp_seq (aS ?_)
    refine awp_ret (then_ret (eR ?_))
    exact ⟨by simp only [dcheck, h0, h1, h2, Bool.false_eq_true, if_true, if_false]; simp [go_sem], by simp [go_sem]⟩
   ·refine awp_skip (sS ?_)
    refine awp_ret (eR ?_)
    exact ⟨by simp only [dcheck, h0, h1, h2, Bool.false_eq_true, if_false]; simp [go_sem], by simp [go_sem]⟩

set_option maxHeartbeats 1000000 in
theorem c_cutS (n : Nat) (hn2 : n ≤ 2000) (ih : n ≠ 0 → ∀ (d : D) (oc lf : Nat) (dp : Int) (σ : Store), dp = (n : Int) → σ.gl = (GL kr) → σ.objs[oc]? = some (.box [.pv (.int .i64 lf)]) → 0 < lf → lf ≤ 3000 → ACalls Tryz.prog 66 [.ptr oc 0, .pv (enc d), .pv (.int .i64 dp)] σ (fun r σ' => ∃ y, y = cutD n d lf ∧ r = .pv (enc y.1) ∧ σ' = setC σ oc (y.2 : Int))) (d : D) (oc lf : Nat) (dp : Int) (σ : Store) (hdn : dp = (n : Int) + 1) (hgl : σ.gl = (GL kr)) (hoc : σ.objs[oc]? = some (.box [.pv (.int .i64 lf)])) (hlf0 : 0 < lf) (hlf : lf ≤ 3000) : ACalls Tryz.prog 66 [.ptr oc 0, .pv (enc d), .pv (.int .i64 dp)] σ (fun r σ' => ∃ y, y = cutD (n + 1) d lf ∧ r = .pv (enc y.1) ∧ σ' = setC σ oc (y.2 : Int)) := by
 have hol := (List.getElem?_eq_some_iff.1 hoc).1
 obtain ⟨tx, htx⟩ : ∃ tx : ByteArray, tx = d.text.extract 0 (if (42 : Int) < d.text.size then (42 : Int) else d.text.size).toNat := ⟨_, rfl⟩
 have htx2 : cutX d.text = tx := htx.symm
 have hm1 : (0 : Int) ≤ (if (42 : Int) < d.text.size then (42 : Int) else d.text.size) := by split <;> omega
 have hm2 : (if (42 : Int) < d.text.size then (42 : Int) else d.text.size) ≤ d.text.size := by split <;> omega
 have hw1 : IntKind.i64.wrap ((lf : Int) - 1) = ((lf - 1 : Nat) : Int) := by rw [wrap_id (by omega) (by omega)]; omega
 refine cut_lessF (k := d.kind) (m := d.num) (tx := tx) ?_
 refine acalls_of tyOk Tryz.func66 rfl (by simp [Tryz.f66]) ?_
 refine sS ?_
 refine sA (by simp [go_sem, hoc, hw1] <;> rfl) ?_
 refine awp_seq (awp_regDP tyOk tySz 13 (by kernel_rfl) (by decide) ?_)
 refine ul_run 13 (by simp [go_sem, hm1, hm2] <;> rfl) ?_
 refine ul_nil ?_
 refine aT 1 ?_
 refine al_nil (awp_seq (sS ?_))
 refine awp_adoptL' 2 3 24 4 (by simp [go_sem] <;> rfl) ?_
 refine awp_block (awp_loop_headKL σ.objs.length (σ.toks.length + 1) 3 [0, 2, 4, 6, 7] (fun i : List D × Nat => [(8, .pv (.int .i64 ↑i.1.length))]) (fun i : List D × Nat => [[.pv (.int .i64 d.kind), .pv (.int .i64 d.num), .pv (.str d.text), .pv (.slice (d.kids.map enc))], [.pv (.int .i64 0), .pv (.int .i64 0), .pv (.str ⟨#[]⟩), .pv .nils], [.pv (.int .i64 d.kind), .pv (.int .i64 d.num), .pv (.str tx), .acc (i.1.map enc) σ.toks.length]]) (fun i => { setC σ oc (i.2 : Int) with toks := σ.toks ++ [⟨i.1.length, 24, 4⟩] }) (fun i => cutI n d lf i) (fun i => d.kids.length - i.1.length) ([], lf - 1) (cutI_zero hlf0) ⟨by show ({ setC σ oc _ with toks := _ } : Store) = _; simp [setC, go_sem, List.take_of_length_le], by simp [go_sem, htx], by simp, by simp, by simp [go_sem, htx, hol], fun ob h => setC_mem h _ _ _, by simp [go_sem]⟩ ?_)
 rintro i hI
 obtain ⟨hil, _, hsz⟩ := id hI
 have hgc := setC_get (v := (i.2 : Int)) hoc
 have hll := D.length_le_sizes i.1
 refine awp_seq (sG ?_)
 refine aT 6 ?_
 refine al_splitT 33 (by first | rfl | (simp [go_sem, hoc, hm1, hm2, hw1, hgc] <;> rfl)) (fun h0 => ?_) (fun h0 => ?_)
 ·refine aLG 2 33 true (by simp [go_sem] <;> rfl) ?_
  refine aT 2 ?_
  refine al_splitT 37 (by first | rfl | (simp [go_sem, hoc, hm1, hm2, hw1, hgc] <;> rfl)) (fun h1 => ?_) (fun h1 => ?_)
  ·refine aLG 5 37 true (by simp [go_sem, hgc] <;> rfl) ?_
   refine aT 1 ?_
   refine al_nil (awp_cond (by first | rfl | (simp [go_sem, hoc, hm1, hm2, hw1, hgc] <;> rfl)) (fun h2 => ?_) (fun h2 => ?_))
   ·have hlt : i.1.length < d.kids.length := by simpa using h0
    have hlv : 0 < i.2 := by have := h2; simp at this; omega
    have hd1 : (1 : Int) < dp := by have := h1; simp at this; omega
    obtain ⟨x, hx, hxm⟩ := get_lt hlt
    have hwd : IntKind.i64.wrap (dp - 1) = dp - 1 := wrap_id (by omega) (by omega)
    have hbb : (i.1.length + 1) * 56 ≤ 140737488355328 := by omega
    have hw : IntKind.i64.wrap ((i.1.length : Int) + 1) = (i.1.length : Int) + 1 := wrap_succ (by omega)
    refine awp_skip (awp_seq (awp_block (awp_regDC tyOk tySz 12 (by kernel_rfl) (by decide) ?_)))
    refine ul_run 10 (by simp [go_sem, hx, hwd] <;> rfl) ?_
    refine ul_callW (by simp [go_sem]) rfl rfl rfl rfl (by simp [go_sem] <;> rfl) call66 (ih (by omega) x oc i.2 (dp - 1) _ (by omega) (by exact hgl) (setC_get hoc) hlv (by omega)) (by simp [go_sem] <;> rfl) (by simp [go_sem]) rfl rfl ⟨_, _, _, rfl, rfl, rfl⟩ ?_
    rintro r σ' ⟨y, hy, rfl, rfl⟩
    refine ul_run 1 (by simp [go_sem, setC_with] <;> rfl) ?_
    refine ul_nil ?_
    refine aL 3 (by simp [go_sem, hbb] <;> rfl) ?_
    refine al_nil (aS ?_)
    exact next_intro ((i.1 ++ [y.1], y.2)) σ.objs.length (σ.toks.length + 1) 3 ((by have := cutI_next hI (by omega) hlv hx (cutD_size _ _ _ hlv); rw [← hy] at this; exact this)) (by simp; omega) ⟨by show ({ setC σ oc _ with toks := _ } : Store) = _; simp [setC, go_sem, List.take_of_length_le], by simp [go_sem], by simp, by simp, by simp [go_sem, hw, hol], fun ob h => setC_mem h _ _ _, by simp [go_sem]⟩
   ·refine awp_exit (then_exit (then_exit (inBlock_hit (sS ?_))))
    refine awp_ret (eR ?_)
    have he : i.1.length = d.kids.length ∨ n = 0 ∨ i.2 = 0 := by first | (left; have hh := h0; simp at hh; omega) | (right; left; have hh := h1; simp at hh; omega) | (right; right; have hh := h2; simp at hh; omega)
    exact ⟨i.1, i.2, by simp [go_sem, enc_mk], by simp [setC, go_sem, List.take_of_length_le], by rw [cutI_end hI he, htx2]⟩
  ·refine aK 5 37 true ?_
   refine aT 1 ?_
   refine al_nil (awp_cond (b := false) (by simp [go_sem]) (fun h => ?_) (fun h => ?_))
   ·cases h
   refine awp_exit (then_exit (then_exit (inBlock_hit (sS ?_))))
   refine awp_ret (eR ?_)
   have he : i.1.length = d.kids.length ∨ n = 0 ∨ i.2 = 0 := by first | (left; have hh := h0; simp at hh; omega) | (right; left; have hh := h1; simp at hh; omega) | (right; right; have hh := h2; simp at hh; omega)
   exact ⟨i.1, i.2, by simp [go_sem, enc_mk], by simp [setC, go_sem, List.take_of_length_le], by rw [cutI_end hI he, htx2]⟩
 ·refine aK 2 33 true ?_
  refine aT 2 ?_
  refine aK 5 37 true ?_
  refine aT 1 ?_
  refine al_nil (awp_cond (b := false) (by simp [go_sem]) (fun h => ?_) (fun h => ?_))
  ·cases h
  refine awp_exit (then_exit (then_exit (inBlock_hit (sS ?_))))
  refine awp_ret (eR ?_)
  have he : i.1.length = d.kids.length ∨ n = 0 ∨ i.2 = 0 := by first | (left; have hh := h0; simp at hh; omega) | (right; left; have hh := h1; simp at hh; omega) | (right; right; have hh := h2; simp at hh; omega)
  exact ⟨i.1, i.2, by simp [go_sem, enc_mk], by simp [setC, go_sem, List.take_of_length_le], by rw [cutI_end hI he, htx2]⟩

theorem c_cut : ∀ (n : Nat), n ≤ 2000 → ∀ (d : D) (oc lf : Nat) (dp : Int) (σ : Store), dp = (n : Int) + 1 → σ.gl = (GL kr) → σ.objs[oc]? = some (.box [.pv (.int .i64 lf)]) → 0 < lf → lf ≤ 3000 → ACalls Tryz.prog 66 [.ptr oc 0, .pv (enc d), .pv (.int .i64 dp)] σ (fun r σ' => ∃ y, y = cutD (n + 1) d lf ∧ r = .pv (enc y.1) ∧ σ' = setC σ oc (y.2 : Int))
  | 0, hn, d, oc, lf, dp, σ, h1, h2, h3, h4, h5 => c_cutS 0 hn (fun h => absurd rfl h) d oc lf dp σ h1 h2 h3 h4 h5
  | n + 1, hn, d, oc, lf, dp, σ, h1, h2, h3, h4, h5 => c_cutS (n + 1) hn (fun _ d oc lf dp σ k1 k2 k3 k4 k5 => c_cut n (by omega) d oc lf dp σ (by omega) k2 k3 k4 k5) d oc lf dp σ h1 h2 h3 h4 h5

set_option maxHeartbeats 1000000 in
theorem c_CutN (d : D) (lf n : Nat) (h1 : 0 < lf) (h2 : lf ≤ 3000) (h3 : n ≤ 2000) (dp : Int) (hdp : dp = (n : Int) + 1) : Pur Tryz.prog (GL kr) 28 [.pv (enc d), .pv (.int .i64 (lf : Int)), .pv (.int .i64 dp)] (.pv (enc (cutD (n + 1) d lf).1)) := by
 refine pur_of fun σ hgl => ?_
 refine acalls_of tyOk Tryz.func28 rfl (by simp [Tryz.f28]) ?_
 refine sS ?_
 refine awp_seq (awp_region_run (sh := [10]) tyOk (by simp [go_sem] <;> rfl) ?_)
 refine sG ?_
 refine aT 3 ?_
 refine al_callW rfl rfl rfl (by simp [go_sem] <;> rfl) call66 (c_cut n h3 d σ.objs.length lf dp _ hdp (by exact hgl) (by simp [go_sem]) h1 h2) (by simp [go_sem] <;> rfl) (by simp [go_sem]) rfl rfl ?_
 rintro r σ' ⟨y, hy, rfl, rfl⟩
 refine aT 1 ?_
 refine al_nil (awp_ret (eR ?_))
 exact ⟨by rw [← hy]; simp [go_sem], by simp [setC, go_sem]⟩

/-- A copy that is not large. -/
def cutL (d : D) : D := (cutD (1019 + 1) d 400).1
theorem cutL_size (d : D) : (cutL d).size ≤ 400 := by
  have := cutD_size (1019 + 1) d 400 (by decide)
  unfold cutL; omega
theorem c_CutL (d : D) : Pur Tryz.prog (GL kr) 28 [.pv (enc d), .pv (.int .i64 400), .pv (.int .i64 1020)] (.pv (enc (cutL d))) := c_CutN d 400 1019 (by decide) (by decide) (by decide) 1020 (by decide)
set_option maxHeartbeats 1000000 in
theorem c_lcut (d x : D) (hx : x = cutL d) : Pur Tryz.prog (GL kr) 12 [.pv (enc d)] (.pv (enc x)) := by
 have hC : Pur Tryz.prog (GL kr) 28 [.pv (enc d), .pv (.int .i64 400), .pv (.int .i64 1020)] (.pv (enc x)) := by rw [hx]; exact c_CutL d
 refine pur_of fun σ hgl => ?_
 refine acalls_of tyOk Tryz.func12 rfl (by simp [Tryz.f12]) ?_
 refine sS ?_
 refine sG ?_
 refine aT 1 ?_
 refine aG call28 ((hC) _ (by exact hgl)) ?_
 refine aT 1 ?_
 refine al_nil (awp_ret (eR ?_))
 exact ⟨by simp [go_sem], by simp [go_sem]⟩

set_option maxHeartbeats 1000000 in
theorem c_decimal (n : Nat) : ∀ (hn : n ≤ 18446744073709551615), Pur Tryz.prog (GL kr) 112 [.pv (.int .u64 (n : Int))] (.pv (.str (decB n))) := by
 induction n using Nat.strongRecOn with
 | _ n ih =>
 intro hn
 refine pur_of fun σ hgl => ?_
 refine acalls_of tyOk Tryz.func112 rfl (by simp [Tryz.f112]) ?_
 refine sS ?_
 refine awp_seq (sS ?_)
 refine awp_cond (by first | rfl | (simp [go_sem, pushAll_one] <;> rfl)) (fun h0 => ?_) (fun h0 => ?_)
 ·have hlt : n < 10 := by have := h0; simp at this; omega
  have wA : IntKind.u64.wrap (48 + (n : Int)) = 48 + (n : Int) := wrap_u64 (by omega) (by omega)
  have wB : IntKind.u8.wrap (48 + (n : Int)) = 48 + (n : Int) := wrap_u8 (by omega) (by omega)
  have wC : (48 + (n : Int)).toNat = 48 + n := by omega
  refine sA (by simp [go_sem, pushAll_one, wA, wB, wC] <;> rfl) ?_
  refine awp_ret (then_ret (eR ?_))
  exact ⟨by rw [decB_small hlt]; simp [go_sem], by simp [go_sem]⟩
 ·have hge : ¬ n < 10 := by have := h0; simp at this; omega
  have wQ : IntKind.u64.wrap ((n : Int) / 10) = (n : Int) / 10 := wrap_u64 (by omega) (by omega)
  have wT : (n : Int).tmod 10 = (n : Int) % 10 := Int.tmod_eq_emod_of_nonneg (by omega)
  have wR : IntKind.u64.wrap ((n : Int) % 10) = (n : Int) % 10 := wrap_u64 (by omega) (by omega)
  have wA : IntKind.u64.wrap (48 + (n : Int) % 10) = 48 + (n : Int) % 10 := wrap_u64 (by omega) (by omega)
  have wB : IntKind.u8.wrap (48 + (n : Int) % 10) = 48 + (n : Int) % 10 := wrap_u8 (by omega) (by omega)
  have wC : (48 + (n : Int) % 10).toNat = 48 + n % 10 := by omega
  have wZ : (decB (n / 10)).size + 1 ≤ 9223372036854775807 := by rw [decB_itoa]; have := itoaB_size (n := ((n / 10 : Nat) : Int)) (by omega) (by omega); omega
  refine awp_skip (awp_seq (awp_regDC tyOk tySz 9 (by kernel_rfl) (by decide) ?_))
  refine ul_run 2 (by simp [go_sem, wQ] <;> rfl) ?_
  refine ul_fn (by first | (intro _ _ hh; exact hh) | simp [go_sem]) rfl rfl rfl rfl (by simp [go_sem] <;> rfl) call112 ((ih (n / 10) (by omega) (by omega)) _ (by exact hgl)) (by simp [go_sem] <;> rfl) (by simp [go_sem]) rfl rfl ?_
  refine ul_run 6 (by simp [go_sem, pushAll_one, wT, wA, wB, wC] <;> rfl) ?_
  refine ul_nil ?_
  refine aL 2 (by simp [go_sem, wZ] <;> rfl) ?_
  refine al_nil (awp_ret (eR ?_))
  exact ⟨by rw [decB_big hge]; simp [go_sem], by simp [go_sem]⟩

set_option maxHeartbeats 1000000 in
theorem c_Decimal (n : Nat) (hn : n ≤ 9223372036854775807) : Pur Tryz.prog (GL kr) 75 [.pv (.int .i64 (n : Int))] (.pv (.str (itoaB (n : Int)))) := by
 have wA : IntKind.u64.wrap (n : Int) = (n : Int) := wrap_u64 (by omega) (by omega)
 refine pur_of fun σ hgl => ?_
 refine acalls_of tyOk Tryz.func75 rfl (by simp [Tryz.f75]) ?_
 refine sS ?_
 refine awp_seq (sS ?_)
 refine awp_cond (by first | rfl | (simp [go_sem, wA] <;> rfl)) (fun h0 => ?_) (fun h0 => ?_)
 ·exfalso; have hh := h0; simp at hh; omega
 ·refine awp_skip (sG ?_)
  refine aL 2 (by simp [go_sem, wA] <;> rfl) ?_
  refine aG call112 ((c_decimal n (by omega)) _ (by exact hgl)) ?_
  refine aT 1 ?_
  refine al_nil (awp_ret (eR ?_))
  exact ⟨by rw [← decB_itoa]; simp [go_sem], by simp [go_sem]⟩

set_option maxHeartbeats 1000000 in
theorem c_has05 (d : D) : ∀ (hd : d.size ≤ 1000000000) (s : ByteArray), Pur Tryz.prog (GL kr) 98 [.pv (enc d), .pv (.str s)] (.pv (.bool (hasB d s))) := by
 induction d using D.ind with
 | _ kind num text kids ih =>
 generalize hD : D.mk kind num text kids = d at *
 have hk : d.kids = kids := by rw [← hD]; rfl
 clear hD
 subst hk
 have hkl := D.kids_length_lt d
 intro hd s
 refine pur_of fun σ hgl => ?_
 refine acalls_of tyOk Tryz.func98 rfl (by simp [Tryz.f98]) ?_
 refine sS ?_
 refine awp_seq (sG ?_)
 refine aT 4 ?_
 refine al_splitT 9 (by first | rfl | (simp [go_sem] <;> rfl)) (fun h0 => ?_) (fun h0 => ?_)
 ·refine aLG 4 9 true (by simp [go_sem] <;> rfl) ?_
  refine aT 1 ?_
  refine al_nil (aC (fun h1 => ?_) (fun h1 => ?_))
  ·refine awp_seq (aS ?_)
   refine awp_ret (then_ret (eR ?_))
   exact ⟨by rw [hasB_eq]; simp only [h0, h1, bA, bF]; simp [go_sem], by simp [go_sem]⟩
  ·refine awp_skip (awp_seq (sS ?_))
   refine awp_block (awp_loop_headK σ.objs.length σ.toks.length 1 [1, 2, 4] (fun k : Nat => [(5, .pv (.int .i64 ↑k))]) (fun k => σ) (fun k => k ≤ d.kids.length ∧ NotYet (fun k => hasB k s) d.kids k) (fun k => d.kids.length - k) 0 (⟨Nat.zero_le _, .zero⟩) ⟨by simp [go_sem], rfl, by simp, by simp, by simp [go_sem], fun ob h => .inl (by simpa [go_sem] using h), by simp [go_sem]⟩ ?_)
   rintro k ⟨hk, hn⟩
   refine awp_seq (sS ?_)
   refine aC (fun h2 => ?_) (fun h2 => ?_)
   ·have hlt : k < d.kids.length := by simp at h2; omega
    have hw : IntKind.i64.wrap (↑k + 1) = (k : Int) + 1 := wrap_succ (by omega)
    obtain ⟨x, hx, hxm⟩ := get_lt hlt
    refine awp_skip (awp_seq (awp_block (sG ?_)))
    refine aL 6 (by simp [go_sem, hx] <;> rfl) ?_
    refine aG call98 ((ih x hxm (by have := D.size_kid_lt hxm; omega) s) _ (by exact hgl)) ?_
    refine al_nil (awp_cond (by first | rfl | (simp [go_sem, hx] <;> rfl)) (fun h3 => ?_) (fun h3 => ?_))
    ·have hany : (d.kids.any fun k => hasB k s) = true := any_found (p := fun k => hasB k s) hx h3
     refine sS ?_
     refine awp_ret (inBlock_ret (then_ret (then_ret (inBlock_ret (then_ret (eR ?_))))))
     exact ⟨by rw [hasB_eq]; simp only [hany, h0, h1, bB, bH]; simp [go_sem], by simp [go_sem]⟩
    ·refine awp_skip (aS ?_)
     exact next_intro (k + 1) σ.objs.length σ.toks.length 1 (⟨hlt, hn.succ hx h3⟩) (by omega) ⟨by simp [go_sem], rfl, by simp, by simp, by simp [go_sem, hw], fun ob h => .inl (by simpa [go_sem, hx, hw] using h), by simp [go_sem]⟩
   ·have hke : k = d.kids.length := by simp at h2; omega
    subst hke
    have hany := hn.any
    refine awp_exit (then_exit (then_exit (inBlock_hit (sS ?_))))
    refine awp_ret (eR ?_)
    exact ⟨by rw [hasB_eq]; simp only [hany, h0, h1, bD, bH]; simp [go_sem], by simp [go_sem]⟩
 ·refine aK 4 9 true ?_
  refine aT 1 ?_
  refine al_nil (awp_cond (b := false) (by simp [go_sem]) (fun h => ?_) (fun h => ?_))
  ·cases h
  refine awp_skip (awp_seq (sS ?_))
  refine awp_block (awp_loop_headK σ.objs.length σ.toks.length 1 [1, 2, 4] (fun k : Nat => [(5, .pv (.int .i64 ↑k))]) (fun k => σ) (fun k => k ≤ d.kids.length ∧ NotYet (fun k => hasB k s) d.kids k) (fun k => d.kids.length - k) 0 (⟨Nat.zero_le _, .zero⟩) ⟨by simp [go_sem], rfl, by simp, by simp, by simp [go_sem], fun ob h => .inl (by simpa [go_sem] using h), by simp [go_sem]⟩ ?_)
  rintro k ⟨hk, hn⟩
  refine awp_seq (sS ?_)
  refine aC (fun h4 => ?_) (fun h4 => ?_)
  ·have hlt : k < d.kids.length := by simp at h4; omega
   have hw : IntKind.i64.wrap (↑k + 1) = (k : Int) + 1 := wrap_succ (by omega)
   obtain ⟨x, hx, hxm⟩ := get_lt hlt
   refine awp_skip (awp_seq (awp_block (sG ?_)))
   refine aL 6 (by simp [go_sem, hx] <;> rfl) ?_
   refine aG call98 ((ih x hxm (by have := D.size_kid_lt hxm; omega) s) _ (by exact hgl)) ?_
   refine al_nil (awp_cond (by first | rfl | (simp [go_sem, hx] <;> rfl)) (fun h5 => ?_) (fun h5 => ?_))
   ·have hany : (d.kids.any fun k => hasB k s) = true := any_found (p := fun k => hasB k s) hx h5
    refine sS ?_
    refine awp_ret (inBlock_ret (then_ret (then_ret (inBlock_ret (then_ret (eR ?_))))))
    exact ⟨by rw [hasB_eq]; simp only [hany, h0, bB, bG]; simp [go_sem], by simp [go_sem]⟩
   ·refine awp_skip (aS ?_)
    exact next_intro (k + 1) σ.objs.length σ.toks.length 1 (⟨hlt, hn.succ hx h5⟩) (by omega) ⟨by simp [go_sem], rfl, by simp, by simp, by simp [go_sem, hw], fun ob h => .inl (by simpa [go_sem, hx, hw] using h), by simp [go_sem]⟩
  ·have hke : k = d.kids.length := by simp at h4; omega
   subst hke
   have hany := hn.any
   refine awp_exit (then_exit (then_exit (inBlock_hit (sS ?_))))
   refine awp_ret (eR ?_)
   exact ⟨by rw [hasB_eq]; simp only [hany, h0, bD, bG]; simp [go_sem], by simp [go_sem]⟩

set_option maxHeartbeats 1000000 in
theorem c_First (l : List D) (hl : l.length ≤ 1000000) (hs : D.sizes l ≤ 1000000000) (n : Nat) (hn : n ≤ 1000000) : Pur Tryz.prog (GL kr) 58 [.pv (.str ⟨#[118]⟩), .pv (.int .i64 (n : Int)), .pv (.slice (l.map enc))] (.pv (.str (frS (symSs l []) n))) := by
 refine pur_of fun σ hgl => ?_
 have hsp := nxtV_spec (symSs l []) n
 have hml := symSs_len l []
 simp only [List.length_nil, Nat.zero_add] at hml
 obtain ⟨N, hN⟩ : ∃ z, z = nxtV (symSs l []) n := ⟨_, rfl⟩
 rw [← hN] at hsp
 have hfr : frS (symSs l []) n = vS (N : Int) := by rw [hN]; rfl
 refine acalls_of tyOk Tryz.func58 rfl (by simp [Tryz.f58]) ?_
 refine sS ?_
 refine sS ?_
 refine awp_block (awp_loop_headK σ.objs.length σ.toks.length 0 [0, 2, 6] (fun c : Nat => [(7, .pv (.int .i64 (c : Int)))]) (fun c => σ) (fun c => n ≤ c ∧ c ≤ N) (fun c => N - c) n (⟨Nat.le_refl _, hsp.1⟩) ⟨by simp [go_sem], rfl, by simp, by simp, by simp [go_sem], fun ob h => .inl (by simpa [go_sem] using h), by simp [go_sem]⟩ ?_)
 intro c hc
 have hsz : 1 + (itoaB (c : Int)).size ≤ 9223372036854775807 := by have := itoaB_size (n := (c : Int)) (by omega) (by omega); omega
 obtain ⟨z, hz⟩ : ∃ z, z = (⟨#[118]⟩ ++ itoaB (c : Int)) := ⟨_, rfl⟩
 have hzz := hz.symm
 have hwc1 : IntKind.i64.wrap ((c : Int) + 1) = (c : Int) + 1 := wrap_id (by omega) (by omega)
 refine awp_seq (awp_block (sG ?_))
 refine aT 2 ?_
 refine aG call75 ((c_Decimal c (by omega)) _ (by exact hgl)) ?_
 refine aL 3 (by simp [go_sem, hsz, hzz] <;> rfl) ?_
 refine al_nil (awp_seq (sS ?_))
 refine awp_block (awp_loop_headK σ.objs.length σ.toks.length 0 [0, 2, 6, 7, 8] (fun k : Nat => [(9, .pv (.bool ((l.take k).any fun d => hasB d z))), (10, .pv (.int .i64 ↑k))]) (fun k => σ) (fun k => k ≤ l.length) (fun k => l.length - k) 0 (Nat.zero_le _) ⟨by simp [go_sem, List.take_zero, List.any_nil], rfl, by simp, by simp, by simp [go_sem, List.take_zero, List.any_nil], fun ob h => .inl (by simpa [go_sem, hsz, hzz, hwc1, List.take_zero, List.any_nil] using h), by simp [go_sem]⟩ ?_)
 intro k hk
 refine awp_seq (sS ?_)
 refine awp_cond (by first | rfl | (simp [go_sem, hsz, hzz, hwc1] <;> rfl)) (fun h0 => ?_) (fun h0 => ?_)
 ·have hlt : k < l.length := by simp at h0; omega
  have hw : IntKind.i64.wrap (↑k + 1) = (k : Int) + 1 := wrap_succ (by omega)
  obtain ⟨x, hx, hxm⟩ := get_lt hlt
  have hnx : (l.take (k + 1)).any (fun d => hasB d z) = ((l.take k).any (fun d => hasB d z) || hasB x z) := by rw [take_next hx, List.any_append]; simp
  refine awp_skip (awp_seq (awp_block (awp_reg ?_)))
  refine aT 2 ?_
  refine al_splitT 25 (by first | rfl | (simp [go_sem, hsz, hzz, hwc1, hx] <;> rfl)) (fun h1 => ?_) (fun h1 => ?_)
  ·have hy1 := h1
   refine aK 6 25 false ?_
   refine aL 2 (by simp [go_sem, hy1] <;> rfl) ?_
   refine al_nil (aS ?_)
   exact next_intro (k + 1) σ.objs.length σ.toks.length 0 (hlt) (by omega) ⟨by simp [go_sem, hy1, hnx], rfl, by simp, by simp, by simp [go_sem, hy1, hw, hnx], fun ob h => .inl (by simpa [go_sem, hsz, hzz, hwc1, hx, hy1, hw, hnx] using h), by simp [go_sem]⟩
  ·have hy1 := h1
   refine aLG 5 25 false (by simp [go_sem, hx, hy1] <;> rfl) ?_
   refine al_fnG 25 false false (by simp [go_sem]) rfl (by simp [go_sem]) rfl rfl (by simp [go_sem] <;> rfl) call98 ((c_has05 x (by have := D.size_le_sizes hxm; omega) z) _ (by exact hgl)) (by simp [go_sem] <;> rfl) (by simp [go_sem]) rfl rfl ?_
   refine aT 2 ?_
   refine al_nil (aS ?_)
   exact next_intro (k + 1) σ.objs.length σ.toks.length 0 (hlt) (by omega) ⟨by simp [go_sem, hy1, hnx], rfl, by simp, by simp, by simp [go_sem, hy1, hw, hnx], fun ob h => .inl (by simpa [go_sem, hsz, hzz, hwc1, hx, hy1, hw, hnx] using h), by simp [go_sem]⟩
 ·have hke : k = l.length := by simp at h0; omega
  subst hke
  have hta : l.take l.length = l := List.take_length
  have hmb : (l.any fun d => hasB d z) = memB (symSs l []) z := (memB_frS l z).symm
  refine awp_exit (then_exit (then_exit (inBlock_hit (sA (by simp [go_sem, hta, hmb] <;> rfl) ?_))))
  refine awp_cond (by first | rfl | (simp [go_sem, hsz, hzz, hwc1, hta, hmb] <;> rfl)) (fun h2 => ?_) (fun h2 => ?_)
  ·have hM : memB (symSs l []) z = false := by simpa using h2
   have hce : c = N := Nat.le_antisymm hc.2 (Nat.le_of_not_lt fun h => by have := hsp.2.2.1 c hc.1 h; unfold vS at this; rw [← hz, hM] at this; cases this)
   refine sS ?_
   refine awp_ret (inBlock_ret (then_ret (then_ret (inBlock_ret (eR ?_)))))
   exact ⟨by rw [hfr]; unfold vS; rw [← hce, ← hz]; simp [go_sem], by simp [go_sem]⟩
  ·have hM : memB (symSs l []) z = true := by simpa using h2
   have hclt : c < N := Nat.lt_of_le_of_ne hc.2 fun e => by have := hsp.2.2.2; unfold vS at this; rw [← e, ← hz, hM] at this; cases this
   refine awp_skip (aR (by simp [go_sem, hwc1] <;> rfl) ?_)
   exact next_intro ((c + 1)) σ.objs.length σ.toks.length 0 (⟨by omega, by omega⟩) ((by show _ - _ < _ - _; omega)) ⟨by simp [go_sem], rfl, by simp, by simp, by simp [go_sem], fun ob h => .inl (by simpa [go_sem, hsz, hzz, hwc1, hta, hmb] using h), by simp [go_sem]⟩

set_option maxHeartbeats 1000000 in
theorem c_Fresh06 (l : List D) (hl : l.length ≤ 1000000) (hs : D.sizes l ≤ 1000000000) (n : Nat) (hn : n ≤ 1000000) : Pur Tryz.prog (GL kr) 23 [.pv (.slice (l.map enc)), .pv (.int .i64 (n : Int))] (.pv (.str (frS (symSs l []) n))) := by
 refine pur_of fun σ hgl => ?_
 refine acalls_of tyOk Tryz.func23 rfl (by simp [Tryz.f23]) ?_
 refine sS ?_
 refine sG ?_
 refine aT 2 ?_
 refine aG call58 ((c_First l hl hs n hn) _ (by exact hgl)) ?_
 refine aT 1 ?_
 refine al_nil (awp_ret (eR ?_))
 exact ⟨by simp [go_sem], by simp [go_sem]⟩

end Go.Proofs.YtigideidmcmfbaaGreatDoor

namespace Go.Proofs.YtigideidmcmfbaaGreatDoor
open Go Go.Aw
variable {kr : KR}
theorem fresh_sizes (l : List D) : D.sizes ((l.take 20).map cutL) ≤ 8000 ∧ ((l.take 20).map cutL).length ≤ 20 := by
  have h2 : ((l.take 20).map cutL).length ≤ 20 := by simp; omega
  have key : ∀ l : List D, D.sizes (l.map cutL) ≤ 400 * l.length := by
    intro l
    induction l with
    | nil => simp [D.sizes]
    | cons x l ih => have := cutL_size x; simp only [List.map_cons, D.sizes, List.length_cons]; omega
  have h1 := key (l.take 20)
  rw [List.length_map] at h2
  refine ⟨by omega, by rw [List.length_map]; exact h2⟩
theorem fresh_bad {a : List D} {n : Int} {y : D} {fs : ByteArray} {fe : Int} (h : sFresh a n = (fs, fe)) (hy : a.find? (fun d => dcheck d != 0) = some y) : fs = ⟨#[]⟩ ∧ fe = dcheck y := by
  unfold sFresh at h
  rw [hy] at h
  cases h; exact ⟨rfl, rfl⟩
theorem fresh_arg {a : List D} {n : Int} {fs : ByteArray} {fe : Int} (h : sFresh a n = (fs, fe)) (hy : a.find? (fun d => dcheck d != 0) = none) (hn : n < 0 ∨ 1000000 < n) : fs = ⟨#[]⟩ ∧ fe = 2 := by
  unfold sFresh at h
  rw [hy] at h
  simp only at h
  rw [if_pos (by simpa using hn)] at h
  cases h; exact ⟨rfl, rfl⟩
theorem fresh_ok {a : List D} {n : Int} {fs : ByteArray} {fe : Int} (h : sFresh a n = (fs, fe)) (hy : a.find? (fun d => dcheck d != 0) = none) (h0 : 0 ≤ n) (h1 : n ≤ 1000000) : fs = frS (symSs a []) n.toNat ∧ fe = 0 := by
  unfold sFresh at h
  rw [hy] at h
  simp only at h
  rw [if_neg (by simp; omega)] at h
  cases h; exact ⟨rfl, rfl⟩

set_option maxHeartbeats 4000000 in
theorem c_ScopeFresh (l : List D) (n : Int) (hn0 : -9223372036854775808 ≤ n) (hn1 : n ≤ 9223372036854775807) (σ : Store) (hσ : σ = ⟨(GL kr), [], []⟩) : PurAt Tryz.prog σ 4 [.pv (.slice (l.map enc)), .pv (.int .i64 n)] (.pv (.bool true)) := by
 have hgl : σ.gl = (GL kr) := by rw [hσ]
 have ht0 : (l.map fun d => enc (cutL d)).take 0 = [] := rfl
 refine purAt_of ?_
 refine acalls_of tyOk Tryz.func4 rfl (by simp [Tryz.f4]) ?_
 refine sS ?_
 refine sS ?_
 refine awp_seq (sS ?_)
 refine awp_adopt' 5 24 4 (by simp [go_sem] <;> rfl) ?_
 refine awp_block (awp_loop_headK σ.objs.length (σ.toks.length + 1) 0 [0, 1, 4] (fun k : Nat => [(5, .acc ((l.map fun d => enc (cutL d)).take k) σ.toks.length), (6, .pv (.int .i64 ↑k))]) (fun k => { σ with toks := σ.toks ++ [⟨k, 24, 4⟩] }) (fun k => k ≤ min l.length 20) (fun k => min l.length 20 - k) 0 (Nat.zero_le _) ⟨by simp [go_sem, ht0], rfl, by simp, by simp, by simp [go_sem, ht0], fun ob h => .inl (by simpa [go_sem, ht0] using h), by simp [go_sem]⟩ ?_)
 intro k hk
 refine awp_seq (sG ?_)
 refine aT 5 ?_
 refine al_splitT 15 (by first | rfl | (simp [go_sem] <;> rfl)) (fun h20 => ?_) (fun h20 => ?_)
 ·have hlt : k < l.length := by have h := h20; simp at h; omega
  obtain ⟨x, hx, hxm⟩ := get_lt hlt
  have hm : min k l.length = k := by omega
  have hnx : (l.map fun d => enc (cutL d)).take (k + 1) = (l.map fun d => enc (cutL d)).take k ++ [enc (cutL x)] := take_next (by rw [List.getElem?_map, hx]; rfl)
  refine aLG 2 15 true (by simp [go_sem] <;> rfl) ?_
  refine aT 1 ?_
  refine al_nil (awp_cond (by first | rfl | (simp [go_sem, hx, hm] <;> rfl)) (fun h21 => ?_) (fun h21 => ?_))
  ·have hw : IntKind.i64.wrap (↑k + 1) = (k : Int) + 1 := wrap_succ (by omega)
   have hk20 : k < 20 := by have h := h21; simp at h; omega
   have hb2 : (k + 1) * 56 ≤ 140737488355328 := by omega
   refine awp_skip (awp_seq (awp_block (awp_reg ?_)))
   refine aL 5 (by simp [go_sem, hx] <;> rfl) ?_
   refine aG call12 ((c_lcut x (cutL x) rfl) _ (by exact hgl)) ?_
   refine aL 3 (by simp [go_sem, hm, hb2] <;> rfl) ?_
   refine al_nil (aS ?_)
   exact next_intro (k + 1) σ.objs.length (σ.toks.length + 1) 0 ((by omega)) ((by show _ - _ < _ - _; omega)) ⟨by simp [go_sem, hnx], rfl, by simp, by simp, by simp [go_sem, hnx, hw], fun ob h => .inl (by simpa [go_sem, hx, hm, hb2, hw, hnx, hw] using h), by simp [go_sem]⟩
  ·have hke : k = min l.length 20 := by have h := h21; simp at h; omega
   obtain ⟨a, ha⟩ : ∃ z, z = (l.take 20).map cutL := ⟨_, rfl⟩
   have hfa : (l.map fun d => enc (cutL d)).take k = a.map enc := by rw [ha, hke, List.map_map, ← List.map_take, show l.take (min l.length 20) = l.take 20 by rw [Nat.min_comm, ← List.take_take, List.take_length]]; rfl
   obtain ⟨has, hal⟩ := fresh_sizes l
   rw [← ha] at has hal
   obtain ⟨fs, fe, hfr⟩ : ∃ s e, sFresh a n = (s, e) := ⟨_, _, rfl⟩
   have hSF : Pur Tryz.prog (GL kr) 21 [.pv (.slice (a.map enc)), .pv (.int .i64 n)] (.tuple [.pv (.str fs), .pv (.int .i64 fe)]) := by have h := c_sFresh (kr := kr) a (by omega) (by omega) n; rw [hfr] at h; exact h
   clear ha
   refine awp_exit (then_exit (then_exit (inBlock_hit (sG ?_))))
   refine aL 2 (by simp [go_sem, hfa] <;> rfl) ?_
   refine aG call21 ((hSF) _ (by exact hgl)) ?_
   refine aT 5 ?_
   refine al_nil (awp_seq (sS ?_))
   refine awp_block (awp_loop_headK σ.objs.length σ.toks.length 0 [1, 4, 7, 8] (fun j : Nat => [(5, .pv (.slice (a.map enc))), (9, .pv (.int .i64 ↑j))]) (fun j => σ) (fun j => j ≤ a.length ∧ NotYet (fun d => dcheck d != 0) a j) (fun j => a.length - j) 0 (⟨Nat.zero_le _, .zero⟩) ⟨by simp [go_sem], rfl, by simp, by simp, by simp [go_sem], fun ob h => .inl (by simpa [go_sem, hx, hm, hfa] using h), by simp [go_sem]⟩ ?_)
   rintro j ⟨hj, hn⟩
   refine awp_seq (sS ?_)
   refine awp_cond (by first | rfl | (simp [go_sem, hx, hm, hfa] <;> rfl)) (fun h22 => ?_) (fun h22 => ?_)
   ·have hlt : j < a.length := by simp at h22; omega
    have hw : IntKind.i64.wrap (↑j + 1) = (j : Int) + 1 := wrap_succ (by omega)
    obtain ⟨y, hy, hym⟩ := get_lt hlt
    refine awp_skip (awp_seq (awp_block (sG ?_)))
    refine aL 4 (by simp [go_sem, hy] <;> rfl) ?_
    refine aG call22 ((c_Check01 y (by have := D.size_le_sizes hym; omega)) _ (by exact hgl)) ?_
    refine aT 1 ?_
    refine al_nil (sS ?_)
    refine awp_cond (by first | rfl | (simp [go_sem, hx, hm, hfa, hy] <;> rfl)) (fun h23 => ?_) (fun h23 => ?_)
    ·obtain ⟨hf1, hf2⟩ := fresh_bad hfr (find_found hn hy h23)
     refine sG ?_
     refine aL 3 (by simp [go_sem, hf1, hf2] <;> rfl) ?_
     refine al_splitT 50 (by first | rfl | (simp [go_sem, hx, hm, hfa, hy, hf1, hf2] <;> rfl)) (fun h24 => ?_) (fun h24 => ?_)
     ·refine aLG 3 50 true (by simp [go_sem] <;> rfl) ?_
      refine aT 2 ?_
      refine al_splitT 55 (by first | rfl | (simp [go_sem, hx, hm, hfa, hy, hf1, hf2] <;> rfl)) (fun h25 => ?_) (fun h25 => ?_)
      ·refine al_fnG 55 true true (by simp [go_sem]) rfl (by simp [go_sem]) rfl rfl (by simp [go_sem] <;> rfl) call16 (c_alive σ hσ) (by simp [go_sem] <;> rfl) (by simp [go_sem]) rfl rfl ?_
       refine aT 2 ?_
       refine al_nil (awp_ret (inBlock_ret (then_ret (then_ret (inBlock_ret (then_ret (eR ?_)))))))
       exact ⟨by simp [go_sem], by simp [go_sem]⟩
      ·first | (cases h25; done) | (simp at h25; done)
     ·first | (cases h24; done) | (simp at h24; done)
    ·refine awp_skip (aS ?_)
     exact next_intro (j + 1) σ.objs.length σ.toks.length 0 (⟨hlt, hn.succ hy h23⟩) (by omega) ⟨by simp [go_sem], rfl, by simp, by simp, by simp [go_sem, hw], fun ob h => .inl (by simpa [go_sem, hx, hm, hfa, hy, hw] using h), by simp [go_sem]⟩
   ·have hke : j = a.length := by simp at h22; omega
    subst hke
    have hfn := find_none hn
    refine awp_exit (then_exit (then_exit (inBlock_hit (awp_seq (sG ?_)))))
    refine aT 3 ?_
    refine al_splitT 60 (by first | rfl | (simp [go_sem, hx, hm, hfa] <;> rfl)) (fun h26 => ?_) (fun h26 => ?_)
    ·obtain ⟨hf1, hf2⟩ := fresh_arg hfr hfn (by have h := h26; simp at h; omega)
     refine aK 2 60 false ?_
     refine aL 1 (by simp [go_sem, hf1, hf2] <;> rfl) ?_
     refine al_nil (awp_cond (b := true) (by simp [go_sem]) (fun h => ?_) (fun h => ?_))
     rotate_left
     ·cases h
     refine sG ?_
     refine aT 3 ?_
     refine al_splitT 66 (by first | rfl | (simp [go_sem, hx, hm, hfa, hf1, hf2] <;> rfl)) (fun h27 => ?_) (fun h27 => ?_)
     ·refine aLG 2 66 true (by simp [go_sem] <;> rfl) ?_
      refine aT 2 ?_
      refine al_splitT 70 (by first | rfl | (simp [go_sem, hx, hm, hfa, hf1, hf2] <;> rfl)) (fun h28 => ?_) (fun h28 => ?_)
      ·refine al_fnG 70 true true (by simp [go_sem]) rfl (by simp [go_sem]) rfl rfl (by simp [go_sem] <;> rfl) call16 (c_alive σ hσ) (by simp [go_sem] <;> rfl) (by simp [go_sem]) rfl rfl ?_
       refine aT 2 ?_
       refine al_nil (awp_ret (then_ret (eR ?_)))
       exact ⟨by simp [go_sem], by simp [go_sem]⟩
      ·first | (cases h28; done) | (simp at h28; done)
     ·first | (cases h27; done) | (simp at h27; done)
    ·have hn60 := h26
     refine aLG 2 60 false (by simp [go_sem] <;> rfl) ?_
     refine aT 1 ?_
     refine al_nil (awp_cond (by first | rfl | (simp [go_sem, hx, hm, hfa] <;> rfl)) (fun h29 => ?_) (fun h29 => ?_))
     ·obtain ⟨hf1, hf2⟩ := fresh_arg hfr hfn (by have h := h29; simp at h; omega)
      refine sG ?_
      refine aL 3 (by simp [go_sem, hf1, hf2] <;> rfl) ?_
      refine al_splitT 66 (by first | rfl | (simp [go_sem, hx, hm, hfa, hf1, hf2] <;> rfl)) (fun h30 => ?_) (fun h30 => ?_)
      ·refine aLG 2 66 true (by simp [go_sem] <;> rfl) ?_
       refine aT 2 ?_
       refine al_splitT 70 (by first | rfl | (simp [go_sem, hx, hm, hfa, hf1, hf2] <;> rfl)) (fun h31 => ?_) (fun h31 => ?_)
       ·refine al_fnG 70 true true (by simp [go_sem]) rfl (by simp [go_sem]) rfl rfl (by simp [go_sem] <;> rfl) call16 (c_alive σ hσ) (by simp [go_sem] <;> rfl) (by simp [go_sem]) rfl rfl ?_
        refine aT 2 ?_
        refine al_nil (awp_ret (then_ret (eR ?_)))
        exact ⟨by simp [go_sem], by simp [go_sem]⟩
       ·first | (cases h31; done) | (simp at h31; done)
      ·first | (cases h30; done) | (simp at h30; done)
     ·have hn2 : 0 ≤ n ∧ n ≤ 1000000 := by have h := h29; simp at h; have h3 := hn60; simp at h3; omega
      have hnt : ((n.toNat : Nat) : Int) = n := Int.toNat_of_nonneg hn2.1
      obtain ⟨hf1, hf2⟩ := fresh_ok hfr hfn hn2.1 hn2.2
      have hFr : Pur Tryz.prog (GL kr) 23 [.pv (.slice (a.map enc)), .pv (.int .i64 n)] (.pv (.str fs)) := by have h := c_Fresh06 (kr := kr) a (by omega) (by omega) n.toNat (by omega); rw [hnt, ← hf1] at h; exact h
      refine awp_skip (sG ?_)
      refine aL 3 (by simp [go_sem, hf2] <;> rfl) ?_
      refine al_splitT 75 (by first | rfl | (simp [go_sem, hx, hm, hfa, hf2] <;> rfl)) (fun h32 => ?_) (fun h32 => ?_)
      ·refine aLG 3 75 true (by simp [go_sem] <;> rfl) ?_
       refine al_fnG 75 true true (by simp [go_sem]) rfl (by simp [go_sem]) rfl rfl (by simp [go_sem] <;> rfl) call23 ((hFr) _ (by exact hgl)) (by simp [go_sem] <;> rfl) (by simp [go_sem]) rfl rfl ?_
       refine aLG 1 75 true (by simp [go_sem] <;> rfl) ?_
       refine aT 2 ?_
       refine al_splitT 82 (by first | rfl | (simp [go_sem, hx, hm, hfa, hf2] <;> rfl)) (fun h33 => ?_) (fun h33 => ?_)
       ·refine al_fnG 82 true true (by simp [go_sem]) rfl (by simp [go_sem]) rfl rfl (by simp [go_sem] <;> rfl) call16 (c_alive σ hσ) (by simp [go_sem] <;> rfl) (by simp [go_sem]) rfl rfl ?_
        refine aT 2 ?_
        refine al_nil (awp_ret (eR ?_))
        exact ⟨by simp [go_sem], by simp [go_sem]⟩
       ·first | (cases h33; done) | (simp at h33; done)
      ·first | (cases h32; done) | (simp at h32; done)
 ·have hke : k = min l.length 20 := by have h := h20; simp at h; omega
  obtain ⟨a, ha⟩ : ∃ z, z = (l.take 20).map cutL := ⟨_, rfl⟩
  have hfa : (l.map fun d => enc (cutL d)).take k = a.map enc := by rw [ha, hke, List.map_map, ← List.map_take, show l.take (min l.length 20) = l.take 20 by rw [Nat.min_comm, ← List.take_take, List.take_length]]; rfl
  obtain ⟨has, hal⟩ := fresh_sizes l
  rw [← ha] at has hal
  obtain ⟨fs, fe, hfr⟩ : ∃ s e, sFresh a n = (s, e) := ⟨_, _, rfl⟩
  have hSF : Pur Tryz.prog (GL kr) 21 [.pv (.slice (a.map enc)), .pv (.int .i64 n)] (.tuple [.pv (.str fs), .pv (.int .i64 fe)]) := by have h := c_sFresh (kr := kr) a (by omega) (by omega) n; rw [hfr] at h; exact h
  clear ha
  refine aK 2 15 true ?_
  refine aL 1 (by simp [go_sem, hfa] <;> rfl) ?_
  refine al_nil (awp_cond (b := false) (by simp [go_sem]) (fun h => ?_) (fun h => ?_))
  ·cases h
  refine awp_exit (then_exit (then_exit (inBlock_hit (sG ?_))))
  refine aT 2 ?_
  refine aG call21 ((hSF) _ (by exact hgl)) ?_
  refine aT 5 ?_
  refine al_nil (awp_seq (sS ?_))
  refine awp_block (awp_loop_headK σ.objs.length σ.toks.length 0 [1, 4, 7, 8] (fun j : Nat => [(5, .pv (.slice (a.map enc))), (9, .pv (.int .i64 ↑j))]) (fun j => σ) (fun j => j ≤ a.length ∧ NotYet (fun d => dcheck d != 0) a j) (fun j => a.length - j) 0 (⟨Nat.zero_le _, .zero⟩) ⟨by simp [go_sem], rfl, by simp, by simp, by simp [go_sem], fun ob h => .inl (by simpa [go_sem, hfa] using h), by simp [go_sem]⟩ ?_)
  rintro j ⟨hj, hn⟩
  refine awp_seq (sS ?_)
  refine awp_cond (by first | rfl | (simp [go_sem, hfa] <;> rfl)) (fun h34 => ?_) (fun h34 => ?_)
  ·have hlt : j < a.length := by simp at h34; omega
   have hw : IntKind.i64.wrap (↑j + 1) = (j : Int) + 1 := wrap_succ (by omega)
   obtain ⟨y, hy, hym⟩ := get_lt hlt
   refine awp_skip (awp_seq (awp_block (sG ?_)))
   refine aL 4 (by simp [go_sem, hy] <;> rfl) ?_
   refine aG call22 ((c_Check01 y (by have := D.size_le_sizes hym; omega)) _ (by exact hgl)) ?_
   refine aT 1 ?_
   refine al_nil (sS ?_)
   refine awp_cond (by first | rfl | (simp [go_sem, hfa, hy] <;> rfl)) (fun h35 => ?_) (fun h35 => ?_)
   ·obtain ⟨hf1, hf2⟩ := fresh_bad hfr (find_found hn hy h35)
    refine sG ?_
    refine aL 3 (by simp [go_sem, hf1, hf2] <;> rfl) ?_
    refine al_splitT 50 (by first | rfl | (simp [go_sem, hfa, hy, hf1, hf2] <;> rfl)) (fun h36 => ?_) (fun h36 => ?_)
    ·refine aLG 3 50 true (by simp [go_sem] <;> rfl) ?_
     refine aT 2 ?_
     refine al_splitT 55 (by first | rfl | (simp [go_sem, hfa, hy, hf1, hf2] <;> rfl)) (fun h37 => ?_) (fun h37 => ?_)
     ·refine al_fnG 55 true true (by simp [go_sem]) rfl (by simp [go_sem]) rfl rfl (by simp [go_sem] <;> rfl) call16 (c_alive σ hσ) (by simp [go_sem] <;> rfl) (by simp [go_sem]) rfl rfl ?_
      refine aT 2 ?_
      refine al_nil (awp_ret (inBlock_ret (then_ret (then_ret (inBlock_ret (then_ret (eR ?_)))))))
      exact ⟨by simp [go_sem], by simp [go_sem]⟩
     ·first | (cases h37; done) | (simp at h37; done)
    ·first | (cases h36; done) | (simp at h36; done)
   ·refine awp_skip (aS ?_)
    exact next_intro (j + 1) σ.objs.length σ.toks.length 0 (⟨hlt, hn.succ hy h35⟩) (by omega) ⟨by simp [go_sem], rfl, by simp, by simp, by simp [go_sem, hw], fun ob h => .inl (by simpa [go_sem, hfa, hy, hw] using h), by simp [go_sem]⟩
  ·have hke : j = a.length := by simp at h34; omega
   subst hke
   have hfn := find_none hn
   refine awp_exit (then_exit (then_exit (inBlock_hit (awp_seq (sG ?_)))))
   refine aT 3 ?_
   refine al_splitT 60 (by first | rfl | (simp [go_sem, hfa] <;> rfl)) (fun h38 => ?_) (fun h38 => ?_)
   ·obtain ⟨hf1, hf2⟩ := fresh_arg hfr hfn (by have h := h38; simp at h; omega)
    refine aK 2 60 false ?_
    refine aL 1 (by simp [go_sem, hf1, hf2] <;> rfl) ?_
    refine al_nil (awp_cond (b := true) (by simp [go_sem]) (fun h => ?_) (fun h => ?_))
    rotate_left
    ·cases h
    refine sG ?_
    refine aT 3 ?_
    refine al_splitT 66 (by first | rfl | (simp [go_sem, hfa, hf1, hf2] <;> rfl)) (fun h39 => ?_) (fun h39 => ?_)
    ·refine aLG 2 66 true (by simp [go_sem] <;> rfl) ?_
     refine aT 2 ?_
     refine al_splitT 70 (by first | rfl | (simp [go_sem, hfa, hf1, hf2] <;> rfl)) (fun h40 => ?_) (fun h40 => ?_)
     ·refine al_fnG 70 true true (by simp [go_sem]) rfl (by simp [go_sem]) rfl rfl (by simp [go_sem] <;> rfl) call16 (c_alive σ hσ) (by simp [go_sem] <;> rfl) (by simp [go_sem]) rfl rfl ?_
      refine aT 2 ?_
      refine al_nil (awp_ret (then_ret (eR ?_)))
      exact ⟨by simp [go_sem], by simp [go_sem]⟩
     ·first | (cases h40; done) | (simp at h40; done)
    ·first | (cases h39; done) | (simp at h39; done)
   ·have hn60 := h38
    refine aLG 2 60 false (by simp [go_sem] <;> rfl) ?_
    refine aT 1 ?_
    refine al_nil (awp_cond (by first | rfl | (simp [go_sem, hfa] <;> rfl)) (fun h41 => ?_) (fun h41 => ?_))
    ·obtain ⟨hf1, hf2⟩ := fresh_arg hfr hfn (by have h := h41; simp at h; omega)
     refine sG ?_
     refine aL 3 (by simp [go_sem, hf1, hf2] <;> rfl) ?_
     refine al_splitT 66 (by first | rfl | (simp [go_sem, hfa, hf1, hf2] <;> rfl)) (fun h42 => ?_) (fun h42 => ?_)
     ·refine aLG 2 66 true (by simp [go_sem] <;> rfl) ?_
      refine aT 2 ?_
      refine al_splitT 70 (by first | rfl | (simp [go_sem, hfa, hf1, hf2] <;> rfl)) (fun h43 => ?_) (fun h43 => ?_)
      ·refine al_fnG 70 true true (by simp [go_sem]) rfl (by simp [go_sem]) rfl rfl (by simp [go_sem] <;> rfl) call16 (c_alive σ hσ) (by simp [go_sem] <;> rfl) (by simp [go_sem]) rfl rfl ?_
       refine aT 2 ?_
       refine al_nil (awp_ret (then_ret (eR ?_)))
       exact ⟨by simp [go_sem], by simp [go_sem]⟩
      ·first | (cases h43; done) | (simp at h43; done)
     ·first | (cases h42; done) | (simp at h42; done)
    ·have hn2 : 0 ≤ n ∧ n ≤ 1000000 := by have h := h41; simp at h; have h3 := hn60; simp at h3; omega
     have hnt : ((n.toNat : Nat) : Int) = n := Int.toNat_of_nonneg hn2.1
     obtain ⟨hf1, hf2⟩ := fresh_ok hfr hfn hn2.1 hn2.2
     have hFr : Pur Tryz.prog (GL kr) 23 [.pv (.slice (a.map enc)), .pv (.int .i64 n)] (.pv (.str fs)) := by have h := c_Fresh06 (kr := kr) a (by omega) (by omega) n.toNat (by omega); rw [hnt, ← hf1] at h; exact h
     refine awp_skip (sG ?_)
     refine aL 3 (by simp [go_sem, hf2] <;> rfl) ?_
     refine al_splitT 75 (by first | rfl | (simp [go_sem, hfa, hf2] <;> rfl)) (fun h44 => ?_) (fun h44 => ?_)
     ·refine aLG 3 75 true (by simp [go_sem] <;> rfl) ?_
      refine al_fnG 75 true true (by simp [go_sem]) rfl (by simp [go_sem]) rfl rfl (by simp [go_sem] <;> rfl) call23 ((hFr) _ (by exact hgl)) (by simp [go_sem] <;> rfl) (by simp [go_sem]) rfl rfl ?_
      refine aLG 1 75 true (by simp [go_sem] <;> rfl) ?_
      refine aT 2 ?_
      refine al_splitT 82 (by first | rfl | (simp [go_sem, hfa, hf2] <;> rfl)) (fun h45 => ?_) (fun h45 => ?_)
      ·refine al_fnG 82 true true (by simp [go_sem]) rfl (by simp [go_sem]) rfl rfl (by simp [go_sem] <;> rfl) call16 (c_alive σ hσ) (by simp [go_sem] <;> rfl) (by simp [go_sem]) rfl rfl ?_
       refine aT 2 ?_
       refine al_nil (awp_ret (eR ?_))
       exact ⟨by simp [go_sem], by simp [go_sem]⟩
      ·first | (cases h45; done) | (simp at h45; done)
     ·first | (cases h44; done) | (simp at h44; done)

end Go.Proofs.YtigideidmcmfbaaGreatDoor

namespace Go.Proofs.YtigideidmcmfbaaGreatDoor
open Go Go.Aw
variable {kr : KR}
theorem dty : DatumTy Tryz.prog 24 22 3 2 9 :=
  { und := ⟨_, _, _, _, Tryz.underlying24, rfl, rfl, rfl, rfl, rfl, rfl, rfl, rfl⟩, i := Tryz.underlying3, n := Tryz.underlying2, s := Tryz.underlying9, k := Tryz.underlying22, cD := by kernel_rfl, ci := by kernel_rfl, cn := by kernel_rfl, cs := by kernel_rfl, ck := by kernel_rfl }
theorem gWords : Tryz.prog.globalNamed "pagoda/syntax.words" = some 0 := by kernel_rfl
theorem tWords : (Tryz.prog.globals[0]?).map (·.type) = some 116 := by kernel_rfl
theorem tPow : (Tryz.prog.globals[1]?).map (·.type) = some 233 := by kernel_rfl
theorem rows_pow : (Rows.laid_internal_strconv_uint64pow10 : DataW Unit) = Lib.tabData .u64 Lib.pow10Tab := by kernel_rfl
def wdS : List (List UInt8 × Int) := [([102, 110], 5), ([105, 102], 4), ([108, 101, 116], 6), ([113, 117, 111, 116, 101], 3), ([114, 101, 99], 7), ([115, 101, 113], 8), ([117, 112], 9)]
theorem rows_words : (Rows.laid_pagoda_syntax_words : DataW Unit) = .map (wdS.map datWd) := by kernel_rfl
theorem wdS_perm : wdS.Perm wordsB := List.isPerm_iff.1 (by kernel_rfl)
set_option maxRecDepth 100000 in
/-- What the row's listed variables are when the call begins. -/
theorem of_laid {W : World} (h : laidMetH Tryz.prog [("math/bits.deBruijn32tab", Rows.laid_math_bits_deBruijn32tab), ("math/bits.deBruijn64tab", Rows.laid_math_bits_deBruijn64tab), ("internal/strconv.uint64pow10", Rows.laid_internal_strconv_uint64pow10), ("pagoda/syntax.words", Rows.laid_pagoda_syntax_words)] W) :
    ∃ kr : KR, ∀ n p, (n, p) ∈ (GL kr) → RP W.heap.size (fun _ _ => False) W p (.pointer (some ⟨n, 0, none⟩)) := by
  rw [MakeChecks.laidMetH_plain _ _ _ (by kernel_rfl)] at h
  obtain ⟨ps, ⟨_, _, _, _, _, _, _, _, _, _, ⟨_, _, _, _, _, _, _, _, _, _, ⟨g2, t2, cs2, f2, p2, q2, hg2, ht2, hv2, hd2, ⟨g7, t7, cs7, f7, p7, q7, hg7, ht7, hv7, hd7, _, _⟩, _⟩, _⟩, _⟩, _, _⟩ := h
  obtain rfl := Option.some.inj (gWords.symm.trans hg7)
  obtain rfl := Option.some.inj (gPow.symm.trans hg2)
  obtain rfl := Option.some.inj (tWords.symm.trans ht7)
  obtain rfl := Option.some.inj (tPow.symm.trans ht2)
  rw [rows_words] at hd7
  obtain ⟨bw, krw, hc7, hrp7⟩ := open_words (S := fun _ _ => False) Tryz.underlying116 Tryz.underlying9 Tryz.underlying3 hd7 wdS_perm
  rw [rows_pow] at hd2
  have hc2 := Lib.cells_of_tab Tryz.underlying233 Tryz.underlying141 (by kernel_rfl) (by kernel_rfl) hd2
  have hblk : ∃ e c, W.heap[(1 : Nat)]? = some (.cells (Lib.pow10Tab.map (Value.int .u64)).toArray e c) := by
    simp only [World.var?, gPow, Option.bind_some] at hv2
    split at hv2
    · rename_i cs e c hh
      cases hv2
      refine ⟨e, c, ?_⟩
      rw [hh, ← Array.toArray_toList (xs := cs2), hc2]
    · cases hv2
  obtain ⟨e2', c2, hblk⟩ := hblk
  have hcell7 : W.cell? ⟨0, 0, none⟩ = some (.map (some bw)) := by
    have := World.var?_cell hg7 hv7 0
    rw [Array.eq_one_of_toList hc7] at this
    simpa using this
  refine ⟨krw, fun n p hm => ?_⟩
  simp only [GL, List.cons_append, List.nil_append, List.mem_cons, Prod.mk.injEq, List.not_mem_nil, or_false] at hm
  rcases hm with ⟨rfl, rfl⟩ | ⟨rfl, rfl⟩
  · first | exact rp_var (cell_lt hcell7) hcell7 rfl hrp7 | exact RP.tab (by by_cases hlt : 1 < W.heap.size; exact hlt; rw [Array.getElem?_eq_none (by show W.heap.size ≤ _; omega)] at hblk; cases hblk) hblk
  · first | exact rp_var (cell_lt hcell7) hcell7 rfl hrp7 | exact RP.tab (by by_cases hlt : 1 < W.heap.size; exact hlt; rw [Array.getElem?_eq_none (by show W.heap.size ≤ _; omega)] at hblk; cases hblk) hblk

end Go.Proofs.YtigideidmcmfbaaGreatDoor

namespace Go.Proofs.YtigideidmcmfbaaGreatDoor
open Go Go.Aw
variable {kr : KR}
open Go.ChangeShapes Go.WideShapes Go.ChangeAt Go.WideMaps Go.WideElems Go.RowKit
theorem own : ownKnob Tryz.prog.godebug = none := by kernel_rfl
theorem laidOut : laidOutB Tryz.prog = true := by kernel_rfl
theorem door_met (os : Os) (args : Array Value) : laidMetH Tryz.prog Rows.scopeFreshRow.laid ((World.doorLaid Tryz.prog 400 os).forCall (fun _ _ => 0) ⟨#[], args, []⟩).memory :=
  laidMetH_of_parts3 (fuel := 8) (laidMet_of_run' 8 (by kernel_rfl) (by kernel_rfl)) (by kernel_rfl) (by kernel_rfl)
/-- The call, as the machine makes it. -/
theorem scopeFresh_calls {W : World} (hL : laidMetH Tryz.prog Rows.scopeFreshRow.laid W) {v0 v1 : Value} {d0 : List D} {d1 : Int} (h0 : RP W.heap.size (fun _ _ => False) W (.slice (d0.map enc)) v0) (h1 : RP W.heap.size (fun _ _ => False) W (.int .i64 d1) v1) (b1 : (Lit.int .i64 d1).wf = true) :
    Calls Tryz.prog 4 #[v0, v1] W fun r W' => r = .returned (.bool true) ∧ Below W.heap.size W W' := by
  obtain ⟨kr, hg⟩ := of_laid hL
  refine (c_ScopeFresh (kr := kr) d0 d1 (wf_i64 b1).1 (wf_i64 b1).2 ⟨(GL kr), [], []⟩ rfl (g0 W) W [v0, v1] (inv0 hg) rfl (fun i x v hx hv => ?_)).mono ?_
  · match i with
    | 0 => simp at hx hv; subst hx hv; exact .pv h0
    | 1 => simp at hx hv; subst hx hv; exact .pv h1
    | i + 2 => simp at hx
  · rintro r W' ⟨v, x, σ', g', rfl, ⟨rfl, rfl⟩, _, hext, hra⟩
    rw [hra.pv_inv.bool_inv]
    exact ⟨rfl, below_of hext⟩
set_option maxRecDepth 100000 in
theorem scopeFresh_lifted (os : Os) (started : os.Started) (H : Type) (enc' : TypeId × Value → H) :
    ReturnsInHanded {} Tryz.checked os 4 .any (fun w args => (Rows.scopeFreshSpec.pre enc' Tryz.prog Tryz.f4 [] false w args ∧ laidMetH Tryz.prog Rows.scopeFreshRow.laid w) ∧ sizedMet enc' Tryz.prog Tryz.f4 (OpenSpec.ofChange Rows.scopeFreshSpec) false w args)
      (Rows.scopeFreshSpec.post enc' Tryz.prog Tryz.f4 false true false false) := by
  refine returnsInHanded_of_change_and (C := Tryz.checked) (X := fun w _ => laidMetH Tryz.prog Rows.scopeFreshRow.laid w) (fun _ _ _ hh h => h.of_heap hh) own started (by kernel_rfl) Tryz.func4
    (ChangeSpec.witness_shaped (enc := enc') (C := Tryz.checked) (os := os) (X := fun w _ => laidMetH Tryz.prog Rows.scopeFreshRow.laid w) false (World.doorLaid Tryz.prog 400 os) #[.slice none 0 0, .int .i64 0] 8 rfl (World.shaped_of_RefB (by kernel_rfl) (by kernel_rfl)) (by kernel_rfl) (by kernel_rfl) (by kernel_rfl) (door_met os _)) ?_
  intro W base args ds gs before hval0 hW _ _ hL _
  have hW' := hW
  obtain ⟨p, q, hA0, hV, rfl, hfz, hnd⟩ := hW
  have hA : DataW.TrodAll enc' Tryz.prog W 0 (fun _ => true) true Tryz.f4.params.toList args.toList ds p := hA0
  rw [Tryz.params4] at hA
  obtain ⟨v0, v1, x0, x1, p0, p1, rfl, rfl, rfl, h0, h1⟩ := trodAll_two hA
  obtain ⟨rfl, rfl⟩ := trodVars_none hV
  clear hA0
  simp only [List.append_nil] at hW'
  obtain ⟨n0, t0⟩ := id h0
  obtain ⟨n1, t1⟩ := id h1
  obtain ⟨e0, u0, hc0, hr0⟩ := open_data (S := fun _ _ => False) dty t0
  have hv0 := open_sliceV dty.k (hval0 0 22 v0 rfl rfl) hc0
  obtain ⟨m1, hv1, w1⟩ := open_intV Tryz.underlying3 (hval0 1 3 v1 rfl rfl) t1
  clear hval0
  have hlt := hW'.lt
  refine (scopeFresh_calls hL (hv0 ▸ hr0) (by rw [hv1]; exact .int) w1).mono fun r W' ⟨hr, hb⟩ => ?_
  subst hr
  exact ⟨_, rfl, post_of_below (pa := p0 ++ p1) (pv := []) hW' (fun _ _ _ => trodAll_mk1 (shut_bool Tryz.underlying4 true))
    (fun sp hs => trodAll_mk2 (Trod_stays laidOut (by kernel_rfl) (of_decide_eq_true (by kernel_rfl)) h0 (fun x hx => hb.same (hlt x (by simp [hx]))) (fun x hx => hs x (by simp [hx]))) (Trod_stays laidOut (by kernel_rfl) (of_decide_eq_true (by kernel_rfl)) h1 (fun x hx => hb.same (hlt x (by simp [hx]))) (fun x hx => hs x (by simp [hx]))))
    (fun _ _ => rfl) (by simp) hb (ok_one (by kernel_rfl) rfl (okWide_bool_mk Tryz.underlying4 _))⟩
set_option maxHeartbeats 40000000 in
theorem scopeFresh_holds : Rows.ScopeFreshSaid :=
  OpenClaim.holds_of_wide 4 Tryz.f4 rfl rfl rfl rfl rfl rfl rfl ⟨rfl, rfl, rfl, rfl, rfl⟩ rfl rfl rfl rfl rfl (by decide +kernel) Tryz.func4 (by unfold joinedFacts; simp only [Bool.and_eq_true]; (repeat' apply And.intro) <;> decide +kernel)
    (by decide +kernel) (by unfold Func.isWrapper; rw [if_neg (by decide +kernel)]; exact ⟨rfl, rfl⟩)
    (fun os started H enc _ => scopeFresh_lifted os started H enc)
set_option maxHeartbeats 40000000 in
/-- The tied card. -/
theorem scopeFreshCard_holds : Rows.ScopeFreshCardSaid :=
  Claim7.holds_tied_plain_at .later [] [.data, .data, .data, .mapped] true (true, "5840acd6a9c41cc48ca146710c815c1ac9039654964f322dfef91e7ed1637ff4") false
    scopeFresh_holds (fun _ h => by cases h) (by decide +kernel) (fun _ h => by cases h) scopeFresh_row_tie rfl ⟨rfl, rfl⟩ (by decide +kernel) rfl
    (fun f fn hf hfn => by
      obtain rfl : f = 4 := Option.some.inj ((show Tryz.prog.funcNamed "pagoda/pagodalaw06.ScopeFresh" = some 4 by decide +kernel).symm.trans hf) |>.symm
      obtain rfl : fn = Tryz.f4 := (Option.some.inj (Tryz.func4.symm.trans hfn)).symm
      exact ⟨by decide +kernel, fun j t ht => by
        rw [Tryz.params4] at ht
        rcases j with _ | _ | j
        · obtain rfl : 22 = t := by simpa using ht
          exact (show Tryz.prog.wantsStandIn 22 = false by decide +kernel)
        · obtain rfl : 3 = t := by simpa using ht
          exact (show Tryz.prog.wantsStandIn 3 = false by decide +kernel)
        · simp at ht⟩)
    (by decide +kernel)
end Go.Proofs.YtigideidmcmfbaaGreatDoor
