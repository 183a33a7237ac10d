/- Part of the proof that the statement holds for every input that its row lets in: the contracts of the program's functions, printed by a program out of annotations; the statement itself stands at the end of the last part. -/
import Derived.Test.YtnibcmaaehkhlaaGreatDoorZS2
import Derived.Test.YtnibcmaaehkhlaaGreatDoorZA4
import Derived.Test.YtnibcmaaehkhlaaGreatDoorZA3
import Derived.Test.YtnibcmaaehkhlaaGreatDoorRows
import Derived.Test.YtnibcmaaehkhlaaGreatDoorCards
import Derived.Test.YtnibcmaaehkhlaaGreatDoorTie
set_option linter.unusedSimpArgs false
set_option linter.unusedVariables false
namespace Go.Proofs.YtnibcmaaehkhlaaGreatDoor
open Go Go.Aw
variable {kr : KR}
set_option maxHeartbeats 1000000 in
theorem c_PartsMk (d : D) (σ : Store) : ACalls Tryz.prog 139 [.pv (enc d)] σ (fun r σ' => r = .func (.func 215) [.ptr σ.objs.length 0] ∧ σ' = { σ with objs := σ.objs ++ [.box [.pv (.int .i64 d.kind), .pv (.int .i64 d.num), .pv (.str d.text), .pv (.slice (d.kids.map enc))]] }) := by
 refine acalls_of tyOk Tryz.func139 rfl (by simp [Tryz.f139]) ?_
 refine awp_seq (awp_region_run (sh := [1]) tyOk (by simp [go_sem] <;> rfl) ?_)
 refine awp_seq (aR (by simp [go_sem] <;> rfl) ?_)
 refine awp_ret ?_
 refine ends_ret (by simp [go_sem] <;> rfl) (by simp [go_sem]) ?_
 exact ⟨by simp [go_sem], by simp [go_sem]⟩

set_option maxHeartbeats 4000000 in
theorem c_PartsIt (d : D) (hd : d.size ≤ 1000000000) (o l : Nat) (J : Nat → Store → Prop) (E : Store → Prop) (hJg : ∀ i τ, J i τ → τ.gl = (GL kr)) (hbox : ∀ i τ, J i τ → τ.objs[o]? = some (.box [.pv (.int .i64 d.kind), .pv (.int .i64 d.num), .pv (.str d.text), .pv (.slice (d.kids.map enc))])) (hround : ∀ i τ q, (subs d)[i]? = some q → J i τ → ACallsY Tryz.prog l [.pv (.slice (ipv q.1.p)), .pv (enc q.2)] τ fun r τ' => (r = .pv (.bool true) ∧ J (i + 1) τ') ∨ (r = .pv (.bool false) ∧ E τ')) (σ : Store) (hJ0 : J 0 σ) : ACalls Tryz.prog 215 [.func (.yield l) [], .ptr o 0] σ (fun _ σ' => J (subs d).length σ' ∨ E σ') := by
 have hb0 := hbox 0 σ hJ0
 have hgl := hJg 0 σ hJ0
 have hkl := D.kids_length_lt d
 have hsl := syn_len d
 refine acalls_of tyOk Tryz.func215 rfl (by simp [Tryz.f215]) ?_
 refine awp_seq (aR (by simp [go_sem, hb0] <;> rfl) ?_)
 refine awp_seq (awp_seq (awp_reg ?_))
 refine aL 1 (by simp [go_sem, hb0] <;> rfl) ?_
 refine aF call138 ((c_Kind d hd) _ (by exact hgl)) (by simp [go_sem, hb0] <;> rfl) (by simp [go_sem, hb0]) ?_
 refine al_nil ?_
 refine awp_block ?_
 refine awp_seq (awp_seq (aR (by simp [go_sem, hb0] <;> rfl) ?_))
 refine awp_cond (by first | rfl | (simp [go_sem, hb0] <;> rfl)) (fun h0 => ?_) (fun h0 => ?_)
 ·obtain ⟨bs, hbs⟩ : ∃ z : Nat, z = 0 := ⟨_, rfl⟩
  have htl : TailOk d 1 bs := by rw [hbs]; exact tail_rest (by first | exact .inl (by simpa using h0 : synKind d = 4) | exact .inr (by simpa using h0 : synKind d = 8))
  obtain ⟨htl1, htl2⟩ := htl
  have hfl : 1 ≤ d.kids.length := by have h := tail_len d (by first | exact .inl (by simpa using h0 : synKind d = 4) | exact .inr (by simpa using h0 : synKind d = 8)); omega
  have hJs : J bs σ := by rw [hbs]; exact hJ0
  refine awp_skip ?_
  refine awp_cond (b := true) (by simp [go_sem, hb0, h0]) (fun h => ?_) (fun h => ?_)
  rotate_left
  ·cases h
  refine aR (by simp [go_sem, hb0] <;> rfl) ?_
  refine awp_seq ?_
  have hfl2 : (1 : Int) ≤ (d.kids.length : Int) := by omega
  refine aR (by simp [go_sem, hb0, hfl2] <;> rfl) ?_
  refine awp_block ?_
  refine awp_loop_headJL 0 [0, 3, 45, 46] (fun p : Nat × Store => [(47, .pv (.int .i64 (p.1 : Int)))]) (fun p => p.2) (fun p => p.1 ≤ (d.kids.drop 1).length ∧ J (bs + p.1) p.2) (fun p => (d.kids.drop 1).length - p.1) (0, σ) (⟨Nat.zero_le _, hJs⟩) ⟨rfl, rfl, by simp [go_sem, hb0, hfl2], by simp [go_sem]⟩ ?_
  rintro ⟨i3, τ3⟩ ⟨hi3, hJ3⟩
  have hb3 := hbox _ τ3 hJ3
  refine awp_seq (aR (by simp [go_sem, hb0, hfl2, hb3] <;> rfl) ?_)
  refine awp_seq (awp_cond (by first | rfl | (simp [go_sem, hb0, hfl2, hb3] <;> rfl)) (fun h1 => ?_) (fun h1 => ?_))
  ·have hlt : i3 < (d.kids.drop 1).length := by simp at h1; simp; omega
   have hxl2 : (d.kids.drop 1).length ≤ d.kids.length := by simp
   obtain ⟨x, hx, hxm⟩ := get_lt hlt
   obtain ⟨q, hq, hqp, hq2⟩ := htl2 i3 x hx
   have hx3 : d.kids[1 + i3]? = some x := by rw [← hx, List.getElem?_drop]
   have hx4 := hx3
   have hx5 : d.kids[i3 + 1]? = some x := by rw [Nat.add_comm]; exact hx3
   try simp only [Nat.zero_add] at hx4
   have hqp2 := hqp
   simp at hqp2
   have hw4 : IntKind.i64.wrap (i3 : Int) = (i3 : Int) := wrap_id (by omega) (by omega)
   have hw : IntKind.i64.wrap ((i3 : Int) + 1) = (i3 : Int) + 1 := wrap_succ (by omega)
   have hw3 : IntKind.i64.wrap ((1 : Int) + (i3 : Int)) = (1 : Int) + (i3 : Int) := wrap_id (by omega) (by omega)
   refine awp_skip ?_
   refine awp_seq (awp_block ?_)
   refine awp_seq (aR (by simp [go_sem, hb0, hfl2, hb3, hx, hx3, hx4, hx5, hw3, hw4] <;> rfl) ?_)
   refine awp_seq (awp_reg ?_)
   refine aL 6 (by simp [go_sem, hb0, hfl2, hb3, hx, hx3, hx4, hx5, hw3, hw4] <;> rfl) ?_
   refine al_yield rfl rfl rfl (by simp [go_sem, hb0, hfl2, hb3, hx, hx3, hx4, hx5, hw3, hw4] <;> rfl) (hround (bs + i3) τ3 q hq hJ3) (by simp [go_sem, hb0, hfl2, hb3, hx, hx3, hx4, hx5, hw3, hw4] <;> rfl) (by simp [go_sem, hb0, hfl2, hb3, hx, hx3, hx4, hx5, hw3, hw4, hqp2, hq2, ipv]) rfl rfl ?_
   rintro r τ4 (⟨rfl, hJ4⟩ | ⟨rfl, hE⟩)
   ·refine aL 1 (by simp [go_sem, hb0, hfl2, hb3, hx, hx3, hx4, hx5, hw3, hw4] <;> rfl) ?_
    refine al_nil ?_
    refine awp_cond (b := false) (by simp [go_sem, hb0, hfl2, hb3, hx, hx3, hx4, hx5, hw3, hw4, h0, h1]) (fun h => ?_) (fun h => ?_)
    ·cases h
    refine awp_skip ?_
    refine aR (by simp [go_sem, hb0, hfl2, hb3, hx, hx3, hx4, hx5, hw3, hw4] <;> rfl) ?_
    exact ⟨(i3 + 1, τ4), ⟨by show i3 + 1 ≤ _; omega, hJ4⟩, by show (d.kids.drop 1).length - (i3 + 1) < (d.kids.drop 1).length - i3; omega, rfl, rfl, by simp [go_sem, hb0, hfl2, hb3, hx, hx3, hx4, hx5, hw3, hw4, hw], by simp [go_sem]⟩
   ·refine aL 1 (by simp [go_sem, hb0, hfl2, hb3, hx, hx3, hx4, hx5, hw3, hw4] <;> rfl) ?_
    refine al_nil ?_
    refine awp_cond (b := true) (by simp [go_sem, hb0, hfl2, hb3, hx, hx3, hx4, hx5, hw3, hw4, h0, h1]) (fun h => ?_) (fun h => ?_)
    rotate_left
    ·cases h
    refine awp_ret ?_
    refine inBlock_ret ?_
    refine then_ret ?_
    refine then_ret ?_
    refine inBlock_ret ?_
    refine ends_ret (by simp [go_sem, hb0, hfl2, hb3, hx, hx3, hx4, hx5, hw3, hw4] <;> rfl) (by simp [go_sem]) ?_
    first | exact .inr hE | exact .inl (by rw [hs0]; exact hJ0) | exact .inl hJ3
  ·have hke : i3 = (d.kids.drop 1).length := by have e1 := h1; have e2 : (d.kids.drop 1).length = d.kids.length - 1 := List.length_drop; have e3 : i3 ≤ (d.kids.drop 1).length := hi3; simp only [decide_eq_false_iff_not] at e1; rw [e2] at e3 ⊢; omega
   subst hke
   rw [htl1] at hJ3
   refine awp_exit ?_
   refine then_exit ?_
   refine then_exit ?_
   refine inBlock_hit ?_
   refine ends_normal (by simp [go_sem, hb0, hfl2, hb3] <;> rfl) (by simp [go_sem]) ?_
   first | exact .inr hE | exact .inl (by rw [hs0]; exact hJ0) | exact .inl hJ3
 ·refine aR (by simp [go_sem, hb0] <;> rfl) ?_
  refine awp_cond (by first | rfl | (simp [go_sem, hb0] <;> rfl)) (fun h2 => ?_) (fun h2 => ?_)
  ·obtain ⟨bs, hbs⟩ : ∃ z : Nat, z = 0 := ⟨_, rfl⟩
   have htl : TailOk d 1 bs := by rw [hbs]; exact tail_rest (by first | exact .inl (by simpa using h2 : synKind d = 4) | exact .inr (by simpa using h2 : synKind d = 8))
   obtain ⟨htl1, htl2⟩ := htl
   have hfl : 1 ≤ d.kids.length := by have h := tail_len d (by first | exact .inl (by simpa using h2 : synKind d = 4) | exact .inr (by simpa using h2 : synKind d = 8)); omega
   have hJs : J bs σ := by rw [hbs]; exact hJ0
   refine aR (by simp [go_sem, hb0] <;> rfl) ?_
   refine awp_seq ?_
   have hfl2 : (1 : Int) ≤ (d.kids.length : Int) := by omega
   refine aR (by simp [go_sem, hb0, hfl2] <;> rfl) ?_
   refine awp_block ?_
   refine awp_loop_headJL 0 [0, 3, 45, 46] (fun p : Nat × Store => [(47, .pv (.int .i64 (p.1 : Int)))]) (fun p => p.2) (fun p => p.1 ≤ (d.kids.drop 1).length ∧ J (bs + p.1) p.2) (fun p => (d.kids.drop 1).length - p.1) (0, σ) (⟨Nat.zero_le _, hJs⟩) ⟨rfl, rfl, by simp [go_sem, hb0, hfl2], by simp [go_sem]⟩ ?_
   rintro ⟨i3, τ3⟩ ⟨hi3, hJ3⟩
   have hb3 := hbox _ τ3 hJ3
   refine awp_seq (aR (by simp [go_sem, hb0, hfl2, hb3] <;> rfl) ?_)
   refine awp_seq (awp_cond (by first | rfl | (simp [go_sem, hb0, hfl2, hb3] <;> rfl)) (fun h3 => ?_) (fun h3 => ?_))
   ·have hlt : i3 < (d.kids.drop 1).length := by simp at h3; simp; omega
    have hxl2 : (d.kids.drop 1).length ≤ d.kids.length := by simp
    obtain ⟨x, hx, hxm⟩ := get_lt hlt
    obtain ⟨q, hq, hqp, hq2⟩ := htl2 i3 x hx
    have hx3 : d.kids[1 + i3]? = some x := by rw [← hx, List.getElem?_drop]
    have hx4 := hx3
    have hx5 : d.kids[i3 + 1]? = some x := by rw [Nat.add_comm]; exact hx3
    try simp only [Nat.zero_add] at hx4
    have hqp2 := hqp
    simp at hqp2
    have hw4 : IntKind.i64.wrap (i3 : Int) = (i3 : Int) := wrap_id (by omega) (by omega)
    have hw : IntKind.i64.wrap ((i3 : Int) + 1) = (i3 : Int) + 1 := wrap_succ (by omega)
    have hw3 : IntKind.i64.wrap ((1 : Int) + (i3 : Int)) = (1 : Int) + (i3 : Int) := wrap_id (by omega) (by omega)
    refine awp_skip ?_
    refine awp_seq (awp_block ?_)
    refine awp_seq (aR (by simp [go_sem, hb0, hfl2, hb3, hx, hx3, hx4, hx5, hw3, hw4] <;> rfl) ?_)
    refine awp_seq (awp_reg ?_)
    refine aL 6 (by simp [go_sem, hb0, hfl2, hb3, hx, hx3, hx4, hx5, hw3, hw4] <;> rfl) ?_
    refine al_yield rfl rfl rfl (by simp [go_sem, hb0, hfl2, hb3, hx, hx3, hx4, hx5, hw3, hw4] <;> rfl) (hround (bs + i3) τ3 q hq hJ3) (by simp [go_sem, hb0, hfl2, hb3, hx, hx3, hx4, hx5, hw3, hw4] <;> rfl) (by simp [go_sem, hb0, hfl2, hb3, hx, hx3, hx4, hx5, hw3, hw4, hqp2, hq2, ipv]) rfl rfl ?_
    rintro r τ4 (⟨rfl, hJ4⟩ | ⟨rfl, hE⟩)
    ·refine aL 1 (by simp [go_sem, hb0, hfl2, hb3, hx, hx3, hx4, hx5, hw3, hw4] <;> rfl) ?_
     refine al_nil ?_
     refine awp_cond (b := false) (by simp [go_sem, hb0, hfl2, hb3, hx, hx3, hx4, hx5, hw3, hw4, h0, h2, h3]) (fun h => ?_) (fun h => ?_)
     ·cases h
     refine awp_skip ?_
     refine aR (by simp [go_sem, hb0, hfl2, hb3, hx, hx3, hx4, hx5, hw3, hw4] <;> rfl) ?_
     exact ⟨(i3 + 1, τ4), ⟨by show i3 + 1 ≤ _; omega, hJ4⟩, by show (d.kids.drop 1).length - (i3 + 1) < (d.kids.drop 1).length - i3; omega, rfl, rfl, by simp [go_sem, hb0, hfl2, hb3, hx, hx3, hx4, hx5, hw3, hw4, hw], by simp [go_sem]⟩
    ·refine aL 1 (by simp [go_sem, hb0, hfl2, hb3, hx, hx3, hx4, hx5, hw3, hw4] <;> rfl) ?_
     refine al_nil ?_
     refine awp_cond (b := true) (by simp [go_sem, hb0, hfl2, hb3, hx, hx3, hx4, hx5, hw3, hw4, h0, h2, h3]) (fun h => ?_) (fun h => ?_)
     rotate_left
     ·cases h
     refine awp_ret ?_
     refine inBlock_ret ?_
     refine then_ret ?_
     refine then_ret ?_
     refine inBlock_ret ?_
     refine ends_ret (by simp [go_sem, hb0, hfl2, hb3, hx, hx3, hx4, hx5, hw3, hw4] <;> rfl) (by simp [go_sem]) ?_
     first | exact .inr hE | exact .inl (by rw [hs0]; exact hJ0) | exact .inl hJ3
   ·have hke : i3 = (d.kids.drop 1).length := by have e1 := h3; have e2 : (d.kids.drop 1).length = d.kids.length - 1 := List.length_drop; have e3 : i3 ≤ (d.kids.drop 1).length := hi3; simp only [decide_eq_false_iff_not] at e1; rw [e2] at e3 ⊢; omega
    subst hke
    rw [htl1] at hJ3
    refine awp_exit ?_
    refine then_exit ?_
    refine then_exit ?_
    refine inBlock_hit ?_
    refine ends_normal (by simp [go_sem, hb0, hfl2, hb3] <;> rfl) (by simp [go_sem]) ?_
    first | exact .inr hE | exact .inl (by rw [hs0]; exact hJ0) | exact .inl hJ3
  ·refine awp_seq ?_
   refine awp_seq (aR (by simp [go_sem, hb0] <;> rfl) ?_)
   refine awp_cond (by first | rfl | (simp [go_sem, hb0] <;> rfl)) (fun h4 => ?_) (fun h4 => ?_)
   ·obtain ⟨bs, hbs⟩ : ∃ z : Nat, z = 0 := ⟨_, rfl⟩
    have htl : TailOk d 2 bs := by rw [hbs]; exact by first | exact tail_let (by simpa using h4 : synKind d = 6) | exact tail_fn (.inl (by simpa using h4 : synKind d = 5)) | exact tail_fn (.inr (by simpa using h4 : synKind d = 9))
    obtain ⟨htl1, htl2⟩ := htl
    have hfl : 2 ≤ d.kids.length := by have h := hsl.1; have h2 := hsl.2.1; have e := h4; simp at e; first | (have := h (.inl e); omega) | (have := h (.inr (.inl e)); omega) | (have := h2 e; omega)
    have hJs : J bs σ := by rw [hbs]; exact hJ0
    refine awp_skip ?_
    refine awp_cond (b := true) (by simp [go_sem, hb0, h0, h2, h4]) (fun h => ?_) (fun h => ?_)
    rotate_left
    ·cases h
    refine aR (by simp [go_sem, hb0] <;> rfl) ?_
    refine awp_seq ?_
    have hfl2 : (2 : Int) ≤ (d.kids.length : Int) := by omega
    refine aR (by simp [go_sem, hb0, hfl2] <;> rfl) ?_
    refine awp_block ?_
    refine awp_loop_headJL 0 [0, 3, 45, 46] (fun p : Nat × Store => [(47, .pv (.int .i64 (p.1 : Int)))]) (fun p => p.2) (fun p => p.1 ≤ (d.kids.drop 2).length ∧ J (bs + p.1) p.2) (fun p => (d.kids.drop 2).length - p.1) (0, σ) (⟨Nat.zero_le _, hJs⟩) ⟨rfl, rfl, by simp [go_sem, hb0, hfl2], by simp [go_sem]⟩ ?_
    rintro ⟨i3, τ3⟩ ⟨hi3, hJ3⟩
    have hb3 := hbox _ τ3 hJ3
    refine awp_seq (aR (by simp [go_sem, hb0, hfl2, hb3] <;> rfl) ?_)
    refine awp_seq (awp_cond (by first | rfl | (simp [go_sem, hb0, hfl2, hb3] <;> rfl)) (fun h5 => ?_) (fun h5 => ?_))
    ·have hlt : i3 < (d.kids.drop 2).length := by simp at h5; simp; omega
     have hxl2 : (d.kids.drop 2).length ≤ d.kids.length := by simp
     obtain ⟨x, hx, hxm⟩ := get_lt hlt
     obtain ⟨q, hq, hqp, hq2⟩ := htl2 i3 x hx
     have hx3 : d.kids[2 + i3]? = some x := by rw [← hx, List.getElem?_drop]
     have hx4 := hx3
     have hx5 : d.kids[i3 + 2]? = some x := by rw [Nat.add_comm]; exact hx3
     try simp only [Nat.zero_add] at hx4
     have hqp2 := hqp
     simp at hqp2
     have hw4 : IntKind.i64.wrap (i3 : Int) = (i3 : Int) := wrap_id (by omega) (by omega)
     have hw : IntKind.i64.wrap ((i3 : Int) + 1) = (i3 : Int) + 1 := wrap_succ (by omega)
     have hw3 : IntKind.i64.wrap ((2 : Int) + (i3 : Int)) = (2 : Int) + (i3 : Int) := wrap_id (by omega) (by omega)
     refine awp_skip ?_
     refine awp_seq (awp_block ?_)
     refine awp_seq (aR (by simp [go_sem, hb0, hfl2, hb3, hx, hx3, hx4, hx5, hw3, hw4] <;> rfl) ?_)
     refine awp_seq (awp_reg ?_)
     refine aL 6 (by simp [go_sem, hb0, hfl2, hb3, hx, hx3, hx4, hx5, hw3, hw4] <;> rfl) ?_
     refine al_yield rfl rfl rfl (by simp [go_sem, hb0, hfl2, hb3, hx, hx3, hx4, hx5, hw3, hw4] <;> rfl) (hround (bs + i3) τ3 q hq hJ3) (by simp [go_sem, hb0, hfl2, hb3, hx, hx3, hx4, hx5, hw3, hw4] <;> rfl) (by simp [go_sem, hb0, hfl2, hb3, hx, hx3, hx4, hx5, hw3, hw4, hqp2, hq2, ipv]) rfl rfl ?_
     rintro r τ4 (⟨rfl, hJ4⟩ | ⟨rfl, hE⟩)
     ·refine aL 1 (by simp [go_sem, hb0, hfl2, hb3, hx, hx3, hx4, hx5, hw3, hw4] <;> rfl) ?_
      refine al_nil ?_
      refine awp_cond (b := false) (by simp [go_sem, hb0, hfl2, hb3, hx, hx3, hx4, hx5, hw3, hw4, h0, h2, h4, h5]) (fun h => ?_) (fun h => ?_)
      ·cases h
      refine awp_skip ?_
      refine aR (by simp [go_sem, hb0, hfl2, hb3, hx, hx3, hx4, hx5, hw3, hw4] <;> rfl) ?_
      exact ⟨(i3 + 1, τ4), ⟨by show i3 + 1 ≤ _; omega, hJ4⟩, by show (d.kids.drop 2).length - (i3 + 1) < (d.kids.drop 2).length - i3; omega, rfl, rfl, by simp [go_sem, hb0, hfl2, hb3, hx, hx3, hx4, hx5, hw3, hw4, hw], by simp [go_sem]⟩
     ·refine aL 1 (by simp [go_sem, hb0, hfl2, hb3, hx, hx3, hx4, hx5, hw3, hw4] <;> rfl) ?_
      refine al_nil ?_
      refine awp_cond (b := true) (by simp [go_sem, hb0, hfl2, hb3, hx, hx3, hx4, hx5, hw3, hw4, h0, h2, h4, h5]) (fun h => ?_) (fun h => ?_)
      rotate_left
      ·cases h
      refine awp_ret ?_
      refine inBlock_ret ?_
      refine then_ret ?_
      refine then_ret ?_
      refine inBlock_ret ?_
      refine ends_ret (by simp [go_sem, hb0, hfl2, hb3, hx, hx3, hx4, hx5, hw3, hw4] <;> rfl) (by simp [go_sem]) ?_
      first | exact .inr hE | exact .inl (by rw [hs0]; exact hJ0) | exact .inl hJ3
    ·have hke : i3 = (d.kids.drop 2).length := by have e1 := h5; have e2 : (d.kids.drop 2).length = d.kids.length - 2 := List.length_drop; have e3 : i3 ≤ (d.kids.drop 2).length := hi3; simp only [decide_eq_false_iff_not] at e1; rw [e2] at e3 ⊢; omega
     subst hke
     rw [htl1] at hJ3
     refine awp_exit ?_
     refine then_exit ?_
     refine then_exit ?_
     refine inBlock_hit ?_
     refine ends_normal (by simp [go_sem, hb0, hfl2, hb3] <;> rfl) (by simp [go_sem]) ?_
     first | exact .inr hE | exact .inl (by rw [hs0]; exact hJ0) | exact .inl hJ3
   ·refine awp_seq ?_
    refine aR (by simp [go_sem, hb0] <;> rfl) ?_
    refine awp_cond (by first | rfl | (simp [go_sem, hb0] <;> rfl)) (fun h6 => ?_) (fun h6 => ?_)
    ·obtain ⟨bs, hbs⟩ : ∃ z : Nat, z = 0 := ⟨_, rfl⟩
     have htl : TailOk d 2 bs := by rw [hbs]; exact by first | exact tail_let (by simpa using h6 : synKind d = 6) | exact tail_fn (.inl (by simpa using h6 : synKind d = 5)) | exact tail_fn (.inr (by simpa using h6 : synKind d = 9))
     obtain ⟨htl1, htl2⟩ := htl
     have hfl : 2 ≤ d.kids.length := by have h := hsl.1; have h2 := hsl.2.1; have e := h6; simp at e; first | (have := h (.inl e); omega) | (have := h (.inr (.inl e)); omega) | (have := h2 e; omega)
     have hJs : J bs σ := by rw [hbs]; exact hJ0
     refine awp_skip ?_
     refine awp_cond (b := true) (by simp [go_sem, hb0, h0, h2, h4, h6]) (fun h => ?_) (fun h => ?_)
     rotate_left
     ·cases h
     refine aR (by simp [go_sem, hb0] <;> rfl) ?_
     refine awp_seq ?_
     have hfl2 : (2 : Int) ≤ (d.kids.length : Int) := by omega
     refine aR (by simp [go_sem, hb0, hfl2] <;> rfl) ?_
     refine awp_block ?_
     refine awp_loop_headJL 0 [0, 3, 45, 46] (fun p : Nat × Store => [(47, .pv (.int .i64 (p.1 : Int)))]) (fun p => p.2) (fun p => p.1 ≤ (d.kids.drop 2).length ∧ J (bs + p.1) p.2) (fun p => (d.kids.drop 2).length - p.1) (0, σ) (⟨Nat.zero_le _, hJs⟩) ⟨rfl, rfl, by simp [go_sem, hb0, hfl2], by simp [go_sem]⟩ ?_
     rintro ⟨i3, τ3⟩ ⟨hi3, hJ3⟩
     have hb3 := hbox _ τ3 hJ3
     refine awp_seq (aR (by simp [go_sem, hb0, hfl2, hb3] <;> rfl) ?_)
     refine awp_seq (awp_cond (by first | rfl | (simp [go_sem, hb0, hfl2, hb3] <;> rfl)) (fun h7 => ?_) (fun h7 => ?_))
     ·have hlt : i3 < (d.kids.drop 2).length := by simp at h7; simp; omega
      have hxl2 : (d.kids.drop 2).length ≤ d.kids.length := by simp
      obtain ⟨x, hx, hxm⟩ := get_lt hlt
      obtain ⟨q, hq, hqp, hq2⟩ := htl2 i3 x hx
      have hx3 : d.kids[2 + i3]? = some x := by rw [← hx, List.getElem?_drop]
      have hx4 := hx3
      have hx5 : d.kids[i3 + 2]? = some x := by rw [Nat.add_comm]; exact hx3
      try simp only [Nat.zero_add] at hx4
      have hqp2 := hqp
      simp at hqp2
      have hw4 : IntKind.i64.wrap (i3 : Int) = (i3 : Int) := wrap_id (by omega) (by omega)
      have hw : IntKind.i64.wrap ((i3 : Int) + 1) = (i3 : Int) + 1 := wrap_succ (by omega)
      have hw3 : IntKind.i64.wrap ((2 : Int) + (i3 : Int)) = (2 : Int) + (i3 : Int) := wrap_id (by omega) (by omega)
      refine awp_skip ?_
      refine awp_seq (awp_block ?_)
      refine awp_seq (aR (by simp [go_sem, hb0, hfl2, hb3, hx, hx3, hx4, hx5, hw3, hw4] <;> rfl) ?_)
      refine awp_seq (awp_reg ?_)
      refine aL 6 (by simp [go_sem, hb0, hfl2, hb3, hx, hx3, hx4, hx5, hw3, hw4] <;> rfl) ?_
      refine al_yield rfl rfl rfl (by simp [go_sem, hb0, hfl2, hb3, hx, hx3, hx4, hx5, hw3, hw4] <;> rfl) (hround (bs + i3) τ3 q hq hJ3) (by simp [go_sem, hb0, hfl2, hb3, hx, hx3, hx4, hx5, hw3, hw4] <;> rfl) (by simp [go_sem, hb0, hfl2, hb3, hx, hx3, hx4, hx5, hw3, hw4, hqp2, hq2, ipv]) rfl rfl ?_
      rintro r τ4 (⟨rfl, hJ4⟩ | ⟨rfl, hE⟩)
      ·refine aL 1 (by simp [go_sem, hb0, hfl2, hb3, hx, hx3, hx4, hx5, hw3, hw4] <;> rfl) ?_
       refine al_nil ?_
       refine awp_cond (b := false) (by simp [go_sem, hb0, hfl2, hb3, hx, hx3, hx4, hx5, hw3, hw4, h0, h2, h4, h6, h7]) (fun h => ?_) (fun h => ?_)
       ·cases h
       refine awp_skip ?_
       refine aR (by simp [go_sem, hb0, hfl2, hb3, hx, hx3, hx4, hx5, hw3, hw4] <;> rfl) ?_
       exact ⟨(i3 + 1, τ4), ⟨by show i3 + 1 ≤ _; omega, hJ4⟩, by show (d.kids.drop 2).length - (i3 + 1) < (d.kids.drop 2).length - i3; omega, rfl, rfl, by simp [go_sem, hb0, hfl2, hb3, hx, hx3, hx4, hx5, hw3, hw4, hw], by simp [go_sem]⟩
      ·refine aL 1 (by simp [go_sem, hb0, hfl2, hb3, hx, hx3, hx4, hx5, hw3, hw4] <;> rfl) ?_
       refine al_nil ?_
       refine awp_cond (b := true) (by simp [go_sem, hb0, hfl2, hb3, hx, hx3, hx4, hx5, hw3, hw4, h0, h2, h4, h6, h7]) (fun h => ?_) (fun h => ?_)
       rotate_left
       ·cases h
       refine awp_ret ?_
       refine inBlock_ret ?_
       refine then_ret ?_
       refine then_ret ?_
       refine inBlock_ret ?_
       refine ends_ret (by simp [go_sem, hb0, hfl2, hb3, hx, hx3, hx4, hx5, hw3, hw4] <;> rfl) (by simp [go_sem]) ?_
       first | exact .inr hE | exact .inl (by rw [hs0]; exact hJ0) | exact .inl hJ3
     ·have hke : i3 = (d.kids.drop 2).length := by have e1 := h7; have e2 : (d.kids.drop 2).length = d.kids.length - 2 := List.length_drop; have e3 : i3 ≤ (d.kids.drop 2).length := hi3; simp only [decide_eq_false_iff_not] at e1; rw [e2] at e3 ⊢; omega
      subst hke
      rw [htl1] at hJ3
      refine awp_exit ?_
      refine then_exit ?_
      refine then_exit ?_
      refine inBlock_hit ?_
      refine ends_normal (by simp [go_sem, hb0, hfl2, hb3] <;> rfl) (by simp [go_sem]) ?_
      first | exact .inr hE | exact .inl (by rw [hs0]; exact hJ0) | exact .inl hJ3
    ·refine aR (by simp [go_sem, hb0] <;> rfl) ?_
     refine awp_cond (by first | rfl | (simp [go_sem, hb0] <;> rfl)) (fun h8 => ?_) (fun h8 => ?_)
     ·obtain ⟨bs, hbs⟩ : ∃ z : Nat, z = 0 := ⟨_, rfl⟩
      have htl : TailOk d 2 bs := by rw [hbs]; exact by first | exact tail_let (by simpa using h8 : synKind d = 6) | exact tail_fn (.inl (by simpa using h8 : synKind d = 5)) | exact tail_fn (.inr (by simpa using h8 : synKind d = 9))
      obtain ⟨htl1, htl2⟩ := htl
      have hfl : 2 ≤ d.kids.length := by have h := hsl.1; have h2 := hsl.2.1; have e := h8; simp at e; first | (have := h (.inl e); omega) | (have := h (.inr (.inl e)); omega) | (have := h2 e; omega)
      have hJs : J bs σ := by rw [hbs]; exact hJ0
      refine aR (by simp [go_sem, hb0] <;> rfl) ?_
      refine awp_seq ?_
      have hfl2 : (2 : Int) ≤ (d.kids.length : Int) := by omega
      refine aR (by simp [go_sem, hb0, hfl2] <;> rfl) ?_
      refine awp_block ?_
      refine awp_loop_headJL 0 [0, 3, 45, 46] (fun p : Nat × Store => [(47, .pv (.int .i64 (p.1 : Int)))]) (fun p => p.2) (fun p => p.1 ≤ (d.kids.drop 2).length ∧ J (bs + p.1) p.2) (fun p => (d.kids.drop 2).length - p.1) (0, σ) (⟨Nat.zero_le _, hJs⟩) ⟨rfl, rfl, by simp [go_sem, hb0, hfl2], by simp [go_sem]⟩ ?_
      rintro ⟨i3, τ3⟩ ⟨hi3, hJ3⟩
      have hb3 := hbox _ τ3 hJ3
      refine awp_seq (aR (by simp [go_sem, hb0, hfl2, hb3] <;> rfl) ?_)
      refine awp_seq (awp_cond (by first | rfl | (simp [go_sem, hb0, hfl2, hb3] <;> rfl)) (fun h9 => ?_) (fun h9 => ?_))
      ·have hlt : i3 < (d.kids.drop 2).length := by simp at h9; simp; omega
       have hxl2 : (d.kids.drop 2).length ≤ d.kids.length := by simp
       obtain ⟨x, hx, hxm⟩ := get_lt hlt
       obtain ⟨q, hq, hqp, hq2⟩ := htl2 i3 x hx
       have hx3 : d.kids[2 + i3]? = some x := by rw [← hx, List.getElem?_drop]
       have hx4 := hx3
       have hx5 : d.kids[i3 + 2]? = some x := by rw [Nat.add_comm]; exact hx3
       try simp only [Nat.zero_add] at hx4
       have hqp2 := hqp
       simp at hqp2
       have hw4 : IntKind.i64.wrap (i3 : Int) = (i3 : Int) := wrap_id (by omega) (by omega)
       have hw : IntKind.i64.wrap ((i3 : Int) + 1) = (i3 : Int) + 1 := wrap_succ (by omega)
       have hw3 : IntKind.i64.wrap ((2 : Int) + (i3 : Int)) = (2 : Int) + (i3 : Int) := wrap_id (by omega) (by omega)
       refine awp_skip ?_
       refine awp_seq (awp_block ?_)
       refine awp_seq (aR (by simp [go_sem, hb0, hfl2, hb3, hx, hx3, hx4, hx5, hw3, hw4] <;> rfl) ?_)
       refine awp_seq (awp_reg ?_)
       refine aL 6 (by simp [go_sem, hb0, hfl2, hb3, hx, hx3, hx4, hx5, hw3, hw4] <;> rfl) ?_
       refine al_yield rfl rfl rfl (by simp [go_sem, hb0, hfl2, hb3, hx, hx3, hx4, hx5, hw3, hw4] <;> rfl) (hround (bs + i3) τ3 q hq hJ3) (by simp [go_sem, hb0, hfl2, hb3, hx, hx3, hx4, hx5, hw3, hw4] <;> rfl) (by simp [go_sem, hb0, hfl2, hb3, hx, hx3, hx4, hx5, hw3, hw4, hqp2, hq2, ipv]) rfl rfl ?_
       rintro r τ4 (⟨rfl, hJ4⟩ | ⟨rfl, hE⟩)
       ·refine aL 1 (by simp [go_sem, hb0, hfl2, hb3, hx, hx3, hx4, hx5, hw3, hw4] <;> rfl) ?_
        refine al_nil ?_
        refine awp_cond (b := false) (by simp [go_sem, hb0, hfl2, hb3, hx, hx3, hx4, hx5, hw3, hw4, h0, h2, h4, h6, h8, h9]) (fun h => ?_) (fun h => ?_)
        ·cases h
        refine awp_skip ?_
        refine aR (by simp [go_sem, hb0, hfl2, hb3, hx, hx3, hx4, hx5, hw3, hw4] <;> rfl) ?_
        exact ⟨(i3 + 1, τ4), ⟨by show i3 + 1 ≤ _; omega, hJ4⟩, by show (d.kids.drop 2).length - (i3 + 1) < (d.kids.drop 2).length - i3; omega, rfl, rfl, by simp [go_sem, hb0, hfl2, hb3, hx, hx3, hx4, hx5, hw3, hw4, hw], by simp [go_sem]⟩
       ·refine aL 1 (by simp [go_sem, hb0, hfl2, hb3, hx, hx3, hx4, hx5, hw3, hw4] <;> rfl) ?_
        refine al_nil ?_
        refine awp_cond (b := true) (by simp [go_sem, hb0, hfl2, hb3, hx, hx3, hx4, hx5, hw3, hw4, h0, h2, h4, h6, h8, h9]) (fun h => ?_) (fun h => ?_)
        rotate_left
        ·cases h
        refine awp_ret ?_
        refine inBlock_ret ?_
        refine then_ret ?_
        refine then_ret ?_
        refine inBlock_ret ?_
        refine ends_ret (by simp [go_sem, hb0, hfl2, hb3, hx, hx3, hx4, hx5, hw3, hw4] <;> rfl) (by simp [go_sem]) ?_
        first | exact .inr hE | exact .inl (by rw [hs0]; exact hJ0) | exact .inl hJ3
      ·have hke : i3 = (d.kids.drop 2).length := by have e1 := h9; have e2 : (d.kids.drop 2).length = d.kids.length - 2 := List.length_drop; have e3 : i3 ≤ (d.kids.drop 2).length := hi3; simp only [decide_eq_false_iff_not] at e1; rw [e2] at e3 ⊢; omega
       subst hke
       rw [htl1] at hJ3
       refine awp_exit ?_
       refine then_exit ?_
       refine then_exit ?_
       refine inBlock_hit ?_
       refine ends_normal (by simp [go_sem, hb0, hfl2, hb3] <;> rfl) (by simp [go_sem]) ?_
       first | exact .inr hE | exact .inl (by rw [hs0]; exact hJ0) | exact .inl hJ3
     ·refine awp_seq ?_
      refine aR (by simp [go_sem, hb0] <;> rfl) ?_
      refine awp_cond (by first | rfl | (simp [go_sem, hb0] <;> rfl)) (fun h10 => ?_) (fun h10 => ?_)
      ·have hk7 : synKind d = 7 := by simpa using h10
       have hl3 := hsl.1 (.inr (.inr hk7))
       obtain ⟨x1, hx1, hx1m⟩ := get_lt (l := d.kids) (k := 1) (by omega)
       have hd1 : d1 d.kids = x1 := getD_of hx1
       have hxk := D.size_kid_lt hx1m
       have hx1l := D.kids_length_lt x1
       have hrk := hsl.2.2 hk7
       have hrp := fun (i : Nat) (x : D) => rec_part (d := d) (i := i) (x := x) hk7
       rw [hd1] at hrk hrp
       obtain ⟨bs, hbs⟩ : ∃ z : Nat, z = x1.kids.length := ⟨_, rfl⟩
       have htl : TailOk d 2 bs := by rw [hbs]; exact hd1 ▸ tail_rec hk7
       obtain ⟨htl1, htl2⟩ := htl
       have hfl : 2 ≤ d.kids.length := by omega
       refine awp_seq (awp_seq (aR (by simp [go_sem, hb0, hx1] <;> rfl) ?_))
       refine awp_block ?_
       refine awp_loop_headJL 0 [0, 1, 3, 9, 23, 24] (fun p : Nat × Store => [(25, .pv (.int .i64 (p.1 : Int)))]) (fun p => p.2) (fun p => p.1 ≤ x1.kids.length ∧ J p.1 p.2) (fun p => x1.kids.length - p.1) (0, σ) (⟨Nat.zero_le _, hJ0⟩) ⟨rfl, rfl, by simp [go_sem, hb0, hx1], by simp [go_sem]⟩ ?_
       rintro ⟨i, τ⟩ ⟨hi, hJ⟩
       have hbi := hbox i τ hJ
       refine awp_seq (aR (by simp [go_sem, hb0, hx1, hbi] <;> rfl) ?_)
       refine awp_seq (awp_cond (by first | rfl | (simp [go_sem, hb0, hx1, hbi] <;> rfl)) (fun h11 => ?_) (fun h11 => ?_))
       ·have hlt : i < x1.kids.length := by simp at h11; omega
        obtain ⟨x, hx, hxm⟩ := get_lt hlt
        obtain ⟨q, hq, hqp, hq2⟩ := hrp i x hx
        obtain ⟨y2, hy2, hy2m⟩ := get_lt (l := x.kids) (k := 2) (by rw [hrk x hxm]; decide)
        have hyd : d2 x.kids = y2 := getD_of hy2
        rw [hyd] at hq2
        have hw : IntKind.i64.wrap ((i : Int) + 1) = (i : Int) + 1 := wrap_succ (by omega)
        refine awp_skip ?_
        refine awp_seq (awp_block ?_)
        refine awp_seq (aR (by simp [go_sem, hb0, hx1, hbi, hx, hy2] <;> rfl) ?_)
        refine awp_seq (awp_reg ?_)
        refine aL 7 (by simp [go_sem, hb0, hx1, hbi, hx, hy2] <;> rfl) ?_
        refine al_yield rfl rfl rfl (by simp [go_sem, hb0, hx1, hbi, hx, hy2] <;> rfl) (hround i τ q hq hJ) (by simp [go_sem, hb0, hx1, hbi, hx, hy2] <;> rfl) (by simp [go_sem, hb0, hx1, hbi, hx, hy2, hqp, hq2, ipv]) rfl rfl ?_
        rintro r τ2 (⟨rfl, hJ2⟩ | ⟨rfl, hE⟩)
        ·refine aL 1 (by simp [go_sem, hb0, hx1, hbi, hx, hy2] <;> rfl) ?_
         refine al_nil ?_
         refine awp_cond (b := false) (by simp [go_sem, hb0, hx1, hbi, hx, hy2, h0, h2, h4, h6, h8, h10, h11]) (fun h => ?_) (fun h => ?_)
         ·cases h
         refine awp_skip ?_
         refine aR (by simp [go_sem, hb0, hx1, hbi, hx, hy2] <;> rfl) ?_
         exact ⟨(i + 1, τ2), ⟨by show i + 1 ≤ _; omega, hJ2⟩, by show x1.kids.length - (i + 1) < x1.kids.length - i; omega, rfl, rfl, by simp [go_sem, hb0, hx1, hbi, hx, hy2, hw], by simp [go_sem]⟩
        ·refine aL 1 (by simp [go_sem, hb0, hx1, hbi, hx, hy2] <;> rfl) ?_
         refine al_nil ?_
         refine awp_cond (b := true) (by simp [go_sem, hb0, hx1, hbi, hx, hy2, h0, h2, h4, h6, h8, h10, h11]) (fun h => ?_) (fun h => ?_)
         rotate_left
         ·cases h
         refine awp_ret ?_
         refine inBlock_ret ?_
         refine then_ret ?_
         refine then_ret ?_
         refine inBlock_ret ?_
         refine then_ret ?_
         refine inBlock_ret ?_
         refine then_ret ?_
         refine ends_ret (by simp [go_sem, hb0, hx1, hbi, hx, hy2] <;> rfl) (by simp [go_sem]) ?_
         first | exact .inr hE | exact .inl (by rw [hs0]; exact hJ0) | exact .inl hJ3
       ·have hke : i = x1.kids.length := by simp at h11; omega
        subst hke
        have hJs : J bs τ := by rw [hbs]; exact hJ
        refine awp_exit ?_
        refine then_exit ?_
        refine then_exit ?_
        refine inBlock_hit ?_
        refine aR (by simp [go_sem, hb0, hx1, hbi] <;> rfl) ?_
        refine awp_seq ?_
        have hfl2 : (2 : Int) ≤ (d.kids.length : Int) := by omega
        refine aR (by simp [go_sem, hb0, hx1, hbi, hfl2] <;> rfl) ?_
        refine awp_block ?_
        refine awp_loop_headJL 0 [0, 3, 45, 46] (fun p : Nat × Store => [(47, .pv (.int .i64 (p.1 : Int)))]) (fun p => p.2) (fun p => p.1 ≤ (d.kids.drop 2).length ∧ J (bs + p.1) p.2) (fun p => (d.kids.drop 2).length - p.1) (0, τ) (⟨Nat.zero_le _, hJs⟩) ⟨rfl, rfl, by simp [go_sem, hb0, hx1, hbi, hfl2], by simp [go_sem]⟩ ?_
        rintro ⟨i3, τ3⟩ ⟨hi3, hJ3⟩
        have hb3 := hbox _ τ3 hJ3
        refine awp_seq (aR (by simp [go_sem, hb0, hx1, hbi, hfl2, hb3] <;> rfl) ?_)
        refine awp_seq (awp_cond (by first | rfl | (simp [go_sem, hb0, hx1, hbi, hfl2, hb3] <;> rfl)) (fun h12 => ?_) (fun h12 => ?_))
        ·have hlt : i3 < (d.kids.drop 2).length := by simp at h12; simp; omega
         have hxl2 : (d.kids.drop 2).length ≤ d.kids.length := by simp
         obtain ⟨x, hx, hxm⟩ := get_lt hlt
         obtain ⟨q, hq, hqp, hq2⟩ := htl2 i3 x hx
         have hx3 : d.kids[2 + i3]? = some x := by rw [← hx, List.getElem?_drop]
         have hx4 := hx3
         have hx5 : d.kids[i3 + 2]? = some x := by rw [Nat.add_comm]; exact hx3
         try simp only [Nat.zero_add] at hx4
         have hqp2 := hqp
         simp at hqp2
         have hw4 : IntKind.i64.wrap (i3 : Int) = (i3 : Int) := wrap_id (by omega) (by omega)
         have hw : IntKind.i64.wrap ((i3 : Int) + 1) = (i3 : Int) + 1 := wrap_succ (by omega)
         have hw3 : IntKind.i64.wrap ((2 : Int) + (i3 : Int)) = (2 : Int) + (i3 : Int) := wrap_id (by omega) (by omega)
         refine awp_skip ?_
         refine awp_seq (awp_block ?_)
         refine awp_seq (aR (by simp [go_sem, hb0, hx1, hbi, hfl2, hb3, hx, hx3, hx4, hx5, hw3, hw4] <;> rfl) ?_)
         refine awp_seq (awp_reg ?_)
         refine aL 6 (by simp [go_sem, hb0, hx1, hbi, hfl2, hb3, hx, hx3, hx4, hx5, hw3, hw4] <;> rfl) ?_
         refine al_yield rfl rfl rfl (by simp [go_sem, hb0, hx1, hbi, hfl2, hb3, hx, hx3, hx4, hx5, hw3, hw4] <;> rfl) (hround (bs + i3) τ3 q hq hJ3) (by simp [go_sem, hb0, hx1, hbi, hfl2, hb3, hx, hx3, hx4, hx5, hw3, hw4] <;> rfl) (by simp [go_sem, hb0, hx1, hbi, hfl2, hb3, hx, hx3, hx4, hx5, hw3, hw4, hqp2, hq2, ipv]) rfl rfl ?_
         rintro r τ4 (⟨rfl, hJ4⟩ | ⟨rfl, hE⟩)
         ·refine aL 1 (by simp [go_sem, hb0, hx1, hbi, hfl2, hb3, hx, hx3, hx4, hx5, hw3, hw4] <;> rfl) ?_
          refine al_nil ?_
          refine awp_cond (b := false) (by simp [go_sem, hb0, hx1, hbi, hfl2, hb3, hx, hx3, hx4, hx5, hw3, hw4, h0, h2, h4, h6, h8, h10, h12]) (fun h => ?_) (fun h => ?_)
          ·cases h
          refine awp_skip ?_
          refine aR (by simp [go_sem, hb0, hx1, hbi, hfl2, hb3, hx, hx3, hx4, hx5, hw3, hw4] <;> rfl) ?_
          exact ⟨(i3 + 1, τ4), ⟨by show i3 + 1 ≤ _; omega, hJ4⟩, by show (d.kids.drop 2).length - (i3 + 1) < (d.kids.drop 2).length - i3; omega, rfl, rfl, by simp [go_sem, hb0, hx1, hbi, hfl2, hb3, hx, hx3, hx4, hx5, hw3, hw4, hw], by simp [go_sem]⟩
         ·refine aL 1 (by simp [go_sem, hb0, hx1, hbi, hfl2, hb3, hx, hx3, hx4, hx5, hw3, hw4] <;> rfl) ?_
          refine al_nil ?_
          refine awp_cond (b := true) (by simp [go_sem, hb0, hx1, hbi, hfl2, hb3, hx, hx3, hx4, hx5, hw3, hw4, h0, h2, h4, h6, h8, h10, h12]) (fun h => ?_) (fun h => ?_)
          rotate_left
          ·cases h
          refine awp_ret ?_
          refine inBlock_ret ?_
          refine then_ret ?_
          refine then_ret ?_
          refine inBlock_ret ?_
          refine ends_ret (by simp [go_sem, hb0, hx1, hbi, hfl2, hb3, hx, hx3, hx4, hx5, hw3, hw4] <;> rfl) (by simp [go_sem]) ?_
          first | exact .inr hE | exact .inl (by rw [hs0]; exact hJ0) | exact .inl hJ3
        ·have hke : i3 = (d.kids.drop 2).length := by have e1 := h12; have e2 : (d.kids.drop 2).length = d.kids.length - 2 := List.length_drop; have e3 : i3 ≤ (d.kids.drop 2).length := hi3; simp only [decide_eq_false_iff_not] at e1; rw [e2] at e3 ⊢; omega
         subst hke
         rw [htl1] at hJ3
         refine awp_exit ?_
         refine then_exit ?_
         refine then_exit ?_
         refine inBlock_hit ?_
         refine ends_normal (by simp [go_sem, hb0, hx1, hbi, hfl2, hb3] <;> rfl) (by simp [go_sem]) ?_
         first | exact .inr hE | exact .inl (by rw [hs0]; exact hJ0) | exact .inl hJ3
      ·refine awp_seq ?_
       refine aR (by simp [go_sem, hb0] <;> rfl) ?_
       refine awp_cond (by first | rfl | (simp [go_sem, hb0] <;> rfl)) (fun h13 => ?_) (fun h13 => ?_)
       ·obtain ⟨bs, hbs⟩ : ∃ z : Nat, z = 0 := ⟨_, rfl⟩
        have htl : TailOk d 0 bs := by rw [hbs]; exact tail_app (by simpa using h13 : synKind d = 10)
        obtain ⟨htl1, htl2⟩ := htl
        have hfl : 0 ≤ d.kids.length := Nat.zero_le _
        have hJs : J bs σ := by rw [hbs]; exact hJ0
        refine awp_skip ?_
        refine awp_seq ?_
        have hfl2 : (0 : Int) ≤ (d.kids.length : Int) := by omega
        refine aR (by simp [go_sem, hb0, hfl2] <;> rfl) ?_
        refine awp_block ?_
        refine awp_loop_headJL 0 [0, 3, 45, 46] (fun p : Nat × Store => [(47, .pv (.int .i64 (p.1 : Int)))]) (fun p => p.2) (fun p => p.1 ≤ (d.kids.drop 0).length ∧ J (bs + p.1) p.2) (fun p => (d.kids.drop 0).length - p.1) (0, σ) (⟨Nat.zero_le _, hJs⟩) ⟨rfl, rfl, by simp [go_sem, hb0, hfl2], by simp [go_sem]⟩ ?_
        rintro ⟨i3, τ3⟩ ⟨hi3, hJ3⟩
        have hb3 := hbox _ τ3 hJ3
        refine awp_seq (aR (by simp [go_sem, hb0, hfl2, hb3] <;> rfl) ?_)
        refine awp_seq (awp_cond (by first | rfl | (simp [go_sem, hb0, hfl2, hb3] <;> rfl)) (fun h14 => ?_) (fun h14 => ?_))
        ·have hlt : i3 < (d.kids.drop 0).length := by simp at h14; simp; omega
         have hxl2 : (d.kids.drop 0).length ≤ d.kids.length := by simp
         obtain ⟨x, hx, hxm⟩ := get_lt hlt
         obtain ⟨q, hq, hqp, hq2⟩ := htl2 i3 x hx
         have hx3 : d.kids[0 + i3]? = some x := by rw [← hx, List.getElem?_drop]
         have hx4 := hx3
         have hx5 : d.kids[i3 + 0]? = some x := by rw [Nat.add_comm]; exact hx3
         try simp only [Nat.zero_add] at hx4
         have hqp2 := hqp
         simp at hqp2
         have hw4 : IntKind.i64.wrap (i3 : Int) = (i3 : Int) := wrap_id (by omega) (by omega)
         have hw : IntKind.i64.wrap ((i3 : Int) + 1) = (i3 : Int) + 1 := wrap_succ (by omega)
         have hw3 : IntKind.i64.wrap ((0 : Int) + (i3 : Int)) = (0 : Int) + (i3 : Int) := wrap_id (by omega) (by omega)
         refine awp_skip ?_
         refine awp_seq (awp_block ?_)
         refine awp_seq (aR (by simp [go_sem, hb0, hfl2, hb3, hx, hx3, hx4, hx5, hw3, hw4] <;> rfl) ?_)
         refine awp_seq (awp_reg ?_)
         refine aL 6 (by simp [go_sem, hb0, hfl2, hb3, hx, hx3, hx4, hx5, hw3, hw4] <;> rfl) ?_
         refine al_yield rfl rfl rfl (by simp [go_sem, hb0, hfl2, hb3, hx, hx3, hx4, hx5, hw3, hw4] <;> rfl) (hround (bs + i3) τ3 q hq hJ3) (by simp [go_sem, hb0, hfl2, hb3, hx, hx3, hx4, hx5, hw3, hw4] <;> rfl) (by simp [go_sem, hb0, hfl2, hb3, hx, hx3, hx4, hx5, hw3, hw4, hqp2, hq2, ipv]) rfl rfl ?_
         rintro r τ4 (⟨rfl, hJ4⟩ | ⟨rfl, hE⟩)
         ·refine aL 1 (by simp [go_sem, hb0, hfl2, hb3, hx, hx3, hx4, hx5, hw3, hw4] <;> rfl) ?_
          refine al_nil ?_
          refine awp_cond (b := false) (by simp [go_sem, hb0, hfl2, hb3, hx, hx3, hx4, hx5, hw3, hw4, h0, h2, h4, h6, h8, h10, h13, h14]) (fun h => ?_) (fun h => ?_)
          ·cases h
          refine awp_skip ?_
          refine aR (by simp [go_sem, hb0, hfl2, hb3, hx, hx3, hx4, hx5, hw3, hw4] <;> rfl) ?_
          exact ⟨(i3 + 1, τ4), ⟨by show i3 + 1 ≤ _; omega, hJ4⟩, by show (d.kids.drop 0).length - (i3 + 1) < (d.kids.drop 0).length - i3; omega, rfl, rfl, by simp [go_sem, hb0, hfl2, hb3, hx, hx3, hx4, hx5, hw3, hw4, hw], by simp [go_sem]⟩
         ·refine aL 1 (by simp [go_sem, hb0, hfl2, hb3, hx, hx3, hx4, hx5, hw3, hw4] <;> rfl) ?_
          refine al_nil ?_
          refine awp_cond (b := true) (by simp [go_sem, hb0, hfl2, hb3, hx, hx3, hx4, hx5, hw3, hw4, h0, h2, h4, h6, h8, h10, h13, h14]) (fun h => ?_) (fun h => ?_)
          rotate_left
          ·cases h
          refine awp_ret ?_
          refine inBlock_ret ?_
          refine then_ret ?_
          refine then_ret ?_
          refine inBlock_ret ?_
          refine ends_ret (by simp [go_sem, hb0, hfl2, hb3, hx, hx3, hx4, hx5, hw3, hw4] <;> rfl) (by simp [go_sem]) ?_
          first | exact .inr hE | exact .inl (by rw [hs0]; exact hJ0) | exact .inl hJ3
        ·have hke : i3 = (d.kids.drop 0).length := by have e1 := h14; have e2 : (d.kids.drop 0).length = d.kids.length - 0 := List.length_drop; have e3 : i3 ≤ (d.kids.drop 0).length := hi3; simp only [decide_eq_false_iff_not] at e1; rw [e2] at e3 ⊢; omega
         subst hke
         rw [htl1] at hJ3
         refine awp_exit ?_
         refine then_exit ?_
         refine then_exit ?_
         refine inBlock_hit ?_
         refine ends_normal (by simp [go_sem, hb0, hfl2, hb3] <;> rfl) (by simp [go_sem]) ?_
         first | exact .inr hE | exact .inl (by rw [hs0]; exact hJ0) | exact .inl hJ3
       ·have hs0 : subs d = [] := subs_of_none (by have h := Go.Aw.shape d; cases h <;> simp_all)
        refine awp_ret ?_
        refine inBlock_ret ?_
        refine then_ret ?_
        refine ends_ret (by simp [go_sem, hb0] <;> rfl) (by simp [go_sem]) ?_
        first | exact .inr hE | exact .inl (by rw [hs0]; exact hJ0) | exact .inl hJ3

end Go.Proofs.YtnibcmaaehkhlaaGreatDoor

namespace Go.Proofs.YtnibcmaaehkhlaaGreatDoor
open Go Go.Aw
variable {kr : KR}
set_option maxHeartbeats 1000000 in
theorem c_ConcatN (p : List Int) (hp : p.length ≤ 1000000000) : Pur Tryz.prog (GL kr) 140 [.pv (.slice [.slice (ipv p), .nils])] (.pv (.slice (ipv p))) := by
 have hw0 : IntKind.i64.wrap (p.length : Int) = (p.length : Int) := wrap_id (by omega) (by omega)
 have hw1 : IntKind.i64.wrap 1 = 1 := by decide
 have hw2 : IntKind.i64.wrap 2 = 2 := by decide
 have hlp := ipv_len p
 have hb8 : p.length * 8 ≤ 140737488355328 := by omega
 refine pur_of fun σ hgl => ?_
 refine acalls_of tyOk Tryz.func140 rfl (by simp [Tryz.f140]) ?_
 refine awp_seq (aR (by simp [go_sem, hw0, hw1, hw2, hlp, hb8] <;> rfl) ?_)
 refine awp_seq (aR (by simp [go_sem, hw0, hw1, hw2, hlp, hb8] <;> rfl) ?_)
 refine awp_seq (awp_seq (aR (by simp [go_sem, hw0, hw1, hw2, hlp, hb8] <;> rfl) ?_))
 refine awp_block ?_
 refine awp_loopL (awpL_round ?_)
 refine awp_seq (aR (by simp [go_sem, hw0, hw1, hw2, hlp, hb8] <;> rfl) ?_)
 refine awp_seq (awp_cond (b := true) (by simp [go_sem, hw0, hw1, hw2, hlp, hb8]) (fun h => ?_) (fun h => ?_))
 rotate_left
 ·cases h
 refine awp_skip ?_
 refine awp_seq (awp_block ?_)
 refine awp_seq (aR (by simp [go_sem, hw0, hw1, hw2, hlp, hb8] <;> rfl) ?_)
 refine awp_seq (aR (by simp [go_sem, hw0, hw1, hw2, hlp, hb8] <;> rfl) ?_)
 refine awp_seq (aR (by simp [go_sem, hw0, hw1, hw2, hlp, hb8] <;> rfl) ?_)
 refine awp_cond (by first | rfl | (simp [go_sem, hw0, hw1, hw2, hlp, hb8] <;> rfl)) (fun h0 => ?_) (fun h0 => ?_)
 ·exfalso; have h := h0; simp at h; omega
 ·refine awp_skip ?_
  refine aR (by simp [go_sem, hw0, hw1, hw2, hlp, hb8] <;> rfl) ?_
  refine awpL_round ?_
  refine awp_seq (aR (by simp [go_sem, hw0, hw1, hw2, hlp, hb8] <;> rfl) ?_)
  refine awp_seq (awp_cond (b := true) (by simp [go_sem, hw0, hw1, hw2, hlp, hb8, h0]) (fun h => ?_) (fun h => ?_))
  rotate_left
  ·cases h
  refine awp_skip ?_
  refine awp_seq (awp_block ?_)
  refine awp_seq (aR (by simp [go_sem, hw0, hw1, hw2, hlp, hb8] <;> rfl) ?_)
  refine awp_seq (aR (by simp [go_sem, hw0, hw1, hw2, hlp, hb8] <;> rfl) ?_)
  refine awp_seq (aR (by simp [go_sem, hw0, hw1, hw2, hlp, hb8] <;> rfl) ?_)
  refine awp_cond (by first | rfl | (simp [go_sem, hw0, hw1, hw2, hlp, hb8] <;> rfl)) (fun h1 => ?_) (fun h1 => ?_)
  ·exfalso; have h := h1; simp at h; omega
  ·refine awp_skip ?_
   refine aR (by simp [go_sem, hw0, hw1, hw2, hlp, hb8] <;> rfl) ?_
   refine awpL_round ?_
   refine awp_seq (aR (by simp [go_sem, hw0, hw1, hw2, hlp, hb8] <;> rfl) ?_)
   refine awp_seq (awp_cond (b := false) (by simp [go_sem, hw0, hw1, hw2, hlp, hb8, h0, h1]) (fun h => ?_) (fun h => ?_))
   ·cases h
   refine awp_exit ?_
   refine then_exit ?_
   refine then_exit ?_
   refine inBlock_hit ?_
   refine awp_seq (awp_reg ?_)
   refine aL 1 (by simp [go_sem, hw0, hw1, hw2, hlp, hb8] <;> rfl) ?_
   refine al_callW rfl rfl rfl (by simp [go_sem, hw0, hw1, hw2, hlp, hb8] <;> rfl) call216 (c_Grow p.length (by omega) σ) (by simp [go_sem, hw0, hw1, hw2, hlp, hb8] <;> rfl) (by simp [go_sem, hw0, hw1, hw2, hlp, hb8]) rfl rfl ?_
   rintro r σ' ⟨rfl, rfl⟩
   refine aL 1 (by simp [go_sem, hw0, hw1, hw2, hlp, hb8] <;> rfl) ?_
   refine al_nil ?_
   refine awp_seq (awp_seq (aR (by simp [go_sem, hw0, hw1, hw2, hlp, hb8] <;> rfl) ?_))
   refine awp_block ?_
   refine awp_loopL (awpL_round ?_)
   refine awp_seq (aR (by simp [go_sem, hw0, hw1, hw2, hlp, hb8] <;> rfl) ?_)
   refine awp_seq (awp_cond (b := true) (by simp [go_sem, hw0, hw1, hw2, hlp, hb8, h0, h1]) (fun h => ?_) (fun h => ?_))
   rotate_left
   ·cases h
   refine awp_skip ?_
   refine awp_seq (awp_block ?_)
   refine awp_seq (aR (by simp [go_sem, hw0, hw1, hw2, hlp, hb8] <;> rfl) ?_)
   refine aR (by simp [go_sem, hw0, hw1, hw2, hlp, hb8] <;> rfl) ?_
   refine aR (by simp [go_sem, hw0, hw1, hw2, hlp, hb8] <;> rfl) ?_
   refine awpL_round ?_
   refine awp_seq (aR (by simp [go_sem, hw0, hw1, hw2, hlp, hb8] <;> rfl) ?_)
   refine awp_seq (awp_cond (b := true) (by simp [go_sem, hw0, hw1, hw2, hlp, hb8, h0, h1]) (fun h => ?_) (fun h => ?_))
   rotate_left
   ·cases h
   refine awp_skip ?_
   refine awp_seq (awp_block ?_)
   refine awp_seq (aR (by simp [go_sem, hw0, hw1, hw2, hlp, hb8] <;> rfl) ?_)
   refine aR (by simp [go_sem, hw0, hw1, hw2, hlp, hb8] <;> rfl) ?_
   refine aR (by simp [go_sem, hw0, hw1, hw2, hlp, hb8] <;> rfl) ?_
   refine awpL_round ?_
   refine awp_seq (aR (by simp [go_sem, hw0, hw1, hw2, hlp, hb8] <;> rfl) ?_)
   refine awp_seq (awp_cond (b := false) (by simp [go_sem, hw0, hw1, hw2, hlp, hb8, h0, h1]) (fun h => ?_) (fun h => ?_))
   ·cases h
   refine awp_exit ?_
   refine then_exit ?_
   refine then_exit ?_
   refine inBlock_hit ?_
   refine awp_seq (aR (by simp [go_sem, hw0, hw1, hw2, hlp, hb8] <;> rfl) ?_)
   refine awp_ret ?_
   refine ends_ret (by simp [go_sem, hw0, hw1, hw2, hlp, hb8] <;> rfl) (by simp [go_sem]) ?_
   exact ⟨by simp [go_sem, hw0, hw1, hw2, hlp, hb8, h0, h1], by simp [go_sem]⟩

theorem wrConcat (q p : List Int) (hq : q.length ≤ 100000000) (hp : p.length ≤ 400000000) : Pur Tryz.prog (GL kr) 140 [.pv (.slice [.slice (ipv q), wPV p])] (.pv (.slice (ipv (q ++ p)))) := by
  by_cases h : p = []
  · subst h
    rw [List.append_nil]
    exact c_ConcatN q (by omega)
  · have e : wPV p = .slice (ipv p) := by unfold wPV; rw [if_neg h]; rfl
    have hf : q ++ p = [q, p].flatten := by simp
    rw [e, hf]
    exact c_Concat [q, p] (by simp) (by simp; omega)
/-- The store when the search is over: a part without a form was found. -/
structure WrSt (σ : Store) (cs cs1 : List AV) (l : Nat) (st : LoopState) (pe : Option Code) (τ : Store) : Prop where
  gl : τ.gl = σ.gl
  toks : τ.toks = σ.toks
  low : τ.objs.take σ.objs.length = σ.objs
  b0 : τ.objs[σ.objs.length]? = some (.box cs)
  b1 : τ.objs[σ.objs.length + 1]? = some (.box cs1)
  loop : ∃ T N ps asg body, τ.objs[σ.objs.length + 3]? = some (.loop l st pe T N ps asg body)

set_option maxHeartbeats 1000000 in
theorem c_wrong (d : D) : ∀ (hd : d.size ≤ 100000000) (σ : Store) (hgl : σ.gl = (GL kr)), PurAt Tryz.prog σ 69 [.pv (enc d)] (.tuple [.pv (wpath d), .pv (.bool (!synOk d))]) := by
 induction d using D.indS with
 | _ d ih =>
 intro hd σ hgl
 refine purAt_of ?_
 refine acalls_of tyOk Tryz.func69 rfl (by simp [Tryz.f69]) ?_
 refine awp_seq (awp_region_run (sh := [2, 3]) tyOk (by simp [go_sem] <;> rfl) ?_)
 refine awp_seq (awp_seq (awp_reg ?_))
 refine aL 1 (by simp [go_sem] <;> rfl) ?_
 refine aF call138 ((c_Kind d (by omega)) _ (by exact hgl)) (by simp [go_sem] <;> rfl) (by simp [go_sem]) ?_
 refine aL 1 (by simp [go_sem] <;> rfl) ?_
 refine al_nil ?_
 refine awp_cond (by first | rfl | (simp [go_sem] <;> rfl)) (fun h0 => ?_) (fun h0 => ?_)
 ·have hk0 : synKind d = 0 := by simpa using h0
  refine awp_seq (aR (by simp [go_sem] <;> rfl) ?_)
  refine awp_ret ?_
  refine then_ret ?_
  have hM : swr d = some [] := by rw [swr_eq, if_pos (by simpa using hk0)]
  refine ends_ret (by simp [go_sem] <;> rfl) (by simp [go_sem]) ?_
  exact ⟨by simp [go_sem, (wr_some hM).1, (wr_some hM).2, wPV], by simp [go_sem]⟩
 ·have hk0 : synKind d ≠ 0 := by simpa using h0
  refine awp_skip ?_
  refine awp_seq (awp_seq (awp_reg ?_))
  refine aL 1 (by simp [go_sem] <;> rfl) ?_
  refine al_callW rfl rfl rfl (by simp [go_sem] <;> rfl) call139 (c_PartsMk d _) (by simp [go_sem] <;> rfl) (by simp [go_sem]) rfl rfl ?_
  rintro r σ' ⟨rfl, rfl⟩
  refine al_nil ?_
  refine awp_block ?_
  refine awp_rangeFunc [2, 3] (by simp [go_sem] <;> rfl) call215 (by simp [go_sem]) (by simp [go_sem, keepT]) (by decide) fun l => ?_
  refine acalls_gen ?_
  intro ST hST
  simp only [go_sem, keepT, List.map_cons, List.map_nil, List.append_assoc, List.cons_append, List.nil_append] at hST
  have hb0 : ST.objs[σ.objs.length]? = some (.box [.pv .nils]) := by rw [hST]; simp [go_sem]
  have hb1 : ST.objs[σ.objs.length + 1]? = some (.box [.pv (.bool false)]) := by rw [hST]; simp [go_sem]
  have hb2 : ST.objs[σ.objs.length + 2]? = some (.box [.pv (.int .i64 d.kind), .pv (.int .i64 d.num), .pv (.str d.text), .pv (.slice (d.kids.map enc))]) := by rw [hST]; simp [go_sem]
  have hglS : ST.gl = σ.gl := by rw [hST]
  have hts : ST.toks = σ.toks := by rw [hST]
  have hlow : ST.objs.take σ.objs.length = σ.objs := by rw [hST]; simp [go_sem]
  have hlen : ST.objs.length = σ.objs.length + 4 := by rw [hST]; simp [go_sem]
  obtain ⟨T0, ps0, as0, bd0, hL⟩ : ∃ T0 ps0 as0 bd0, ST.objs[σ.objs.length + 3]? = some (.loop l .ready none T0 25 ps0 as0 bd0) := ⟨_, _, _, _, by rw [hST]; exact get_app4⟩
  have hround : ∀ (i : Nat) (τ : Store) (q : Sub × D), (subs d)[i]? = some q → (τ = ST ∧ NoWr d i) → ACallsY Tryz.prog l [.pv (.slice (ipv q.1.p)), .pv (enc q.2)] τ fun r τ' => (r = .pv (.bool true) ∧ τ' = ST ∧ NoWr d (i + 1)) ∨ (r = .pv (.bool false) ∧ ∃ p : List Int, swr d = some p ∧ 1 ≤ p.length ∧ WrSt σ [.pv (.slice (ipv p))] [.pv (.bool true)] l .done (some .ret) τ') := by
   rintro i τ q hq ⟨hτ, hno⟩
   rw [hτ]
   have hqm : q ∈ subs d := List.mem_of_getElem? hq
   have hqs := subs_lt hqm
   have hqp := subs_plen hqm
   refine acallsY_of (o := σ.objs.length + 3) (by rw [hST]; exact get_app4) rfl rfl ?_
   refine awp_seq (aR (by simp [go_sem, hb0, hb1, hL, set_ne, set_at, wpath_cells] <;> rfl) ?_)
   refine aR (by simp [go_sem, hb0, hb1, hL, set_ne, set_at, wpath_cells] <;> rfl) ?_
   refine ⟨_, _, _, _, _, _, Eq.trans (b := some (.loop l .ready none T0 25 ps0 as0 bd0)) (by simp [go_sem, hb0, hb1, hL, set_ne, set_at, wpath_cells]) rfl, ?_⟩
   refine awp_block ?_
   refine awp_seq (awp_reg ?_)
   refine aL 1 (by simp [go_sem, hb0, hb1, hL, set_ne, set_at, wpath_cells] <;> rfl) ?_
   refine aF call69 (ih q hqm (by omega) _ (by exact hglS.trans hgl)) (by simp [go_sem, hb0, hb1, hL, set_ne, set_at, wpath_cells] <;> rfl) (by simp [go_sem, hb0, hb1, hL, set_ne, set_at, wpath_cells]) ?_
   refine aL 5 (by simp [go_sem, hb0, hb1, hL, set_ne, set_at, wpath_cells] <;> rfl) ?_
   refine al_nil ?_
   refine awp_seq (aR (by simp [go_sem, hb0, hb1, hL, set_ne, set_at, wpath_cells] <;> rfl) ?_)
   refine awp_cond (by first | rfl | (simp [go_sem, hb0, hb1, hL, set_ne, set_at, wpath_cells] <;> rfl)) (fun h1 => ?_) (fun h1 => ?_)
   ·obtain ⟨p2, hp2⟩ : ∃ p2, swr q.2 = some p2 := swr_is (by simpa using h1)
    have hwp : wpath q.2 = wPV p2 := (wr_some hp2).1
    have hpl := swr_len _ _ hp2
    have hcl := wPV_cells p2
    have hcn := wPV_nrm p2
    unfold PV.nrm at hcn
    refine awp_seq (awp_reg ?_)
    refine aL 3 (by simp [go_sem, hb0, hb1, hL, set_ne, set_at, wpath_cells, hwp, hcl, hcn] <;> rfl) ?_
    refine aF call140 ((wrConcat q.1.p p2 (by omega) (by omega)) _ (by exact hglS.trans hgl)) (by simp [go_sem, hb0, hb1, hL, set_ne, set_at, wpath_cells, hwp, hcl, hcn] <;> rfl) (by simp [go_sem, hb0, hb1, hL, set_ne, set_at, wpath_cells, hwp, hcl, hcn]) ?_
    refine aL 2 (by simp [go_sem, hb0, hb1, hL, set_ne, set_at, wpath_cells, hwp, hcl, hcn] <;> rfl) ?_
    refine al_nil ?_
    refine awp_ret ?_
    refine inBlock_ret ?_
    refine ⟨_, _, _, _, _, _, Eq.trans (b := some (.loop l .busy none T0 25 ps0 as0 bd0)) (by simp [go_sem, hb0, hb1, hL, set_ne, set_at, wpath_cells, hwp, hcl, hcn]) rfl, ?_⟩
    refine .inr ⟨rfl, q.1.p ++ p2, hno.found hk0 hq hp2, by rw [List.length_append]; omega, ?_⟩
    refine ⟨?_, ?_, ?_, ?_, ?_, ?_⟩
    · exact hglS
    · exact hts
    · simp [Store.rec_, go_sem, take_set_le, hlow]
    · simp [Store.rec_, go_sem, set_ne, set_at, hb0]
    · simp [Store.rec_, go_sem, set_ne, set_at, hb1]
    · exact ⟨T0, 25, ps0, as0, bd0, by simp [Store.rec_, go_sem, set_ne, set_at, hL]⟩
   ·refine awp_skip ?_
    refine ⟨_, _, _, _, _, _, Eq.trans (b := some (.loop l .busy none T0 25 ps0 as0 bd0)) (by simp [go_sem, hb0, hb1, hL, set_ne, set_at, wpath_cells]) rfl, ?_⟩
    refine .inl ⟨rfl, ?_, hno.succ hq (swr_no (by simpa using h1))⟩
    simp only [Store.rec_, List.set_set]
    rw [set_self hL]
  refine (ACalls.args (c_PartsIt d (by omega) (σ.objs.length + 2) l (fun i τ => τ = ST ∧ NoWr d i) (fun τ => ∃ p : List Int, swr d = some p ∧ 1 ≤ p.length ∧ WrSt σ [.pv (.slice (ipv p))] [.pv (.bool true)] l .done (some .ret) τ) (fun i τ h => by rw [h.1]; exact hglS.trans hgl) (fun i τ h => by rw [h.1]; exact hb2) hround ST ⟨rfl, .zero⟩) (by simp [go_sem])).mono ?_
  rintro _ τ' (⟨hτ, hno⟩ | ⟨p, hp, hp1, hgl2, htk2, hlo2, hc0, hc1, T1, N1, ps1, as1, bd1, hc3⟩)
  ·rw [hτ]
   have hln := hno.all hk0
   refine ⟨_, _, _, _, _, _, _, Eq.trans (b := some (.loop l .ready none T0 25 ps0 as0 bd0)) (by simp [go_sem, hL, hb0, hb1, set_ne, set_at]) rfl, by decide, ?_⟩
   refine awp_seq (aR (by simp [go_sem, hL, hb0, hb1, set_ne, set_at] <;> rfl) ?_)
   refine awp_ret ?_
   refine ends_ret (by simp [go_sem, hb0, hb1, hL, set_ne, set_at] <;> rfl) (by simp [go_sem]) ?_
   exact ⟨by simp [go_sem, (wr_none hln).1, (wr_none hln).2], by simp [go_sem, take_set_le, hlow, hts, hglS]⟩
  ·refine ⟨_, _, _, _, _, _, _, Eq.trans (b := some (.loop l .done (some .ret) T1 N1 ps1 as1 bd1)) (by simp [go_sem, hc0, hc1, hc3, set_ne, set_at]) rfl, by decide, ?_⟩
   refine awp_ret ?_
   refine inBlock_ret ?_
   refine then_ret ?_
   have hpw : wPV p = .slice (ipv p) := by unfold wPV; rw [if_neg (by intro e; rw [e] at hp1; simp at hp1)]; rfl
   refine ends_ret (by simp [go_sem, hc0, hc1, hc3, set_ne, set_at] <;> rfl) (by simp [go_sem]) ?_
   exact ⟨by simp [go_sem, (wr_some hp).1, (wr_some hp).2, hpw], by simp [go_sem, take_set_le, hlo2, htk2, hgl2]⟩

/-- What Check and Is say. -/
def schk (d : D) : PV × Int := if (dcheck d != 0) = true then (.nils, dcheck d) else if (!synOk d) = true then (wpath d, 4) else (.nils, 0)
def sis (d : D) : Int := (schk d).2

set_option maxHeartbeats 1000000 in
theorem c_sCheck (d : D) (hd : d.size ≤ 100000000) : Pur Tryz.prog (GL kr) 19 [.pv (enc d)] (.tuple [.pv (schk d).1, .pv (.int .i64 (schk d).2)]) := by
 refine pur_of fun σ hgl => ?_
 refine acalls_of tyOk Tryz.func19 rfl (by simp [Tryz.f19]) ?_
 refine awp_seq (aR (by simp [go_sem] <;> rfl) ?_)
 refine awp_seq (awp_seq (awp_reg ?_))
 refine aL 1 (by simp [go_sem] <;> rfl) ?_
 refine aF call63 ((c_datum_Check d (by omega)) _ (by exact hgl)) (by simp [go_sem] <;> rfl) (by simp [go_sem]) ?_
 refine aL 1 (by simp [go_sem] <;> rfl) ?_
 refine al_nil ?_
 refine awp_seq (aR (by simp [go_sem] <;> rfl) ?_)
 refine awp_cond (by first | rfl | (simp [go_sem] <;> rfl)) (fun h0 => ?_) (fun h0 => ?_)
 ·refine awp_seq ?_
  refine aR (by simp [go_sem] <;> rfl) ?_
  refine awp_ret ?_
  refine then_ret ?_
  refine ends_ret (by simp [go_sem] <;> rfl) (by simp [go_sem]) ?_
  exact ⟨by simp only [schk, h0, bA, bB, bC, bD, bE, bF, bG, bH, bI, bJ, Bool.false_eq_true, if_true, if_false]; simp [go_sem], by simp [go_sem]⟩
 ·refine awp_skip ?_
  refine awp_seq (awp_seq (awp_reg ?_))
  refine aL 1 (by simp [go_sem] <;> rfl) ?_
  refine aF call69 (c_wrong d hd _ (by exact hgl)) (by simp [go_sem] <;> rfl) (by simp [go_sem]) ?_
  refine aL 5 (by simp [go_sem] <;> rfl) ?_
  refine al_nil ?_
  refine awp_seq (aR (by simp [go_sem] <;> rfl) ?_)
  refine awp_cond (by first | rfl | (simp [go_sem] <;> rfl)) (fun h1 => ?_) (fun h1 => ?_)
  ·refine awp_seq ?_
   refine aR (by simp [go_sem] <;> rfl) ?_
   refine awp_ret ?_
   refine then_ret ?_
   refine ends_ret (by simp [go_sem] <;> rfl) (by simp [go_sem]) ?_
   exact ⟨by simp only [schk, h0, h1, bA, bB, bC, bD, bE, bF, bG, bH, bI, bJ, Bool.false_eq_true, if_true, if_false]; simp [go_sem], by simp [go_sem]⟩
  ·refine awp_skip ?_
   refine awp_seq (aR (by simp [go_sem] <;> rfl) ?_)
   refine awp_ret ?_
   refine ends_ret (by simp [go_sem] <;> rfl) (by simp [go_sem]) ?_
   exact ⟨by simp only [schk, h0, h1, bA, bB, bC, bD, bE, bF, bG, bH, bI, bJ, Bool.false_eq_true, if_true, if_false]; simp [go_sem], by simp [go_sem]⟩

set_option maxHeartbeats 1000000 in
theorem c_sIs (d : D) (hd : d.size ≤ 100000000) : Pur Tryz.prog (GL kr) 70 [.pv (enc d)] (.pv (.int .i64 (sis d))) := by
 refine pur_of fun σ hgl => ?_
 refine acalls_of tyOk Tryz.func70 rfl (by simp [Tryz.f70]) ?_
 refine awp_seq (aR (by simp [go_sem] <;> rfl) ?_)
 refine awp_seq (awp_reg ?_)
 refine aL 1 (by simp [go_sem] <;> rfl) ?_
 refine aF call19 ((c_sCheck d hd) _ (by exact hgl)) (by simp [go_sem] <;> rfl) (by simp [go_sem]) ?_
 refine aL 5 (by simp [go_sem] <;> rfl) ?_
 refine al_nil ?_
 refine awp_seq (aR (by simp [go_sem] <;> rfl) ?_)
 refine awp_ret ?_
 refine ends_ret (by simp [go_sem] <;> rfl) (by simp [go_sem]) ?_
 exact ⟨by simp only [sis, bA, bB, bC, bD, bE, bF, bG, bH, bI, bJ, Bool.false_eq_true, if_true, if_false]; simp [go_sem], by simp [go_sem]⟩

end Go.Proofs.YtnibcmaaehkhlaaGreatDoor

namespace Go.Proofs.YtnibcmaaehkhlaaGreatDoor
open Go Go.Aw
variable {kr : KR}
set_option maxHeartbeats 1000000 in
theorem c_of (l : List ByteArray) (x : ByteArray) : Pur Tryz.prog (GL kr) 234 [.pv (encSc l), .pv (.str x)] (.tuple [.pv (.bool false), .pv (.bool (memB l x))]) := by
 have h0l : encSc l = encSc (l.drop 0) := rfl
 refine pur_of fun σ hgl => ?_
 refine acalls_of tyOk Tryz.func234 rfl (by simp [Tryz.f234]) ?_
 refine awp_seq (aR (by simp [go_sem] <;> rfl) ?_)
 refine awp_seq (awp_block ?_)
 refine awp_loop_headK σ.objs.length σ.toks.length 0 [1, 4, 5] (fun k : Nat => [(0, .pv (encSc (l.drop k)))]) (fun k => σ) (fun k => k ≤ l.length ∧ NotYet (fun y => decide (y = x)) l k) (fun k => l.length - k) 0 (⟨Nat.zero_le _, .zero⟩) ⟨by simp [go_sem, List.drop_zero], rfl, by simp, by simp, by simp [go_sem, List.drop_zero], fun ob h => .inl (by simpa [go_sem, List.drop_zero] using h), by simp [go_sem]⟩ ?_
 rintro k ⟨hk, hn⟩
 refine awp_seq (awp_seq (awp_reg ?_))
 refine aL 1 (by simp [go_sem] <;> rfl) ?_
 refine al_ptrNe tyOk (decide (k < l.length)) rfl rfl rfl rfl (encSc_ne l k) rfl rfl ?_
 refine al_nil ?_
 refine awp_cond (by first | rfl | (simp [go_sem] <;> rfl)) (fun h0 => ?_) (fun h0 => ?_)
 ·have hlt : k < l.length := by simpa using h0
  obtain ⟨y, hy, hym⟩ := get_lt hlt
  have hyc := encSc_at hy
  refine awp_skip ?_
  refine awp_seq (awp_block ?_)
  refine awp_seq (aR (by simp [go_sem, hyc] <;> rfl) ?_)
  refine awp_cond (by first | rfl | (simp [go_sem, hyc] <;> rfl)) (fun h1 => ?_) (fun h1 => ?_)
  ·refine awp_seq ?_
   refine aR (by simp [go_sem, hyc] <;> rfl) ?_
   refine awp_ret ?_
   refine inBlock_ret ?_
   refine then_ret ?_
   refine then_ret ?_
   refine inBlock_ret ?_
   refine then_ret ?_
   have hM : memB l x = true := by rw [memB_any]; exact List.any_eq_true.2 ⟨y, hym, h1⟩
   refine ends_ret (by simp [go_sem, hyc] <;> rfl) (by simp [go_sem]) ?_
   exact ⟨by simp [go_sem, hM], by simp [go_sem]⟩
  ·refine awp_skip ?_
   refine aR (by simp [go_sem, hyc] <;> rfl) ?_
   exact next_intro (k + 1) σ.objs.length σ.toks.length 0 (⟨hlt, hn.succ hy h1⟩) (by omega) ⟨by simp [go_sem, hyc], rfl, by simp, by simp, by simp [go_sem, hyc], fun ob h => .inl (by simpa [go_sem, hyc] using h), by simp [go_sem]⟩
 ·have hke : k = l.length := by simp at h0; omega
  subst hke
  have hany := hn.any
  refine awp_exit ?_
  refine then_exit ?_
  refine then_exit ?_
  refine inBlock_hit ?_
  refine awp_seq (aR (by simp [go_sem] <;> rfl) ?_)
  refine awp_seq (aR (by simp [go_sem] <;> rfl) ?_)
  refine awp_ret ?_
  have hM : memB l x = false := by rw [memB_any]; exact hany
  refine ends_ret (by simp [go_sem] <;> rfl) (by simp [go_sem]) ?_
  exact ⟨by simp [go_sem, hM], by simp [go_sem]⟩

set_option maxHeartbeats 1000000 in
theorem c_scWith (l ns : List ByteArray) (hn : ns.length ≤ 1000000000) : Pur Tryz.prog (GL kr) 235 [.pv (encSc l), .pv (.slice (ns.map .str)), .full (List.replicate ns.length (.bool false))] (.pv (encSc (ns.reverse ++ l))) := by
 refine pur_of fun σ hgl => ?_
 refine acalls_of tyOk Tryz.func235 rfl (by simp [Tryz.f235]) ?_
 refine awp_seq (aR (by simp [go_sem] <;> rfl) ?_)
 refine awp_seq (awp_seq (aR (by simp [go_sem] <;> rfl) ?_))
 refine awp_block ?_
 refine awp_loop_headK σ.objs.length σ.toks.length 0 [2, 6, 9, 10] (fun k : Nat => [(0, .pv (encSc ((ns.take k).reverse ++ l))), (11, .pv (.int .i64 ↑k))]) (fun k => σ) (fun k => k ≤ ns.length) (fun k => ns.length - k) 0 (Nat.zero_le _) ⟨by simp [go_sem], rfl, by simp, by simp, by simp [go_sem], fun ob h => .inl (by simpa [go_sem] using h), by simp [go_sem]⟩ ?_
 intro k hk
 refine awp_seq (aR (by simp [go_sem] <;> rfl) ?_)
 refine awp_seq (awp_cond (by first | rfl | (simp [go_sem] <;> rfl)) (fun h0 => ?_) (fun h0 => ?_))
 ·have hlt : k < ns.length := by simp at h0; omega
  have hw : IntKind.i64.wrap (↑k + 1) = (k : Int) + 1 := wrap_succ (by omega)
  obtain ⟨x, hx, hxm⟩ := get_lt hlt
  have hrg : (List.replicate ns.length (PV.bool false))[k]? = some (PV.bool false) := rep_get hlt
  refine awp_skip ?_
  refine awp_seq (awp_block ?_)
  refine awp_seq (aR (by simp [go_sem, hx, hrg] <;> rfl) ?_)
  refine awp_region_run (sh := [23]) tyOk (by simp [go_sem, hx, hrg] <;> rfl) ?_
  have hob : (⟨σ.gl, σ.objs ++ [.box [.pv (.str x), .pv (.bool false), .pv (encSc ((ns.take k).reverse ++ l))]], σ.toks⟩ : Store).objs[σ.objs.length]? = some (.box (([.str x, .bool false, encSc ((ns.take k).reverse ++ l)] : List PV).map .pv)) := by simp
  refine awp_freezePK 0 [2, 6, 9, 10, 11] σ (ob := σ.objs.length) (ps := [.str x, .bool false, encSc ((ns.take k).reverse ++ l)]) (by simp [go_sem]) (by simp [go_sem]) (by simp [go_sem]) (Nat.le_refl _) (Nat.le_refl _) (by simp [go_sem]) (fun ob h => .inl h) (by simp [go_sem]) ?_
  rw [encSc_with hx]
  refine aR (by simp [go_sem, hx, hrg] <;> rfl) ?_
  exact next_intro (k + 1) σ.objs.length σ.toks.length 0 (hlt) (by omega) ⟨by simp [go_sem, hx, hrg, hw], rfl, by simp, by simp, by simp [go_sem, hx, hrg, hw], fun ob h => .inl (by simpa [go_sem, hx, hrg, hw] using h), by simp [go_sem]⟩
 ·have hke : k = ns.length := by simp at h0; omega
  subst hke
  refine awp_exit ?_
  refine then_exit ?_
  refine then_exit ?_
  refine inBlock_hit ?_
  refine awp_seq (aR (by simp [go_sem] <;> rfl) ?_)
  refine awp_ret ?_
  refine ends_ret (by simp [go_sem] <;> rfl) (by simp [go_sem]) ?_
  exact ⟨by simp [go_sem], by simp [go_sem]⟩

set_option maxHeartbeats 1000000 in
theorem c_free1 (d : D) (p : AV) (ns : List ByteArray) (hn : ns.length ≤ 1000000000) (n : Int) : Pur Tryz.prog (GL kr) 179 [.pv (enc d), p, .pv (.slice (ns.map .str)), .pv (.int .i64 n)] (.full (List.replicate ns.length (.bool false))) := by
 refine pur_of fun σ hgl => ?_
 refine acalls_of tyOk Tryz.func179 rfl (by simp [Tryz.f179]) ?_
 refine awp_seq (aR (by simp [go_sem] <;> rfl) ?_)
 refine awp_seq (awp_reg ?_)
 refine aL 2 (by simp [go_sem] <;> rfl) ?_
 refine al_makeSlice tyOk (n := ns.length) (p := .bool false) rfl rfl rfl rfl rfl rfl rfl (by simp [go_sem]) (by simp [go_sem]) (by decide) hn rfl ?_
 refine aL 1 (by simp [go_sem] <;> rfl) ?_
 refine al_nil ?_
 refine awp_ret ?_
 refine ends_ret (by simp [go_sem] <;> rfl) (by simp [go_sem]) ?_
 exact ⟨by simp [go_sem], by simp [go_sem]⟩

set_option maxHeartbeats 1000000 in
theorem c_free2 (d : D) (p : AV) (v b : Bool) (S : List ByteArray) (ob om : Nat) (σ : Store) (hgl : σ.gl = (GL kr)) (hb : σ.objs[ob]? = some (.box [.map om])) (hm : σ.objs[om]? = some (.map (tK S) (tV S))) : ACalls Tryz.prog 180 [.pv (enc d), p, .pv (.bool v), .pv (.bool b), .ptr ob 0] σ (fun r σ' => r = .tuple [] ∧ σ' = setS σ om (if b = true then S else addS S d.text)) := by
 have hpk := fun (s : St) (x : ByteArray) (ho : s.σ.objs[om]? = some (.map (tK S) (tV S))) => put_set (ty := ty) (s := s) (t := 95) (o := om) rfl rfl rfl rfl ho x
 refine acalls_of tyOk Tryz.func180 rfl (by simp [Tryz.f180]) ?_
 refine awp_seq (aR (by simp [go_sem, hb, hm, hpk] <;> rfl) ?_)
 refine awp_seq (aR (by simp [go_sem, hb, hm, hpk] <;> rfl) ?_)
 refine awp_cond (by first | rfl | (simp [go_sem, hb, hm, hpk] <;> rfl)) (fun h0 => ?_) (fun h0 => ?_)
 ·refine aR (by simp [go_sem, hb, hm, hpk] <;> rfl) ?_
  refine ends_normal (by simp [go_sem] <;> rfl) (by simp [go_sem]) ?_
  have hbf : b = false := by simpa using h0
  exact ⟨by simp [go_sem], by rw [hbf]; simp [go_sem]⟩
 ·refine awp_skip ?_
  refine ends_normal (by simp [go_sem] <;> rfl) (by simp [go_sem]) ?_
  have hbt : b = true := by simpa using h0
  exact ⟨by simp [go_sem], by rw [hbt, if_pos rfl, setS_self hm]; try simp [go_sem]⟩

end Go.Proofs.YtnibcmaaehkhlaaGreatDoor

namespace Go.Proofs.YtnibcmaaehkhlaaGreatDoor
open Go Go.Aw
variable {kr : KR}
set_option maxHeartbeats 1000000 in
theorem c_ConcatM (p : List Int) (hp : p.length ≤ 1000000000) : Pur Tryz.prog (GL kr) 140 [.pv (.slice [.nils, .slice (ipv p)])] (.pv (.slice (ipv p))) := by
 have hw0 : IntKind.i64.wrap (p.length : Int) = (p.length : Int) := wrap_id (by omega) (by omega)
 have hw1 : IntKind.i64.wrap 1 = 1 := by decide
 have hw2 : IntKind.i64.wrap 2 = 2 := by decide
 have hw00 : IntKind.i64.wrap 0 = 0 := by decide
 have hlp := ipv_len p
 have hb8 : p.length * 8 ≤ 140737488355328 := by omega
 refine pur_of fun σ hgl => ?_
 refine acalls_of tyOk Tryz.func140 rfl (by simp [Tryz.f140]) ?_
 refine awp_seq (aR (by simp [go_sem, hw0, hw1, hw2, hlp, hb8, hw00, Int.zero_add] <;> rfl) ?_)
 refine awp_seq (aR (by simp [go_sem, hw0, hw1, hw2, hlp, hb8, hw00, Int.zero_add] <;> rfl) ?_)
 refine awp_seq (awp_seq (aR (by simp [go_sem, hw0, hw1, hw2, hlp, hb8, hw00, Int.zero_add] <;> rfl) ?_))
 refine awp_block ?_
 refine awp_loopL (awpL_round ?_)
 refine awp_seq (aR (by simp [go_sem, hw0, hw1, hw2, hlp, hb8, hw00, Int.zero_add] <;> rfl) ?_)
 refine awp_seq (awp_cond (b := true) (by simp [go_sem, hw0, hw1, hw2, hlp, hb8, hw00, Int.zero_add]) (fun h => ?_) (fun h => ?_))
 rotate_left
 ·cases h
 refine awp_skip ?_
 refine awp_seq (awp_block ?_)
 refine awp_seq (aR (by simp [go_sem, hw0, hw1, hw2, hlp, hb8, hw00, Int.zero_add] <;> rfl) ?_)
 refine awp_seq (aR (by simp [go_sem, hw0, hw1, hw2, hlp, hb8, hw00, Int.zero_add] <;> rfl) ?_)
 refine awp_seq (aR (by simp [go_sem, hw0, hw1, hw2, hlp, hb8, hw00, Int.zero_add] <;> rfl) ?_)
 refine awp_cond (by first | rfl | (simp [go_sem, hw0, hw1, hw2, hlp, hb8, hw00, Int.zero_add] <;> rfl)) (fun h0 => ?_) (fun h0 => ?_)
 ·exfalso; first | (have h := h0; simp [hw00] at h; done) | (have h := h0; simp [hw00, hw0] at h; omega)
 ·refine awp_skip ?_
  refine aR (by simp [go_sem, hw0, hw1, hw2, hlp, hb8, hw00, Int.zero_add] <;> rfl) ?_
  refine awpL_round ?_
  refine awp_seq (aR (by simp [go_sem, hw0, hw1, hw2, hlp, hb8, hw00, Int.zero_add] <;> rfl) ?_)
  refine awp_seq (awp_cond (b := true) (by simp [go_sem, hw0, hw1, hw2, hlp, hb8, hw00, Int.zero_add, h0]) (fun h => ?_) (fun h => ?_))
  rotate_left
  ·cases h
  refine awp_skip ?_
  refine awp_seq (awp_block ?_)
  refine awp_seq (aR (by simp [go_sem, hw0, hw1, hw2, hlp, hb8, hw00, Int.zero_add] <;> rfl) ?_)
  refine awp_seq (aR (by simp [go_sem, hw0, hw1, hw2, hlp, hb8, hw00, Int.zero_add] <;> rfl) ?_)
  refine awp_seq (aR (by simp [go_sem, hw0, hw1, hw2, hlp, hb8, hw00, Int.zero_add] <;> rfl) ?_)
  refine awp_cond (by first | rfl | (simp [go_sem, hw0, hw1, hw2, hlp, hb8, hw00, Int.zero_add] <;> rfl)) (fun h1 => ?_) (fun h1 => ?_)
  ·exfalso; first | (have h := h1; simp [hw00] at h; done) | (have h := h1; simp [hw00, hw0] at h; omega)
  ·refine awp_skip ?_
   refine aR (by simp [go_sem, hw0, hw1, hw2, hlp, hb8, hw00, Int.zero_add] <;> rfl) ?_
   refine awpL_round ?_
   refine awp_seq (aR (by simp [go_sem, hw0, hw1, hw2, hlp, hb8, hw00, Int.zero_add] <;> rfl) ?_)
   refine awp_seq (awp_cond (b := false) (by simp [go_sem, hw0, hw1, hw2, hlp, hb8, hw00, Int.zero_add, h0, h1]) (fun h => ?_) (fun h => ?_))
   ·cases h
   refine awp_exit ?_
   refine then_exit ?_
   refine then_exit ?_
   refine inBlock_hit ?_
   refine awp_seq (awp_reg ?_)
   refine aL 1 (by simp [go_sem, hw0, hw1, hw2, hlp, hb8, hw00, Int.zero_add] <;> rfl) ?_
   refine al_callW rfl rfl rfl (by simp [go_sem, hw0, hw1, hw2, hlp, hb8, hw00, Int.zero_add] <;> rfl) call216 (c_Grow p.length (by omega) σ) (by simp [go_sem, hw0, hw1, hw2, hlp, hb8, hw00, Int.zero_add] <;> rfl) (by simp [go_sem, hw0, hw1, hw2, hlp, hb8, hw00, Int.zero_add]) rfl rfl ?_
   rintro r σ' ⟨rfl, rfl⟩
   refine aL 1 (by simp [go_sem, hw0, hw1, hw2, hlp, hb8, hw00, Int.zero_add] <;> rfl) ?_
   refine al_nil ?_
   refine awp_seq (awp_seq (aR (by simp [go_sem, hw0, hw1, hw2, hlp, hb8, hw00, Int.zero_add] <;> rfl) ?_))
   refine awp_block ?_
   refine awp_loopL (awpL_round ?_)
   refine awp_seq (aR (by simp [go_sem, hw0, hw1, hw2, hlp, hb8, hw00, Int.zero_add] <;> rfl) ?_)
   refine awp_seq (awp_cond (b := true) (by simp [go_sem, hw0, hw1, hw2, hlp, hb8, hw00, Int.zero_add, h0, h1]) (fun h => ?_) (fun h => ?_))
   rotate_left
   ·cases h
   refine awp_skip ?_
   refine awp_seq (awp_block ?_)
   refine awp_seq (aR (by simp [go_sem, hw0, hw1, hw2, hlp, hb8, hw00, Int.zero_add] <;> rfl) ?_)
   refine aR (by simp [go_sem, hw0, hw1, hw2, hlp, hb8, hw00, Int.zero_add] <;> rfl) ?_
   refine aR (by simp [go_sem, hw0, hw1, hw2, hlp, hb8, hw00, Int.zero_add] <;> rfl) ?_
   refine awpL_round ?_
   refine awp_seq (aR (by simp [go_sem, hw0, hw1, hw2, hlp, hb8, hw00, Int.zero_add] <;> rfl) ?_)
   refine awp_seq (awp_cond (b := true) (by simp [go_sem, hw0, hw1, hw2, hlp, hb8, hw00, Int.zero_add, h0, h1]) (fun h => ?_) (fun h => ?_))
   rotate_left
   ·cases h
   refine awp_skip ?_
   refine awp_seq (awp_block ?_)
   refine awp_seq (aR (by simp [go_sem, hw0, hw1, hw2, hlp, hb8, hw00, Int.zero_add] <;> rfl) ?_)
   refine aR (by simp [go_sem, hw0, hw1, hw2, hlp, hb8, hw00, Int.zero_add] <;> rfl) ?_
   refine aR (by simp [go_sem, hw0, hw1, hw2, hlp, hb8, hw00, Int.zero_add] <;> rfl) ?_
   refine awpL_round ?_
   refine awp_seq (aR (by simp [go_sem, hw0, hw1, hw2, hlp, hb8, hw00, Int.zero_add] <;> rfl) ?_)
   refine awp_seq (awp_cond (b := false) (by simp [go_sem, hw0, hw1, hw2, hlp, hb8, hw00, Int.zero_add, h0, h1]) (fun h => ?_) (fun h => ?_))
   ·cases h
   refine awp_exit ?_
   refine then_exit ?_
   refine then_exit ?_
   refine inBlock_hit ?_
   refine awp_seq (aR (by simp [go_sem, hw0, hw1, hw2, hlp, hb8, hw00, Int.zero_add] <;> rfl) ?_)
   refine awp_ret ?_
   refine ends_ret (by simp [go_sem, hw0, hw1, hw2, hlp, hb8, hw00, Int.zero_add] <;> rfl) (by simp [go_sem]) ?_
   exact ⟨by simp [go_sem, hw0, hw1, hw2, hlp, hb8, hw00, Int.zero_add, h0, h1], by simp [go_sem]⟩

theorem wConcat (q p : List Int) (hq : q.length ≤ 400000000) (hp : p.length ≤ 100000000) : Pur Tryz.prog (GL kr) 140 [.pv (.slice [wPV q, .slice (ipv p)])] (.pv (.slice (ipv (q ++ p)))) := by
  by_cases h : q = []
  · subst h
    exact c_ConcatM p (by omega)
  · have e : wPV q = .slice (ipv q) := by unfold wPV; rw [if_neg h]; rfl
    have hf : q ++ p = [q, p].flatten := by simp
    rw [e, hf]
    exact c_Concat [q, p] (by simp) (by simp; omega)

set_option maxHeartbeats 1000000 in
theorem c_joinW (p q : List Int) (hp : p.length ≤ 400000000) (hq : q.length ≤ 100000000) (h1 : 1 ≤ q.length) : Pur Tryz.prog (GL kr) 163 [.pv (wPV p), .pv (.slice (ipv q))] (.pv (wPV (p ++ q))) := by
 have hcl := wPV_cells p
 have hcn := wPV_nrm p
 unfold PV.nrm at hcn
 have hpq : wPV (p ++ q) = .slice (ipv (p ++ q)) := by unfold wPV; rw [if_neg (by intro e; rw [List.append_eq_nil_iff] at e; rw [e.2] at h1; simp at h1)]; rfl
 refine pur_of fun σ hgl => ?_
 refine acalls_of tyOk Tryz.func163 rfl (by simp [Tryz.f163]) ?_
 refine awp_seq (aR (by simp [go_sem, hcl, hcn, hpq] <;> rfl) ?_)
 refine awp_seq (awp_reg ?_)
 refine aL 3 (by simp [go_sem, hcl, hcn, hpq] <;> rfl) ?_
 refine aF call140 ((wConcat p q hp hq) _ (by exact hgl)) (by simp [go_sem, hcl, hcn, hpq] <;> rfl) (by simp [go_sem, hcl, hcn, hpq]) ?_
 refine aL 1 (by simp [go_sem, hcl, hcn, hpq] <;> rfl) ?_
 refine al_nil ?_
 refine awp_ret ?_
 refine ends_ret (by simp [go_sem, hcl, hcn, hpq] <;> rfl) (by simp [go_sem]) ?_
 exact ⟨by simp [go_sem, hcl, hcn, hpq], by simp [go_sem]⟩

set_option maxHeartbeats 4000000 in
theorem c_walk (d : D) : ∀ (hd : d.size ≤ 100000000) (p : List Int) (hp : p.length + 3 * d.size ≤ 400000000) (sc S : List ByteArray) (σ : Store) (om ob ow : Nat) (hgl : σ.gl = (GL kr)) (hm : σ.objs[om]? = some (.map (tK S) (tV S))) (hb : σ.objs[ob]? = some (.box [.map om])) (hwk : σ.objs[ow]? = some (.box [.func (.func 179) [], .func (.func 180) [.ptr ob 0]])), ACalls Tryz.prog 181 [.ptr ow 0, .pv (enc d), .pv (wPV p), .pv (encSc sc)] σ (fun r σ' => r = .tuple [] ∧ σ' = setS σ om (sfree d sc S)) := by
 induction d using D.indS with
 | _ d ih =>
 intro hd p hp sc S σ om ob ow hgl hm hb hwk
 have hol := (List.getElem?_eq_some_iff.1 hm).1
 have hbl := (List.getElem?_eq_some_iff.1 hb).1
 have hwl := (List.getElem?_eq_some_iff.1 hwk).1
 have hne1 : om ≠ ob := by intro e; rw [e, hb] at hm; cases hm
 have hne2 : om ≠ ow := by intro e; rw [e, hwk] at hm; cases hm
 have hAm : ∀ B, (σ.objs ++ B)[om]? = some (.map (tK S) (tV S)) := fun B => by rw [List.getElem?_append_left hol]; exact hm
 have hAb : ∀ B, (σ.objs ++ B)[ob]? = some (.box [.map om]) := fun B => by rw [List.getElem?_append_left hbl]; exact hb
 have hAw : ∀ B, (σ.objs ++ B)[ow]? = some (.box [.func (.func 179) [], .func (.func 180) [.ptr ob 0]]) := fun B => by rw [List.getElem?_append_left hwl]; exact hwk
 have hsb : ∀ X R, (setS X om R).objs[ob]? = X.objs[ob]? := fun X R => setS_ne hne1
 have hsw : ∀ X R, (setS X om R).objs[ow]? = X.objs[ow]? := fun X R => setS_ne hne2
 have hs0 : ∀ X R, (setS X om R).objs[σ.objs.length]? = X.objs[σ.objs.length]? := fun X R => setS_ne (by omega)
 have hs1 : ∀ X R, (setS X om R).objs[σ.objs.length + 1]? = X.objs[σ.objs.length + 1]? := fun X R => setS_ne (by omega)
 have hs2 : ∀ X R, (setS X om R).objs[σ.objs.length + 2]? = X.objs[σ.objs.length + 2]? := fun X R => setS_ne (by omega)
 have hs4 : ∀ X R, (setS X om R).objs[σ.objs.length + 4]? = X.objs[σ.objs.length + 4]? := fun X R => setS_ne (by omega)
 have hXm : ∀ B R, (setS ⟨σ.gl, σ.objs ++ B, σ.toks⟩ om R).objs[om]? = some (.map (tK R) (tV R)) := fun B R => setS_get (by simp; omega)
 have hXb : ∀ B R, (setS ⟨σ.gl, σ.objs ++ B, σ.toks⟩ om R).objs[ob]? = some (.box [.map om]) := fun B R => (hsb _ _).trans (hAb B)
 have hXw : ∀ B R, (setS ⟨σ.gl, σ.objs ++ B, σ.toks⟩ om R).objs[ow]? = some (.box [.func (.func 179) [], .func (.func 180) [.ptr ob 0]]) := fun B R => (hsw _ _).trans (hAw B)
 have hwc := wPV_cell p
 have hkl := D.kids_length_lt d
 have hsl := syn_len d
 have hon := ownS_len d
 refine setAt_of ?_
 refine acalls_of tyOk Tryz.func181 rfl (by simp [Tryz.f181]) ?_
 refine awp_seq (awp_region_run (sh := [4, 6, 7]) tyOk (by simp [go_sem, hAb, hAw, hAm, hsb, hsw, hs0, hs1, hs2, hs4, setS_gl, setS_set, hwc] <;> rfl) ?_)
 refine awp_seq (awp_reg ?_)
 refine aL 1 (by simp [go_sem, hAb, hAw, hAm, hsb, hsw, hs0, hs1, hs2, hs4, setS_gl, setS_set, hwc] <;> rfl) ?_
 refine aF call138 ((c_Kind d (by omega)) _ (by exact hgl)) (by simp [go_sem, hAb, hAw, hAm, hsb, hsw, hs0, hs1, hs2, hs4, setS_gl, setS_set, hwc] <;> rfl) (by simp [go_sem, hAb, hAw, hAm, hsb, hsw, hs0, hs1, hs2, hs4, setS_gl, setS_set, hwc]) ?_
 refine al_nil ?_
 refine awp_block ?_
 refine awp_seq (aR (by simp [go_sem, hAb, hAw, hAm, hsb, hsw, hs0, hs1, hs2, hs4, setS_gl, setS_set, hwc] <;> rfl) ?_)
 refine awp_cond (by first | rfl | (simp [go_sem, hAb, hAw, hAm, hsb, hsw, hs0, hs1, hs2, hs4, setS_gl, setS_set, hwc] <;> rfl)) (fun h0 => ?_) (fun h0 => ?_)
 ·have hk : synKind d = 2 := by simpa using h0
  have hfin := sfree_name (l := sc) (S := S) hk
  refine awp_seq (awp_reg ?_)
  refine aL 3 (by simp [go_sem, hAb, hAw, hAm, hsb, hsw, hs0, hs1, hs2, hs4, setS_gl, setS_set, hwc] <;> rfl) ?_
  refine aF call234 ((c_of sc d.text) _ (by exact hgl)) (by simp [go_sem, hAb, hAw, hAm, hsb, hsw, hs0, hs1, hs2, hs4, setS_gl, setS_set, hwc] <;> rfl) (by simp [go_sem, hAb, hAw, hAm, hsb, hsw, hs0, hs1, hs2, hs4, setS_gl, setS_set, hwc]) ?_
  refine aL 5 (by simp [go_sem, hAb, hAw, hAm, hsb, hsw, hs0, hs1, hs2, hs4, setS_gl, setS_set, hwc] <;> rfl) ?_
  refine al_nil ?_
  refine awp_regDP tyOk tySz 8 (by kernel_rfl) (by decide) ?_
  refine ul_run 8 (by simp [go_sem, hAb, hAw, hAm, hsb, hsw, hs0, hs1, hs2, hs4, setS_gl, setS_set, hwc] <;> rfl) ?_
  refine ul_nil ?_
  refine al_callW rfl rfl rfl (by simp [go_sem, hAb, hAw, hAm, hsb, hsw, hs0, hs1, hs2, hs4, setS_gl, setS_set, hwc] <;> rfl) call180 (c_free2 d (.pv (wPV p)) false (memB sc d.text) S ob om _ (by exact hgl) (hAb _) (hAm _)) (by simp [go_sem, hAb, hAw, hAm, hsb, hsw, hs0, hs1, hs2, hs4, setS_gl, setS_set, hwc] <;> rfl) (by simp [go_sem, hAb, hAw, hAm, hsb, hsw, hs0, hs1, hs2, hs4, setS_gl, setS_set, hwc]) rfl rfl ?_
  rintro r σ' ⟨rfl, rfl⟩
  refine al_nil ?_
  first | (show Go.Aw.Ends ty _ _ Go.Exit.normal _) | (simp only [InBlock]; done) | simp only [InBlock] | unfold InBlock
  refine ends_normal (by first | rfl | (simp [go_sem] <;> rfl)) (by first | rfl | simp [go_sem]) ?_
  exact ⟨rfl, by rw [hfin]; first | exact setS_cut2 hol | (show Store.cut (setS (setS _ om _) om _) _ _ = _; rw [setS_set]; exact setS_cut2 hol)⟩
 ·have hk2 : synKind d ≠ 2 := by simpa using h0
  refine awp_seq (awp_seq (aR (by simp [go_sem, hAb, hAw, hAm, hsb, hsw, hs0, hs1, hs2, hs4, setS_gl, setS_set, hwc] <;> rfl) ?_))
  refine awp_cond (by first | rfl | (simp [go_sem, hAb, hAw, hAm, hsb, hsw, hs0, hs1, hs2, hs4, setS_gl, setS_set, hwc] <;> rfl)) (fun h1 => ?_) (fun h1 => ?_)
  ·have hk : synKind d = 5 ∨ synKind d = 9 := by first | exact .inl (by simpa using h1) | exact .inr (by simpa using h1)
   have hlen := hsl.1 (by omega)
   obtain ⟨x2, hx2, hx2m⟩ := get_lt (l := d.kids) (k := 2) (by omega)
   have hd2 : d2 d.kids = x2 := getD_of hx2
   have hxs := D.size_kid_lt hx2m
   have hq : subs d = [subL d 2 x2] := by rw [← hd2]; exact subs_of_fn hk
   have hfin : sfree d sc S = sfree x2 ((ownS d).reverse ++ sc) S := by rw [sfree_eq, if_neg (by simp; omega), hq]; simp [subL, numb_fst]
   have ihx := ih (subL d 2 x2) (by rw [hq]; simp)
   simp only [subL] at ihx
   refine awp_skip ?_
   refine awp_cond (b := true) (by simp [go_sem, hAb, hAw, hAm, hsb, hsw, hs0, hs1, hs2, hs4, setS_gl, setS_set, hwc, hx2, h0, h1]) (fun h => ?_) (fun h => ?_)
   rotate_left
   ·cases h
   refine awp_seq (awp_reg ?_)
   refine aL 1 (by simp [go_sem, hAb, hAw, hAm, hsb, hsw, hs0, hs1, hs2, hs4, setS_gl, setS_set, hwc, hx2] <;> rfl) ?_
   refine aF call104 ((c_Own d (by omega)) _ (by exact hgl)) (by simp [go_sem, hAb, hAw, hAm, hsb, hsw, hs0, hs1, hs2, hs4, setS_gl, setS_set, hwc, hx2] <;> rfl) (by simp [go_sem, hAb, hAw, hAm, hsb, hsw, hs0, hs1, hs2, hs4, setS_gl, setS_set, hwc, hx2]) ?_
   refine aL 1 (by simp [go_sem, hAb, hAw, hAm, hsb, hsw, hs0, hs1, hs2, hs4, setS_gl, setS_set, hwc, hx2] <;> rfl) ?_
   refine al_nil ?_
   refine awp_regDP tyOk tySz 19 (by kernel_rfl) (by decide) ?_
   refine ul_run 7 (by simp [go_sem, hAb, hAw, hAm, hsb, hsw, hs0, hs1, hs2, hs4, setS_gl, setS_set, hwc, hx2] <;> rfl) ?_
   refine ul_fn (by first | (intro _ _ hh; exact hh) | simp [go_sem]) rfl rfl rfl rfl (by simp [go_sem, hAb, hAw, hAm, hsb, hsw, hs0, hs1, hs2, hs4, setS_gl, setS_set, hwc, hx2] <;> rfl) call163 ((c_joinW p [2] (by omega) (by simp) (by simp)) _ (by exact hgl)) (by simp [go_sem, hAb, hAw, hAm, hsb, hsw, hs0, hs1, hs2, hs4, setS_gl, setS_set, hwc, hx2] <;> rfl) (by simp [go_sem, hAb, hAw, hAm, hsb, hsw, hs0, hs1, hs2, hs4, setS_gl, setS_set, hwc, hx2, ipv]) rfl rfl ?_
   refine ul_run 9 (by simp [go_sem, hAb, hAw, hAm, hsb, hsw, hs0, hs1, hs2, hs4, setS_gl, setS_set, hwc, hx2] <;> rfl) ?_
   refine ul_fn (by first | (intro _ _ hh; exact hh) | simp [go_sem]) rfl rfl rfl rfl (by simp [go_sem, hAb, hAw, hAm, hsb, hsw, hs0, hs1, hs2, hs4, setS_gl, setS_set, hwc, hx2] <;> rfl) call179 ((c_free1 d (.pv (wPV p)) (ownS d) (by omega) (0)) _ (by exact hgl)) (by simp [go_sem, hAb, hAw, hAm, hsb, hsw, hs0, hs1, hs2, hs4, setS_gl, setS_set, hwc, hx2] <;> rfl) (by simp [go_sem, hAb, hAw, hAm, hsb, hsw, hs0, hs1, hs2, hs4, setS_gl, setS_set, hwc, hx2]) rfl rfl ?_
   refine ul_fn (by first | (intro _ _ hh; exact hh) | simp [go_sem]) rfl rfl rfl rfl (by simp [go_sem, hAb, hAw, hAm, hsb, hsw, hs0, hs1, hs2, hs4, setS_gl, setS_set, hwc, hx2] <;> rfl) call235 ((c_scWith (sc) (ownS d) (by omega)) _ (by exact hgl)) (by simp [go_sem, hAb, hAw, hAm, hsb, hsw, hs0, hs1, hs2, hs4, setS_gl, setS_set, hwc, hx2] <;> rfl) (by simp [go_sem, hAb, hAw, hAm, hsb, hsw, hs0, hs1, hs2, hs4, setS_gl, setS_set, hwc, hx2]) rfl rfl ?_
   refine ul_nil ?_
   refine al_callW rfl rfl rfl (by simp [go_sem, hAb, hAw, hAm, hsb, hsw, hs0, hs1, hs2, hs4, setS_gl, setS_set, hwc, hx2] <;> rfl) call181 (ihx (by show x2.size ≤ _; omega) (p ++ [2]) (by show _ + 3 * x2.size ≤ _; simp; omega) ((ownS d).reverse ++ sc) S _ om ob ow (by exact hgl) (hAm _) (hAb _) (hAw _)) (by simp [go_sem, hAb, hAw, hAm, hsb, hsw, hs0, hs1, hs2, hs4, setS_gl, setS_set, hwc, hx2] <;> rfl) (by simp [go_sem, hAb, hAw, hAm, hsb, hsw, hs0, hs1, hs2, hs4, setS_gl, setS_set, hwc, hx2]) rfl rfl ?_
   rintro r σ' ⟨rfl, rfl⟩
   refine al_nil ?_
   first | (show Go.Aw.Ends ty _ _ Go.Exit.normal _) | (simp only [InBlock]; done) | simp only [InBlock] | unfold InBlock
   refine ends_normal (by first | rfl | (simp [go_sem] <;> rfl)) (by first | rfl | simp [go_sem]) ?_
   exact ⟨rfl, by rw [hfin]; first | exact setS_cut2 hol | (show Store.cut (setS (setS _ om _) om _) _ _ = _; rw [setS_set]; exact setS_cut2 hol)⟩
  ·refine aR (by simp [go_sem, hAb, hAw, hAm, hsb, hsw, hs0, hs1, hs2, hs4, setS_gl, setS_set, hwc] <;> rfl) ?_
   refine awp_cond (by first | rfl | (simp [go_sem, hAb, hAw, hAm, hsb, hsw, hs0, hs1, hs2, hs4, setS_gl, setS_set, hwc] <;> rfl)) (fun h2 => ?_) (fun h2 => ?_)
   ·have hk : synKind d = 5 ∨ synKind d = 9 := by first | exact .inl (by simpa using h2) | exact .inr (by simpa using h2)
    have hlen := hsl.1 (by omega)
    obtain ⟨x2, hx2, hx2m⟩ := get_lt (l := d.kids) (k := 2) (by omega)
    have hd2 : d2 d.kids = x2 := getD_of hx2
    have hxs := D.size_kid_lt hx2m
    have hq : subs d = [subL d 2 x2] := by rw [← hd2]; exact subs_of_fn hk
    have hfin : sfree d sc S = sfree x2 ((ownS d).reverse ++ sc) S := by rw [sfree_eq, if_neg (by simp; omega), hq]; simp [subL, numb_fst]
    have ihx := ih (subL d 2 x2) (by rw [hq]; simp)
    simp only [subL] at ihx
    refine awp_seq (awp_reg ?_)
    refine aL 1 (by simp [go_sem, hAb, hAw, hAm, hsb, hsw, hs0, hs1, hs2, hs4, setS_gl, setS_set, hwc, hx2] <;> rfl) ?_
    refine aF call104 ((c_Own d (by omega)) _ (by exact hgl)) (by simp [go_sem, hAb, hAw, hAm, hsb, hsw, hs0, hs1, hs2, hs4, setS_gl, setS_set, hwc, hx2] <;> rfl) (by simp [go_sem, hAb, hAw, hAm, hsb, hsw, hs0, hs1, hs2, hs4, setS_gl, setS_set, hwc, hx2]) ?_
    refine aL 1 (by simp [go_sem, hAb, hAw, hAm, hsb, hsw, hs0, hs1, hs2, hs4, setS_gl, setS_set, hwc, hx2] <;> rfl) ?_
    refine al_nil ?_
    refine awp_regDP tyOk tySz 19 (by kernel_rfl) (by decide) ?_
    refine ul_run 7 (by simp [go_sem, hAb, hAw, hAm, hsb, hsw, hs0, hs1, hs2, hs4, setS_gl, setS_set, hwc, hx2] <;> rfl) ?_
    refine ul_fn (by first | (intro _ _ hh; exact hh) | simp [go_sem]) rfl rfl rfl rfl (by simp [go_sem, hAb, hAw, hAm, hsb, hsw, hs0, hs1, hs2, hs4, setS_gl, setS_set, hwc, hx2] <;> rfl) call163 ((c_joinW p [2] (by omega) (by simp) (by simp)) _ (by exact hgl)) (by simp [go_sem, hAb, hAw, hAm, hsb, hsw, hs0, hs1, hs2, hs4, setS_gl, setS_set, hwc, hx2] <;> rfl) (by simp [go_sem, hAb, hAw, hAm, hsb, hsw, hs0, hs1, hs2, hs4, setS_gl, setS_set, hwc, hx2, ipv]) rfl rfl ?_
    refine ul_run 9 (by simp [go_sem, hAb, hAw, hAm, hsb, hsw, hs0, hs1, hs2, hs4, setS_gl, setS_set, hwc, hx2] <;> rfl) ?_
    refine ul_fn (by first | (intro _ _ hh; exact hh) | simp [go_sem]) rfl rfl rfl rfl (by simp [go_sem, hAb, hAw, hAm, hsb, hsw, hs0, hs1, hs2, hs4, setS_gl, setS_set, hwc, hx2] <;> rfl) call179 ((c_free1 d (.pv (wPV p)) (ownS d) (by omega) (0)) _ (by exact hgl)) (by simp [go_sem, hAb, hAw, hAm, hsb, hsw, hs0, hs1, hs2, hs4, setS_gl, setS_set, hwc, hx2] <;> rfl) (by simp [go_sem, hAb, hAw, hAm, hsb, hsw, hs0, hs1, hs2, hs4, setS_gl, setS_set, hwc, hx2]) rfl rfl ?_
    refine ul_fn (by first | (intro _ _ hh; exact hh) | simp [go_sem]) rfl rfl rfl rfl (by simp [go_sem, hAb, hAw, hAm, hsb, hsw, hs0, hs1, hs2, hs4, setS_gl, setS_set, hwc, hx2] <;> rfl) call235 ((c_scWith (sc) (ownS d) (by omega)) _ (by exact hgl)) (by simp [go_sem, hAb, hAw, hAm, hsb, hsw, hs0, hs1, hs2, hs4, setS_gl, setS_set, hwc, hx2] <;> rfl) (by simp [go_sem, hAb, hAw, hAm, hsb, hsw, hs0, hs1, hs2, hs4, setS_gl, setS_set, hwc, hx2]) rfl rfl ?_
    refine ul_nil ?_
    refine al_callW rfl rfl rfl (by simp [go_sem, hAb, hAw, hAm, hsb, hsw, hs0, hs1, hs2, hs4, setS_gl, setS_set, hwc, hx2] <;> rfl) call181 (ihx (by show x2.size ≤ _; omega) (p ++ [2]) (by show _ + 3 * x2.size ≤ _; simp; omega) ((ownS d).reverse ++ sc) S _ om ob ow (by exact hgl) (hAm _) (hAb _) (hAw _)) (by simp [go_sem, hAb, hAw, hAm, hsb, hsw, hs0, hs1, hs2, hs4, setS_gl, setS_set, hwc, hx2] <;> rfl) (by simp [go_sem, hAb, hAw, hAm, hsb, hsw, hs0, hs1, hs2, hs4, setS_gl, setS_set, hwc, hx2]) rfl rfl ?_
    rintro r σ' ⟨rfl, rfl⟩
    refine al_nil ?_
    first | (show Go.Aw.Ends ty _ _ Go.Exit.normal _) | (simp only [InBlock]; done) | simp only [InBlock] | unfold InBlock
    refine ends_normal (by first | rfl | (simp [go_sem] <;> rfl)) (by first | rfl | simp [go_sem]) ?_
    exact ⟨rfl, by rw [hfin]; first | exact setS_cut2 hol | (show Store.cut (setS (setS _ om _) om _) _ _ = _; rw [setS_set]; exact setS_cut2 hol)⟩
   ·refine awp_seq ?_
    refine aR (by simp [go_sem, hAb, hAw, hAm, hsb, hsw, hs0, hs1, hs2, hs4, setS_gl, setS_set, hwc] <;> rfl) ?_
    refine awp_cond (by first | rfl | (simp [go_sem, hAb, hAw, hAm, hsb, hsw, hs0, hs1, hs2, hs4, setS_gl, setS_set, hwc] <;> rfl)) (fun h3 => ?_) (fun h3 => ?_)
    ·have hk : synKind d = 6 := by simpa using h3
     have hlen := hsl.2.1 hk
     obtain ⟨x2, hx2, hx2m⟩ := get_lt (l := d.kids) (k := 2) (by omega)
     have hd2 : d2 d.kids = x2 := getD_of hx2
     have hxs := D.size_kid_lt hx2m
     obtain ⟨x3, hx3, hx3m⟩ := get_lt (l := d.kids) (k := 3) (by omega)
     have hd3 : d.kids.getD 3 dnone = x3 := getD_of hx3
     have hxt := D.size_kid_lt hx3m
     have hq : subs d = [(⟨[2], []⟩, x2), subL d 3 x3] := by rw [← hd2, ← hd3]; exact subs_of_let hk
     have hfin : sfree d sc S = sfree x3 ((ownS d).reverse ++ sc) (sfree x2 sc S) := by rw [sfree_eq, if_neg (by simp; omega), hq]; simp [subL, numb_fst]
     have ihx := ih (⟨[2], []⟩, x2) (by rw [hq]; simp)
     have ihy := ih (subL d 3 x3) (by rw [hq]; simp)
     simp only [subL] at ihx ihy
     refine awp_seq (awp_reg ?_)
     refine aL 1 (by simp [go_sem, hAb, hAw, hAm, hsb, hsw, hs0, hs1, hs2, hs4, setS_gl, setS_set, hwc, hx2, hx3] <;> rfl) ?_
     refine aF call104 ((c_Own d (by omega)) _ (by exact hgl)) (by simp [go_sem, hAb, hAw, hAm, hsb, hsw, hs0, hs1, hs2, hs4, setS_gl, setS_set, hwc, hx2, hx3] <;> rfl) (by simp [go_sem, hAb, hAw, hAm, hsb, hsw, hs0, hs1, hs2, hs4, setS_gl, setS_set, hwc, hx2, hx3]) ?_
     refine aL 1 (by simp [go_sem, hAb, hAw, hAm, hsb, hsw, hs0, hs1, hs2, hs4, setS_gl, setS_set, hwc, hx2, hx3] <;> rfl) ?_
     refine al_nil ?_
     refine awp_seq (awp_regDP tyOk tySz 7 (by kernel_rfl) (by decide) ?_)
     refine ul_run 7 (by simp [go_sem, hAb, hAw, hAm, hsb, hsw, hs0, hs1, hs2, hs4, setS_gl, setS_set, hwc, hx2, hx3] <;> rfl) ?_
     refine ul_nil ?_
     refine al_fn rfl rfl rfl (by simp [go_sem, hAb, hAw, hAm, hsb, hsw, hs0, hs1, hs2, hs4, setS_gl, setS_set, hwc, hx2, hx3] <;> rfl) call179 ((c_free1 d (.pv (wPV p)) (ownS d) (by omega) (0)) _ (by exact hgl)) (by simp [go_sem, hAb, hAw, hAm, hsb, hsw, hs0, hs1, hs2, hs4, setS_gl, setS_set, hwc, hx2, hx3] <;> rfl) (by simp [go_sem, hAb, hAw, hAm, hsb, hsw, hs0, hs1, hs2, hs4, setS_gl, setS_set, hwc, hx2, hx3]) rfl rfl ?_
     refine aL 1 (by simp [go_sem, hAb, hAw, hAm, hsb, hsw, hs0, hs1, hs2, hs4, setS_gl, setS_set, hwc, hx2, hx3] <;> rfl) ?_
     refine al_nil ?_
     refine awp_seq (awp_regDP tyOk tySz 9 (by kernel_rfl) (by decide) ?_)
     refine ul_run 7 (by simp [go_sem, hAb, hAw, hAm, hsb, hsw, hs0, hs1, hs2, hs4, setS_gl, setS_set, hwc, hx2, hx3] <;> rfl) ?_
     refine ul_fn (by first | (intro _ _ hh; exact hh) | simp [go_sem]) rfl rfl rfl rfl (by simp [go_sem, hAb, hAw, hAm, hsb, hsw, hs0, hs1, hs2, hs4, setS_gl, setS_set, hwc, hx2, hx3] <;> rfl) call163 ((c_joinW p [2] (by omega) (by simp) (by simp)) _ (by exact hgl)) (by simp [go_sem, hAb, hAw, hAm, hsb, hsw, hs0, hs1, hs2, hs4, setS_gl, setS_set, hwc, hx2, hx3] <;> rfl) (by simp [go_sem, hAb, hAw, hAm, hsb, hsw, hs0, hs1, hs2, hs4, setS_gl, setS_set, hwc, hx2, hx3, ipv]) rfl rfl ?_
     refine ul_run 1 (by simp [go_sem, hAb, hAw, hAm, hsb, hsw, hs0, hs1, hs2, hs4, setS_gl, setS_set, hwc, hx2, hx3] <;> rfl) ?_
     refine ul_nil ?_
     refine al_callW rfl rfl rfl (by simp [go_sem, hAb, hAw, hAm, hsb, hsw, hs0, hs1, hs2, hs4, setS_gl, setS_set, hwc, hx2, hx3] <;> rfl) call181 (ihx (by show x2.size ≤ _; omega) (p ++ [2]) (by show _ + 3 * x2.size ≤ _; simp; omega) sc S _ om ob ow (by exact hgl) (hAm _) (hAb _) (hAw _)) (by simp [go_sem, hAb, hAw, hAm, hsb, hsw, hs0, hs1, hs2, hs4, setS_gl, setS_set, hwc, hx2, hx3] <;> rfl) (by simp [go_sem, hAb, hAw, hAm, hsb, hsw, hs0, hs1, hs2, hs4, setS_gl, setS_set, hwc, hx2, hx3]) rfl rfl ?_
     rintro r σ' ⟨rfl, rfl⟩
     refine al_nil ?_
     refine awp_regDP tyOk tySz 12 (by kernel_rfl) (by decide) ?_
     refine ul_run 7 (by simp [go_sem, hAb, hAw, hAm, hsb, hsw, hs0, hs1, hs2, hs4, setS_gl, setS_set, hwc, hx2, hx3] <;> rfl) ?_
     refine ul_fn (by first | (intro _ _ hh; exact hh) | simp [go_sem]) rfl rfl rfl rfl (by simp [go_sem, hAb, hAw, hAm, hsb, hsw, hs0, hs1, hs2, hs4, setS_gl, setS_set, hwc, hx2, hx3] <;> rfl) call163 ((c_joinW p [3] (by omega) (by simp) (by simp)) _ (by exact hgl)) (by simp [go_sem, hAb, hAw, hAm, hsb, hsw, hs0, hs1, hs2, hs4, setS_gl, setS_set, hwc, hx2, hx3] <;> rfl) (by simp [go_sem, hAb, hAw, hAm, hsb, hsw, hs0, hs1, hs2, hs4, setS_gl, setS_set, hwc, hx2, hx3, ipv]) rfl rfl ?_
     refine ul_run 3 (by simp [go_sem, hAb, hAw, hAm, hsb, hsw, hs0, hs1, hs2, hs4, setS_gl, setS_set, hwc, hx2, hx3] <;> rfl) ?_
     refine ul_fn (by first | (intro _ _ hh; exact hh) | simp [go_sem]) rfl rfl rfl rfl (by simp [go_sem, hAb, hAw, hAm, hsb, hsw, hs0, hs1, hs2, hs4, setS_gl, setS_set, hwc, hx2, hx3] <;> rfl) call235 ((c_scWith (sc) (ownS d) (by omega)) _ (by exact hgl)) (by simp [go_sem, hAb, hAw, hAm, hsb, hsw, hs0, hs1, hs2, hs4, setS_gl, setS_set, hwc, hx2, hx3] <;> rfl) (by simp [go_sem, hAb, hAw, hAm, hsb, hsw, hs0, hs1, hs2, hs4, setS_gl, setS_set, hwc, hx2, hx3]) rfl rfl ?_
     refine ul_nil ?_
     refine al_callW rfl rfl rfl (by simp [go_sem, hAb, hAw, hAm, hsb, hsw, hs0, hs1, hs2, hs4, setS_gl, setS_set, hwc, hx2, hx3] <;> rfl) call181 (ihy (by show x3.size ≤ _; omega) (p ++ [3]) (by show _ + 3 * x3.size ≤ _; simp; omega) ((ownS d).reverse ++ sc) _ _ om ob ow (by exact hgl) (hXm _ _) (hXb _ _) (hXw _ _)) (by simp [go_sem, hAb, hAw, hAm, hsb, hsw, hs0, hs1, hs2, hs4, setS_gl, setS_set, hwc, hx2, hx3] <;> rfl) (by simp [go_sem, hAb, hAw, hAm, hsb, hsw, hs0, hs1, hs2, hs4, setS_gl, setS_set, hwc, hx2, hx3]) rfl rfl ?_
     rintro r σ' ⟨rfl, rfl⟩
     refine al_nil ?_
     first | (show Go.Aw.Ends ty _ _ Go.Exit.normal _) | (simp only [InBlock]; done) | simp only [InBlock] | unfold InBlock
     refine ends_normal (by first | rfl | (simp [go_sem] <;> rfl)) (by first | rfl | simp [go_sem]) ?_
     exact ⟨rfl, by rw [hfin]; first | exact setS_cut2 hol | (show Store.cut (setS (setS _ om _) om _) _ _ = _; rw [setS_set]; exact setS_cut2 hol)⟩
    ·refine awp_seq ?_
     refine aR (by simp [go_sem, hAb, hAw, hAm, hsb, hsw, hs0, hs1, hs2, hs4, setS_gl, setS_set, hwc] <;> rfl) ?_
     refine awp_cond (by first | rfl | (simp [go_sem, hAb, hAw, hAm, hsb, hsw, hs0, hs1, hs2, hs4, setS_gl, setS_set, hwc] <;> rfl)) (fun h4 => ?_) (fun h4 => ?_)
     ·have hk : synKind d = 7 := by simpa using h4
      have hlen := hsl.1 (by omega)
      obtain ⟨x2, hx2, hx2m⟩ := get_lt (l := d.kids) (k := 2) (by omega)
      have hd2 : d2 d.kids = x2 := getD_of hx2
      have hxs := D.size_kid_lt hx2m
      obtain ⟨x1, hx1, hx1m⟩ := get_lt (l := d.kids) (k := 1) (by omega)
      have hd1 : d1 d.kids = x1 := getD_of hx1
      have hx1s := D.size_kid_lt hx1m
      have hx1l := D.kids_length_lt x1
      have hrk := hsl.2.2 hk
      have hrl := subs_rec_last hk
      have hra := fun (i : Nat) (x : D) => subs_rec_at (d := d) (i := i) (x := x) hk
      rw [hd1, hd2] at hrl
      rw [hd1] at hra hrk
      have hfin : sfree d sc S = sfree x2 ((ownS d).reverse ++ sc) (frd d sc S x1.kids.length) := by rw [← frd_all hk2, hrl.2, frd_next hrl.1]; simp [subL, numb_fst]
      have ihx := ih (subL d 2 x2) (List.mem_of_getElem? hrl.1)
      simp only [subL] at ihx
      refine awp_seq (awp_reg ?_)
      refine aL 1 (by simp [go_sem, hAb, hAw, hAm, hsb, hsw, hs0, hs1, hs2, hs4, setS_gl, setS_set, hwc, hx1, hx2] <;> rfl) ?_
      refine aF call104 ((c_Own d (by omega)) _ (by exact hgl)) (by simp [go_sem, hAb, hAw, hAm, hsb, hsw, hs0, hs1, hs2, hs4, setS_gl, setS_set, hwc, hx1, hx2] <;> rfl) (by simp [go_sem, hAb, hAw, hAm, hsb, hsw, hs0, hs1, hs2, hs4, setS_gl, setS_set, hwc, hx1, hx2]) ?_
      refine aL 1 (by simp [go_sem, hAb, hAw, hAm, hsb, hsw, hs0, hs1, hs2, hs4, setS_gl, setS_set, hwc, hx1, hx2] <;> rfl) ?_
      refine al_nil ?_
      refine awp_seq (awp_regDP tyOk tySz 10 (by kernel_rfl) (by decide) ?_)
      refine ul_run 9 (by simp [go_sem, hAb, hAw, hAm, hsb, hsw, hs0, hs1, hs2, hs4, setS_gl, setS_set, hwc, hx1, hx2] <;> rfl) ?_
      refine ul_fn (by first | (intro _ _ hh; exact hh) | simp [go_sem]) rfl rfl rfl rfl (by simp [go_sem, hAb, hAw, hAm, hsb, hsw, hs0, hs1, hs2, hs4, setS_gl, setS_set, hwc, hx1, hx2] <;> rfl) call179 ((c_free1 d (.pv (wPV p)) (ownS d) (by omega) (0)) _ (by exact hgl)) (by simp [go_sem, hAb, hAw, hAm, hsb, hsw, hs0, hs1, hs2, hs4, setS_gl, setS_set, hwc, hx1, hx2] <;> rfl) (by simp [go_sem, hAb, hAw, hAm, hsb, hsw, hs0, hs1, hs2, hs4, setS_gl, setS_set, hwc, hx1, hx2]) rfl rfl ?_
      refine ul_nil ?_
      refine aF call235 ((c_scWith (sc) (ownS d) (by omega)) _ (by exact hgl)) (by simp [go_sem, hAb, hAw, hAm, hsb, hsw, hs0, hs1, hs2, hs4, setS_gl, setS_set, hwc, hx1, hx2] <;> rfl) (by simp [go_sem, hAb, hAw, hAm, hsb, hsw, hs0, hs1, hs2, hs4, setS_gl, setS_set, hwc, hx1, hx2]) ?_
      refine aL 1 (by simp [go_sem, hAb, hAw, hAm, hsb, hsw, hs0, hs1, hs2, hs4, setS_gl, setS_set, hwc, hx1, hx2] <;> rfl) ?_
      refine al_nil ?_
      refine awp_seq (aR (by simp [go_sem, hAb, hAw, hAm, hsb, hsw, hs0, hs1, hs2, hs4, setS_gl, setS_set, hwc, hx1, hx2] <;> rfl) ?_)
      refine awp_seq (awp_seq (aR (by simp [go_sem, hAb, hAw, hAm, hsb, hsw, hs0, hs1, hs2, hs4, setS_gl, setS_set, hwc, hx1, hx2] <;> rfl) ?_))
      refine awp_block ?_
      refine awp_loop_headJL 1 [4, 5, 6, 7, 14, 133, 134] (fun p3 : Nat × Int => [(15, .pv (.int .i64 p3.2)), (135, .pv (.int .i64 (p3.1 : Int)))]) (fun p3 => setS (⟨σ.gl, σ.objs ++ [.box [.ptr ow 0], .box [.pv (wPV p)], .box [.pv (encSc sc)]], σ.toks⟩ : Store) om (frd d sc S p3.1)) (fun p3 => p3.1 ≤ x1.kids.length) (fun p3 => x1.kids.length - p3.1) (0, ((ownS d).length : Int)) (Nat.zero_le _) ⟨(by show setS _ om S = _; exact setS_self (hAm _)), rfl, by simp [go_sem, hAb, hAw, hAm, hsb, hsw, hs0, hs1, hs2, hs4, setS_gl, setS_set, hwc, hx1, hx2], by simp [go_sem]⟩ ?_
      rintro ⟨i, fr⟩ hi
      refine awp_seq (aR (by simp [go_sem, hAb, hAw, hAm, hsb, hsw, hs0, hs1, hs2, hs4, setS_gl, setS_set, hwc, hx1, hx2] <;> rfl) ?_)
      refine awp_seq (awp_cond (by first | rfl | (simp [go_sem, hAb, hAw, hAm, hsb, hsw, hs0, hs1, hs2, hs4, setS_gl, setS_set, hwc, hx1, hx2] <;> rfl)) (fun h5 => ?_) (fun h5 => ?_))
      ·have hlt : i < x1.kids.length := by simp at h5; omega
       obtain ⟨x, hx, hxm⟩ := get_lt hlt
       have hl3 := hrk x hxm
       obtain ⟨y1, hy1, hy1m⟩ := get_lt (l := x.kids) (k := 1) (by omega)
       obtain ⟨y2, hy2, hy2m⟩ := get_lt (l := x.kids) (k := 2) (by omega)
       have hyd1 : d1 x.kids = y1 := getD_of hy1
       have hyd2 : d2 x.kids = y2 := getD_of hy2
       have hz0 := D.size_kid_lt hxm
       have hz1 := D.size_kid_lt hy1m
       have hz2 := D.size_kid_lt hy2m
       have hz3 := D.kids_length_lt y1
       have hpx : parS x = y1.kids.map D.text := by unfold parS; rw [hyd1]
       have hpl : (parS x).length = y1.kids.length := by rw [hpx, List.length_map]
       have hqi := hra i x hx
       have ihi := ih (subR d i x) (List.mem_of_getElem? hqi)
       simp only [subR, hyd2] at ihi
       have hfn : frd d sc S (i + 1) = sfree y2 ((parS x).reverse ++ ((ownS d).reverse ++ sc)) (frd d sc S i) := by rw [frd_next hqi]; simp [subR, numb_fst, hyd2]
       have hw : IntKind.i64.wrap ((i : Int) + 1) = (i : Int) + 1 := wrap_succ (by omega)
       refine awp_skip ?_
       refine awp_seq (awp_block ?_)
       refine awp_seq (aR (by simp [go_sem, hAb, hAw, hAm, hsb, hsw, hs0, hs1, hs2, hs4, setS_gl, setS_set, hwc, hx1, hx2, hx, hy1, hy2, ← hpx] <;> rfl) ?_)
       refine awp_seq (awp_reg ?_)
       refine aL 5 (by simp [go_sem, hAb, hAw, hAm, hsb, hsw, hs0, hs1, hs2, hs4, setS_gl, setS_set, hwc, hx1, hx2, hx, hy1, hy2, ← hpx] <;> rfl) ?_
       refine aF call165 ((c_Texts y1.kids (by omega)) _ (by exact hgl)) (by simp [go_sem, hAb, hAw, hAm, hsb, hsw, hs0, hs1, hs2, hs4, setS_gl, setS_set, hwc, hx1, hx2, hx, hy1, hy2, ← hpx] <;> rfl) (by simp [go_sem, hAb, hAw, hAm, hsb, hsw, hs0, hs1, hs2, hs4, setS_gl, setS_set, hwc, hx1, hx2, hx, hy1, hy2, ← hpx]) ?_
       refine aL 1 (by simp [go_sem, hAb, hAw, hAm, hsb, hsw, hs0, hs1, hs2, hs4, setS_gl, setS_set, hwc, hx1, hx2, hx, hy1, hy2, ← hpx] <;> rfl) ?_
       refine al_nil ?_
       refine awp_seq (awp_regDP tyOk tySz 21 (by kernel_rfl) (by decide) ?_)
       refine ul_run 8 (by simp [go_sem, hAb, hAw, hAm, hsb, hsw, hs0, hs1, hs2, hs4, setS_gl, setS_set, hwc, hx1, hx2, hx, hy1, hy2, ← hpx] <;> rfl) ?_
       refine ul_fn (by first | (intro _ _ hh; exact hh) | simp [go_sem]) rfl rfl rfl rfl (by simp [go_sem, hAb, hAw, hAm, hsb, hsw, hs0, hs1, hs2, hs4, setS_gl, setS_set, hwc, hx1, hx2, hx, hy1, hy2, ← hpx] <;> rfl) call163 ((c_joinW p [1, (i : Int), 2] (by omega) (by simp) (by simp)) _ (by exact hgl)) (by simp [go_sem, hAb, hAw, hAm, hsb, hsw, hs0, hs1, hs2, hs4, setS_gl, setS_set, hwc, hx1, hx2, hx, hy1, hy2, ← hpx] <;> rfl) (by simp [go_sem, hAb, hAw, hAm, hsb, hsw, hs0, hs1, hs2, hs4, setS_gl, setS_set, hwc, hx1, hx2, hx, hy1, hy2, ← hpx, ipv]) rfl rfl ?_
       refine ul_run 10 (by simp [go_sem, hAb, hAw, hAm, hsb, hsw, hs0, hs1, hs2, hs4, setS_gl, setS_set, hwc, hx1, hx2, hx, hy1, hy2, ← hpx] <;> rfl) ?_
       refine ul_fn (by first | (intro _ _ hh; exact hh) | simp [go_sem]) rfl rfl rfl rfl (by simp [go_sem, hAb, hAw, hAm, hsb, hsw, hs0, hs1, hs2, hs4, setS_gl, setS_set, hwc, hx1, hx2, hx, hy1, hy2, ← hpx] <;> rfl) call179 ((c_free1 d (.pv (wPV p)) (parS x) (by omega) (fr)) _ (by exact hgl)) (by simp [go_sem, hAb, hAw, hAm, hsb, hsw, hs0, hs1, hs2, hs4, setS_gl, setS_set, hwc, hx1, hx2, hx, hy1, hy2, ← hpx] <;> rfl) (by simp [go_sem, hAb, hAw, hAm, hsb, hsw, hs0, hs1, hs2, hs4, setS_gl, setS_set, hwc, hx1, hx2, hx, hy1, hy2, ← hpx]) rfl rfl ?_
       refine ul_fn (by first | (intro _ _ hh; exact hh) | simp [go_sem]) rfl rfl rfl rfl (by simp [go_sem, hAb, hAw, hAm, hsb, hsw, hs0, hs1, hs2, hs4, setS_gl, setS_set, hwc, hx1, hx2, hx, hy1, hy2, ← hpx] <;> rfl) call235 ((c_scWith (((ownS d).reverse ++ sc)) (parS x) (by omega)) _ (by exact hgl)) (by simp [go_sem, hAb, hAw, hAm, hsb, hsw, hs0, hs1, hs2, hs4, setS_gl, setS_set, hwc, hx1, hx2, hx, hy1, hy2, ← hpx] <;> rfl) (by simp [go_sem, hAb, hAw, hAm, hsb, hsw, hs0, hs1, hs2, hs4, setS_gl, setS_set, hwc, hx1, hx2, hx, hy1, hy2, ← hpx]) rfl rfl ?_
       refine ul_nil ?_
       refine al_callW rfl rfl rfl (by simp [go_sem, hAb, hAw, hAm, hsb, hsw, hs0, hs1, hs2, hs4, setS_gl, setS_set, hwc, hx1, hx2, hx, hy1, hy2, ← hpx] <;> rfl) call181 (ihi (by show y2.size ≤ _; omega) (p ++ [1, (i : Int), 2]) (by show _ + 3 * y2.size ≤ _; simp; omega) ((parS x).reverse ++ ((ownS d).reverse ++ sc)) _ _ om ob ow (by exact hgl) (hXm _ _) (hXb _ _) (hXw _ _)) (by simp [go_sem, hAb, hAw, hAm, hsb, hsw, hs0, hs1, hs2, hs4, setS_gl, setS_set, hwc, hx1, hx2, hx, hy1, hy2, ← hpx] <;> rfl) (by simp [go_sem, hAb, hAw, hAm, hsb, hsw, hs0, hs1, hs2, hs4, setS_gl, setS_set, hwc, hx1, hx2, hx, hy1, hy2, ← hpx]) rfl rfl ?_
       rintro r σ' ⟨rfl, rfl⟩
       refine al_nil ?_
       refine aR (by simp [go_sem, hAb, hAw, hAm, hsb, hsw, hs0, hs1, hs2, hs4, setS_gl, setS_set, hwc, hx1, hx2, hx, hy1, hy2, ← hpx] <;> rfl) ?_
       refine aR (by simp [go_sem, hAb, hAw, hAm, hsb, hsw, hs0, hs1, hs2, hs4, setS_gl, setS_set, hwc, hx1, hx2, hx, hy1, hy2, ← hpx] <;> rfl) ?_
       exact ⟨(i + 1, IntKind.i64.wrap (fr + ((parS x).length : Int))), (by show i + 1 ≤ _; omega), (by show x1.kids.length - (i + 1) < x1.kids.length - i; omega), (by show setS _ om (frd d sc S (i + 1)) = _; rw [hfn]; try exact setS_set.symm), rfl, by simp [go_sem, hAb, hAw, hAm, hsb, hsw, hs0, hs1, hs2, hs4, setS_gl, setS_set, hwc, hx1, hx2, hx, hy1, hy2, ← hpx, hw], by simp [go_sem]⟩
      ·have hke : i = x1.kids.length := by simp at h5; omega
       subst hke
       refine awp_exit ?_
       refine then_exit ?_
       refine then_exit ?_
       refine inBlock_hit ?_
       refine awp_regDP tyOk tySz 9 (by kernel_rfl) (by decide) ?_
       refine ul_run 7 (by simp [go_sem, hAb, hAw, hAm, hsb, hsw, hs0, hs1, hs2, hs4, setS_gl, setS_set, hwc, hx1, hx2] <;> rfl) ?_
       refine ul_fn (by first | (intro _ _ hh; exact hh) | simp [go_sem]) rfl rfl rfl rfl (by simp [go_sem, hAb, hAw, hAm, hsb, hsw, hs0, hs1, hs2, hs4, setS_gl, setS_set, hwc, hx1, hx2] <;> rfl) call163 ((c_joinW p [2] (by omega) (by simp) (by simp)) _ (by exact hgl)) (by simp [go_sem, hAb, hAw, hAm, hsb, hsw, hs0, hs1, hs2, hs4, setS_gl, setS_set, hwc, hx1, hx2] <;> rfl) (by simp [go_sem, hAb, hAw, hAm, hsb, hsw, hs0, hs1, hs2, hs4, setS_gl, setS_set, hwc, hx1, hx2, ipv]) rfl rfl ?_
       refine ul_run 1 (by simp [go_sem, hAb, hAw, hAm, hsb, hsw, hs0, hs1, hs2, hs4, setS_gl, setS_set, hwc, hx1, hx2] <;> rfl) ?_
       refine ul_nil ?_
       refine al_callW rfl rfl rfl (by simp [go_sem, hAb, hAw, hAm, hsb, hsw, hs0, hs1, hs2, hs4, setS_gl, setS_set, hwc, hx1, hx2] <;> rfl) call181 (ihx (by show x2.size ≤ _; omega) (p ++ [2]) (by show _ + 3 * x2.size ≤ _; simp; omega) ((ownS d).reverse ++ sc) _ _ om ob ow (by exact hgl) (hXm _ _) (hXb _ _) (hXw _ _)) (by simp [go_sem, hAb, hAw, hAm, hsb, hsw, hs0, hs1, hs2, hs4, setS_gl, setS_set, hwc, hx1, hx2] <;> rfl) (by simp [go_sem, hAb, hAw, hAm, hsb, hsw, hs0, hs1, hs2, hs4, setS_gl, setS_set, hwc, hx1, hx2]) rfl rfl ?_
       rintro r σ' ⟨rfl, rfl⟩
       refine al_nil ?_
       first | (show Go.Aw.Ends ty _ _ Go.Exit.normal _) | (simp only [InBlock]; done) | simp only [InBlock] | unfold InBlock
       refine ends_normal (by first | rfl | (simp [go_sem] <;> rfl)) (by first | rfl | simp [go_sem]) ?_
       exact ⟨rfl, by rw [hfin]; first | exact setS_cut2 hol | (show Store.cut (setS (setS _ om _) om _) _ _ = _; rw [setS_set]; exact setS_cut2 hol)⟩
     ·have hkk : synKind d ≠ 5 ∧ synKind d ≠ 9 ∧ synKind d ≠ 6 ∧ synKind d ≠ 7 := by simp_all
      refine awp_seq (awp_reg ?_)
      refine aL 1 (by simp [go_sem, hAb, hAw, hAm, hsb, hsw, hs0, hs1, hs2, hs4, setS_gl, setS_set, hwc] <;> rfl) ?_
      refine al_callW rfl rfl rfl (by simp [go_sem, hAb, hAw, hAm, hsb, hsw, hs0, hs1, hs2, hs4, setS_gl, setS_set, hwc] <;> rfl) call139 (c_PartsMk d _) (by simp [go_sem, hAb, hAw, hAm, hsb, hsw, hs0, hs1, hs2, hs4, setS_gl, setS_set, hwc] <;> rfl) (by simp [go_sem, hAb, hAw, hAm, hsb, hsw, hs0, hs1, hs2, hs4, setS_gl, setS_set, hwc]) rfl rfl ?_
      rintro r σ' ⟨rfl, rfl⟩
      refine al_nil ?_
      refine awp_block ?_
      refine awp_rangeFunc [4, 6, 7] (by simp [go_sem, hAb, hAw, hAm, hsb, hsw, hs0, hs1, hs2, hs4, setS_gl, setS_set, hwc] <;> rfl) call215 (by simp [go_sem]) (by simp [go_sem, keepT, hAb, hAw, hAm, hsb, hsw, hs0, hs1, hs2, hs4, setS_gl, setS_set, hwc]) (by decide) fun l => ?_
      refine acalls_gen ?_
      intro ST hST
      simp only [go_sem, keepT, List.map_cons, List.map_nil, List.append_assoc, List.cons_append, List.nil_append] at hST
      have hST2 : ST = ⟨σ.gl, ST.objs, σ.toks⟩ := by rw [hST]
      have hglS : ST.gl = σ.gl := by rw [hST]
      have hts : ST.toks = σ.toks := by rw [hST]
      have hlow : ST.objs.take σ.objs.length = σ.objs := by rw [hST]; simp [go_sem]
      have hlen : ST.objs.length = σ.objs.length + 5 := by rw [hST]; simp [go_sem]
      have f0 : ST.objs[σ.objs.length]? = some (.box [.ptr ow 0]) := by rw [hST]; simp [go_sem]
      have f1 : ST.objs[σ.objs.length + 1]? = some (.box [.pv (wPV p)]) := by rw [hST]; simp [go_sem]
      have f2 : ST.objs[σ.objs.length + 2]? = some (.box [.pv (encSc sc)]) := by rw [hST]; simp [go_sem]
      have f3 : ST.objs[σ.objs.length + 3]? = some (.box [.pv (.int .i64 d.kind), .pv (.int .i64 d.num), .pv (.str d.text), .pv (.slice (d.kids.map enc))]) := by rw [hST]; simp [go_sem]
      have fm : ST.objs[om]? = some (.map (tK S) (tV S)) := by rw [hST]; exact hAm _
      have fb : ST.objs[ob]? = some (.box [.map om]) := by rw [hST]; exact hAb _
      have fw : ST.objs[ow]? = some (.box [.func (.func 179) [], .func (.func 180) [.ptr ob 0]]) := by rw [hST]; exact hAw _
      obtain ⟨T0, ps0, as0, bd0, hL⟩ : ∃ T0 ps0 as0 bd0, ST.objs[σ.objs.length + 4]? = some (.loop l .ready none T0 183 ps0 as0 bd0) := ⟨_, _, _, _, by rw [hST]; exact get_app5⟩
      have hround : ∀ (i : Nat) (τ : Store) (q : Sub × D), (subs d)[i]? = some q → (τ = setS ST om (frd d sc S i)) → ACallsY Tryz.prog l [.pv (.slice (ipv q.1.p)), .pv (enc q.2)] τ fun r τ' => (r = .pv (.bool true) ∧ τ' = setS ST om (frd d sc S (i + 1))) ∨ (r = .pv (.bool false) ∧ False) := by
       rintro i τ q hq hτ
       rw [hτ]
       have hqm : q ∈ subs d := List.mem_of_getElem? hq
       have hqs := subs_lt hqm
       have hqp := subs_plen hqm
       have hfn := frd_next (l := sc) (S := S) hq
       rw [subs_ns2 hkk hqm, List.map_nil, List.nil_append] at hfn
       rw [hfn]
       generalize frd d sc S i = R
       have e0 : (setS ST om R).objs[σ.objs.length]? = some (.box [.ptr ow 0]) := (setS_ne (by omega)).trans f0
       have e1 : (setS ST om R).objs[σ.objs.length + 1]? = some (.box [.pv (wPV p)]) := (setS_ne (by omega)).trans f1
       have e2 : (setS ST om R).objs[σ.objs.length + 2]? = some (.box [.pv (encSc sc)]) := (setS_ne (by omega)).trans f2
       have eL := (setS_ne (σ := ST) (S := R) (show om ≠ σ.objs.length + 4 by omega)).trans hL
       have em : (setS ST om R).objs[om]? = some (.map (tK R) (tV R)) := setS_get (by omega)
       have eb := (setS_ne (σ := ST) (S := R) hne1).trans fb
       have ew := (setS_ne (σ := ST) (S := R) hne2).trans fw
       refine acallsY_of (o := σ.objs.length + 4) ((setS_ne (σ := ST) (S := R) (show om ≠ σ.objs.length + 4 by omega)).trans (by rw [hST]; exact get_app5)) rfl rfl ?_
       refine awp_seq (aR (by simp [go_sem, hAb, hAw, hAm, hsb, hsw, hs0, hs1, hs2, hs4, setS_gl, setS_set, hwc, f0, f1, f2, hL, set_ne, set_at, setS_nt, setS_no] <;> rfl) ?_)
       refine aR (by simp [go_sem, hAb, hAw, hAm, hsb, hsw, hs0, hs1, hs2, hs4, setS_gl, setS_set, hwc, f0, f1, f2, hL, set_ne, set_at, setS_nt, setS_no] <;> rfl) ?_
       refine ⟨_, _, _, _, _, _, Eq.trans (b := some (.loop l .ready none T0 183 ps0 as0 bd0)) (by simp [go_sem, hAb, hAw, hAm, hsb, hsw, hs0, hs1, hs2, hs4, setS_gl, setS_set, hwc, f0, f1, f2, hL, set_ne, set_at, setS_nt, setS_no]) rfl, ?_⟩
       refine awp_block ?_
       refine awp_regDP tyOk tySz 6 (by kernel_rfl) (by decide) ?_
       refine ul_run 4 (by simp [go_sem, hAb, hAw, hAm, hsb, hsw, hs0, hs1, hs2, hs4, setS_gl, setS_set, hwc, f0, f1, f2, hL, set_ne, set_at, setS_nt, setS_no] <;> rfl) ?_
       refine ul_fn (by first | (intro _ _ hh; exact hh) | simp [go_sem]) rfl rfl rfl rfl (by simp [go_sem, hAb, hAw, hAm, hsb, hsw, hs0, hs1, hs2, hs4, setS_gl, setS_set, hwc, f0, f1, f2, hL, set_ne, set_at, setS_nt, setS_no] <;> rfl) call163 ((c_joinW p q.1.p (by omega) (by omega) hqp.1) _ (by exact hglS.trans hgl)) (by simp [go_sem, hAb, hAw, hAm, hsb, hsw, hs0, hs1, hs2, hs4, setS_gl, setS_set, hwc, f0, f1, f2, hL, set_ne, set_at, setS_nt, setS_no] <;> rfl) (by simp [go_sem, hAb, hAw, hAm, hsb, hsw, hs0, hs1, hs2, hs4, setS_gl, setS_set, hwc, f0, f1, f2, hL, set_ne, set_at, setS_nt, setS_no]) rfl rfl ?_
       refine ul_run 1 (by simp [go_sem, hAb, hAw, hAm, hsb, hsw, hs0, hs1, hs2, hs4, setS_gl, setS_set, hwc, f0, f1, f2, hL, set_ne, set_at, setS_nt, setS_no] <;> rfl) ?_
       refine ul_nil ?_
       refine al_callW rfl rfl rfl (by simp [go_sem, hAb, hAw, hAm, hsb, hsw, hs0, hs1, hs2, hs4, setS_gl, setS_set, hwc, f0, f1, f2, hL, set_ne, set_at, setS_nt, setS_no] <;> rfl) call181 (ih q hqm (by omega) (p ++ q.1.p) (by rw [List.length_append]; omega) sc R _ om ob ow (by exact hglS.trans hgl) ((List.getElem?_set_ne (by omega)).trans em) ((List.getElem?_set_ne (by omega)).trans eb) ((List.getElem?_set_ne (by omega)).trans ew)) (by simp [go_sem, hAb, hAw, hAm, hsb, hsw, hs0, hs1, hs2, hs4, setS_gl, setS_set, hwc, f0, f1, f2, hL, set_ne, set_at, setS_nt, setS_no] <;> rfl) (by simp [go_sem, hAb, hAw, hAm, hsb, hsw, hs0, hs1, hs2, hs4, setS_gl, setS_set, hwc, f0, f1, f2, hL, set_ne, set_at, setS_nt, setS_no]) rfl rfl ?_
       rintro r σ' ⟨rfl, rfl⟩
       refine al_nil ?_
       refine ⟨_, _, _, _, _, _, Eq.trans (b := some (.loop l .busy none T0 183 ps0 as0 bd0)) (by simp [go_sem, hAb, hAw, hAm, hsb, hsw, hs0, hs1, hs2, hs4, setS_gl, setS_set, hwc, f0, f1, f2, hL, set_ne, set_at, setS_nt, setS_no]) rfl, ?_⟩
       refine .inl ⟨rfl, ?_⟩
       exact (setS_rec (X := setS ST om R) (by omega) eL).trans setS_set
      refine (ACalls.args (c_PartsIt d (by omega) (σ.objs.length + 3) l (fun i τ => τ = setS ST om (frd d sc S i)) (fun _ => False) (fun i τ h => by rw [h]; exact hglS.trans hgl) (fun i τ h => by rw [h]; exact (setS_ne (by omega)).trans f3) hround ST (setS_self fm).symm) (by simp [go_sem, hAb, hAw, hAm, hsb, hsw, hs0, hs1, hs2, hs4, setS_gl, setS_set, hwc])).mono ?_
      rintro _ τ' (hτ | ⟨⟨⟩⟩)
      ·rw [hτ, frd_all hk2]
       have eL2 := (setS_ne (σ := ST) (S := sfree d sc S) (show om ≠ σ.objs.length + 4 by omega)).trans hL
       refine ⟨_, _, _, _, _, _, _, Eq.trans (b := some (.loop l .ready none T0 183 ps0 as0 bd0)) (by simp [go_sem, hAb, hAw, hAm, hsb, hsw, hs0, hs1, hs2, hs4, setS_gl, setS_set, hwc, hL, set_ne, set_at]) rfl, by decide, ?_⟩
       first | (show Go.Aw.Ends ty _ _ Go.Exit.normal _) | (simp only [InBlock]; done) | simp only [InBlock] | unfold InBlock
       refine ends_normal (by first | rfl | (simp [go_sem] <;> rfl)) (by first | rfl | simp [go_sem]) ?_
       exact ⟨rfl, by simp [go_sem, take_set_le, setS, List.take_set, hlow, hts, hglS]⟩

end Go.Proofs.YtnibcmaaehkhlaaGreatDoor

namespace Go.Proofs.YtnibcmaaehkhlaaGreatDoor
open Go Go.Aw
variable {kr : KR}
def renZ6 : Go.Shelf.Ren := ⟨fun x => match x with | 6 => 141 | 8 => 217 | 9 => 218 | 11 => 249 | n => n, fun x => match x with | 0 => 0 | 24 => 35 | 26 => 9 | 28 => 153 | 33 => 76 | n => n, fun x => match x with | n => n⟩
theorem laysZ6 : Go.Proofs.SlLaysZ.n6 Tryz.prog renZ6 :=
  {
    mixed := by kernel_rfl,
    f6 := ⟨Tryz.f141.name, by kernel_rfl, Eq.trans Tryz.func141 (congrArg some (by kernel_rfl))⟩,
    f8 := ⟨Tryz.f217.name, by kernel_rfl, Eq.trans Tryz.func217 (congrArg some (by kernel_rfl))⟩,
    f11 := ⟨Tryz.f249.name, by kernel_rfl, Eq.trans Tryz.func249 (congrArg some (by kernel_rfl))⟩,
    t0 := Tryz.underlying0,
    a0 := Tryz.isAgg0,
    z0 := Tryz.sizeOf0,
    v0 := Tryz.zeroValue0,
    t24 := Tryz.underlying35,
    a24 := Tryz.isAgg35,
    z24 := Tryz.sizeOf35,
    v24 := Tryz.zeroValue35,
    t26 := Tryz.underlying9,
    a26 := Tryz.isAgg9,
    z26 := Tryz.sizeOf9,
    v26 := Tryz.zeroValue9,
    t28 := Tryz.underlying153,
    a28 := Tryz.isAgg153,
    z28 := Tryz.sizeOf153,
    v28 := Tryz.zeroValue153,
    i26 := by kernel_rfl }
def renZ10 : Go.Shelf.Ren := ⟨fun x => match x with | 10 => 219 | n => n, fun x => match x with | 0 => 0 | 3 => 4 | 4 => 4 | 23 => 95 | 26 => 9 | 33 => 76 | n => n, fun x => match x with | n => n⟩
theorem laysZ10 : Go.Proofs.SlLaysZ.n10 Tryz.prog renZ10 :=
  {
    mixed := by kernel_rfl,
    f10 := ⟨Tryz.f219.name, by kernel_rfl, Eq.trans Tryz.func219 (congrArg some (by kernel_rfl))⟩,
    t0 := Tryz.underlying0,
    a0 := Tryz.isAgg0,
    z0 := Tryz.sizeOf0,
    v0 := Tryz.zeroValue0,
    t4 := Tryz.underlying4,
    a4 := Tryz.isAgg4,
    z4 := Tryz.sizeOf4,
    v4 := Tryz.zeroValue4,
    t23 := Tryz.underlying95,
    a23 := Tryz.isAgg95,
    z23 := Tryz.sizeOf95,
    v23 := Tryz.zeroValue95,
    t26 := Tryz.underlying9,
    a26 := Tryz.isAgg9,
    z26 := Tryz.sizeOf9,
    v26 := Tryz.zeroValue9,
    t33 := Tryz.underlying76,
    a33 := Tryz.isAgg76,
    z33 := Tryz.sizeOf76,
    v33 := Tryz.zeroValue76 }
def renM6 : Go.Shelf.Ren := ⟨fun x => match x with | 6 => 218 | 8 => 251 | 9 => 250 | 19 => 272 | 20 => 258 | 21 => 263 | 22 => 264 | 23 => 265 | 24 => 266 | 25 => 267 | 26 => 268 | 27 => 269 | 28 => 270 | 29 => 271 | 31 => 283 | 32 => 284 | 36 => 282 | 37 => 285 | 38 => 286 | 39 => 287 | 41 => 291 | n => n, fun x => match x with | 0 => 0 | 3 => 3 | 4 => 4 | 5 => 5 | 9 => 9 | 26 => 35 | 27 => 35 | 29 => 9 | 32 => 263 | 35 => 276 | 36 => 277 | 41 => 38 | 44 => 271 | 46 => 175 | 53 => 292 | 57 => 296 | 63 => 306 | 64 => 307 | n => n, fun x => match x with | n => n⟩
theorem laysM6 : Go.Proofs.SlLaysM.n6 Tryz.prog renM6 :=
  {
    mixed := by kernel_rfl,
    f6 := ⟨Tryz.f218.name, by kernel_rfl, Eq.trans Tryz.func218 (congrArg some (by kernel_rfl))⟩,
    f8 := Eq.trans Tryz.func251 (congrArg some (by kernel_rfl)),
    f9 := ⟨Tryz.f250.name, by kernel_rfl, Eq.trans Tryz.func250 (congrArg some (by kernel_rfl))⟩,
    f19 := Eq.trans Tryz.func272 (congrArg some (by kernel_rfl)),
    f20 := Eq.trans Tryz.func258 (congrArg some (by kernel_rfl)),
    f21 := ⟨Tryz.f263.name, by kernel_rfl, Eq.trans Tryz.func263 (congrArg some (by kernel_rfl))⟩,
    f22 := ⟨Tryz.f264.name, by kernel_rfl, Eq.trans Tryz.func264 (congrArg some (by kernel_rfl))⟩,
    f23 := ⟨Tryz.f265.name, by kernel_rfl, Eq.trans Tryz.func265 (congrArg some (by kernel_rfl))⟩,
    f24 := ⟨Tryz.f266.name, by kernel_rfl, Eq.trans Tryz.func266 (congrArg some (by kernel_rfl))⟩,
    f25 := ⟨Tryz.f267.name, by kernel_rfl, Eq.trans Tryz.func267 (congrArg some (by kernel_rfl))⟩,
    f26 := ⟨Tryz.f268.name, by kernel_rfl, Eq.trans Tryz.func268 (congrArg some (by kernel_rfl))⟩,
    f27 := ⟨Tryz.f269.name, by kernel_rfl, Eq.trans Tryz.func269 (congrArg some (by kernel_rfl))⟩,
    f28 := ⟨Tryz.f270.name, by kernel_rfl, Eq.trans Tryz.func270 (congrArg some (by kernel_rfl))⟩,
    f29 := ⟨Tryz.f271.name, by kernel_rfl, Eq.trans Tryz.func271 (congrArg some (by kernel_rfl))⟩,
    f31 := Eq.trans Tryz.func283 (congrArg some (by kernel_rfl)),
    f32 := Eq.trans Tryz.func284 (congrArg some (by kernel_rfl)),
    f36 := ⟨Tryz.f282.name, by kernel_rfl, Eq.trans Tryz.func282 (congrArg some (by kernel_rfl))⟩,
    f37 := ⟨Tryz.f285.name, by kernel_rfl, Eq.trans Tryz.func285 (congrArg some (by kernel_rfl))⟩,
    f38 := ⟨Tryz.f286.name, by kernel_rfl, Eq.trans Tryz.func286 (congrArg some (by kernel_rfl))⟩,
    f39 := ⟨Tryz.f287.name, by kernel_rfl, Eq.trans Tryz.func287 (congrArg some (by kernel_rfl))⟩,
    f41 := ⟨Tryz.f291.name, by kernel_rfl, Eq.trans Tryz.func291 (congrArg some (by kernel_rfl))⟩,
    t0 := Tryz.underlying0,
    a0 := Tryz.isAgg0,
    z0 := Tryz.sizeOf0,
    v0 := Tryz.zeroValue0,
    t3 := Tryz.underlying3,
    a3 := Tryz.isAgg3,
    z3 := Tryz.sizeOf3,
    v3 := Tryz.zeroValue3,
    t4 := Tryz.underlying4,
    a4 := Tryz.isAgg4,
    z4 := Tryz.sizeOf4,
    v4 := Tryz.zeroValue4,
    t5 := Tryz.underlying5,
    a5 := Tryz.isAgg5,
    z5 := Tryz.sizeOf5,
    v5 := Tryz.zeroValue5,
    t9 := Tryz.underlying9,
    a9 := Tryz.isAgg9,
    z9 := Tryz.sizeOf9,
    v9 := Tryz.zeroValue9,
    t26 := Tryz.underlying35,
    a26 := Tryz.isAgg35,
    z26 := Tryz.sizeOf35,
    v26 := Tryz.zeroValue35,
    t27 := Tryz.underlying35,
    a27 := Tryz.isAgg35,
    z27 := Tryz.sizeOf35,
    v27 := Tryz.zeroValue35,
    t29 := Tryz.underlying9,
    a29 := Tryz.isAgg9,
    z29 := Tryz.sizeOf9,
    v29 := Tryz.zeroValue9,
    t32 := Tryz.underlying263,
    a32 := Tryz.isAgg263,
    z32 := Tryz.sizeOf263,
    v32 := Tryz.zeroValue263,
    t35 := Tryz.underlying276,
    a35 := Tryz.isAgg276,
    z35 := Tryz.sizeOf276,
    v35 := Tryz.zeroValue276,
    t36 := Tryz.underlying277,
    a36 := Tryz.isAgg277,
    z36 := Tryz.sizeOf277,
    v36 := Tryz.zeroValue277,
    t41 := Tryz.underlying38,
    a41 := Tryz.isAgg38,
    z41 := Tryz.sizeOf38,
    v41 := Tryz.zeroValue38,
    t44 := Tryz.underlying271,
    a44 := Tryz.isAgg271,
    z44 := Tryz.sizeOf271,
    v44 := Tryz.zeroValue271,
    t46 := Tryz.underlying175,
    a46 := Tryz.isAgg175,
    z46 := Tryz.sizeOf175,
    v46 := Tryz.zeroValue175,
    t53 := Tryz.underlying292,
    a53 := Tryz.isAgg292,
    z53 := Tryz.sizeOf292,
    v53 := Tryz.zeroValue292,
    t57 := Tryz.underlying296,
    a57 := Tryz.isAgg296,
    z57 := Tryz.sizeOf296,
    v57 := Tryz.zeroValue296,
    t63 := Tryz.underlying306,
    a63 := Tryz.isAgg306,
    z63 := Tryz.sizeOf306,
    v63 := Tryz.zeroValue306,
    t64 := Tryz.underlying307,
    a64 := Tryz.isAgg307,
    z64 := Tryz.sizeOf307,
    v64 := Tryz.zeroValue307 }
theorem sortsA (m : Nat) : Go.Proofs.AnyZ.SortsIn Tryz.prog renZ6 Go.Fence.wide m :=
  ⟨fun blk off cap ss W hH hblk hsz => Go.callsIn_wide.2 (Go.Proofs.AnyM.slices_Sort_string (ρ := renM6) laysM6 blk off cap ss W hH hblk hsz), fun p cap W => Go.callsIn_wide.2 (Go.Proofs.AnyM.slices_Sort_string_none (ρ := renM6) laysM6 p cap W)⟩
theorem c_Sorted {σ : Store} {o om : Nat} {S : List ByteArray} (ho : σ.objs[o]? = some (.box [.map om])) (hom : σ.objs[om]? = some (.map (tK S) (tV S))) (hl : S.length ≤ 1000000000) (hs : ∀ s, s ∈ S → s.size ≤ maxLen) :
    ACalls Tryz.prog 141 [.func (.func 219) [.ptr o 0]] σ fun r σ' => r = .pv (.slice ((sortB S).map .str)) ∧ σ' = σ :=
  acalls_sorted (kt := 9) (n := 2) (m := 5) Tryz.underlying9 (fun w Bm b nn D0 hB hc hown => Go.Proofs.AnyZ.keys_gives (ρ := renZ10) laysZ10 Go.Fence.wide 2 trivial rfl (by omega) Bm b nn D0 w hB hc hown)
    (fun Bm N S w h1 h2 hseq => (Go.Proofs.AnyZ.sorted_in (ρ := renZ6) laysZ6 Go.Fence.wide 5 trivial trivial trivial trivial rfl (by omega) (sortsA _) (Go.Proofs.enters_of Tryz.func218 (by kernel_rfl) rfl) 219 _ trivial (Go.Proofs.enters_of Tryz.func219 (by kernel_rfl) rfl) S N h1 h2 w hseq).mono (by rintro e w' ⟨v, ss, he, hS, hrow, hnil, hb⟩; exact ⟨v, ss, _, he, hS, hrow, hb⟩)) ho hom hl hs

set_option maxHeartbeats 1000000 in
theorem c_scFree (d : D) (hd : d.size ≤ 100000000) (σ : Store) (hgl : σ.gl = (GL kr)) : ACalls Tryz.prog 113 [.pv (enc d)] σ (fun r σ' => r = .map σ.objs.length ∧ σ' = { σ with objs := σ.objs ++ [.map (tK (sfree d [] [])) (tV (sfree d [] []))] }) := by
 refine mapAt_of ?_
 have hz1 : ∀ X R, (setS X σ.objs.length R).objs[σ.objs.length + 1]? = X.objs[σ.objs.length + 1]? := fun X R => setS_ne (by omega)
 refine acalls_of tyOk Tryz.func113 rfl (by simp [Tryz.f113]) ?_
 refine awp_seq (aR (by simp [go_sem, hz1] <;> rfl) ?_)
 refine awp_seq (awp_region_run (sh := [3]) tyOk (by simp [go_sem, hz1] <;> rfl) ?_)
 refine awp_seq (awp_region_run (sh := [8]) tyOk (by simp [go_sem, hz1] <;> rfl) ?_)
 refine awp_seq (awp_reg ?_)
 refine aL 2 (by simp [go_sem, hz1] <;> rfl) ?_
 refine al_callW rfl rfl rfl (by simp [go_sem, hz1] <;> rfl) call181 (c_walk d hd [] (by simp; omega) [] [] _ σ.objs.length (σ.objs.length + 1) (σ.objs.length + 2) (by exact hgl) (by simp [tK, tV]) (by simp) (by simp)) (by simp [go_sem, hz1] <;> rfl) (by simp [go_sem, hz1, wPV, encSc]) rfl rfl ?_
 rintro r σ' ⟨rfl, rfl⟩
 refine al_nil ?_
 refine awp_seq (aR (by simp [go_sem, hz1] <;> rfl) ?_)
 refine awp_ret ?_
 refine ends_ret (by simp [go_sem, hz1] <;> rfl) (by simp [go_sem]) ?_
 exact ⟨by simp [go_sem, setS], by simp [go_sem, setS]⟩

set_option maxHeartbeats 1000000 in
theorem c_Keys (om : Nat) (σ : Store) : ACalls Tryz.prog 142 [.map om] σ (fun r σ' => r = .func (.func 219) [.ptr σ.objs.length 0] ∧ σ' = { σ with objs := σ.objs ++ [.box [.map om]] }) := by
 refine acalls_of tyOk Tryz.func142 rfl (by simp [Tryz.f142]) ?_
 refine awp_seq (awp_region_run (sh := [1]) tyOk (by simp [go_sem] <;> rfl) ?_)
 refine awp_seq (aR (by simp [go_sem] <;> rfl) ?_)
 refine awp_ret ?_
 refine ends_ret (by simp [go_sem] <;> rfl) (by simp [go_sem]) ?_
 exact ⟨by simp [go_sem], by simp [go_sem]⟩

set_option maxHeartbeats 1000000 in
theorem c_Open (d : D) (hd : d.size ≤ 100000000) (hl : (sfree d [] []).length ≤ 1000000000) (hs : ∀ s, s ∈ sfree d [] [] → s.size ≤ maxLen) : Pur Tryz.prog (GL kr) 71 [.pv (enc d)] (.pv (.slice ((sortB (sfree d [] [])).map .str))) := by
 refine pur_of fun σ hgl => ?_
 refine acalls_of tyOk Tryz.func71 rfl (by simp [Tryz.f71]) ?_
 refine awp_seq (aR (by simp [go_sem] <;> rfl) ?_)
 refine awp_seq (awp_reg ?_)
 refine aL 1 (by simp [go_sem] <;> rfl) ?_
 refine al_callW rfl rfl rfl (by simp [go_sem] <;> rfl) call113 (c_scFree d hd _ (by exact hgl)) (by simp [go_sem] <;> rfl) (by simp [go_sem]) rfl rfl ?_
 rintro r σ' ⟨rfl, rfl⟩
 refine al_callW rfl rfl rfl (by simp [go_sem] <;> rfl) call142 (c_Keys σ.objs.length _) (by simp [go_sem] <;> rfl) (by simp [go_sem]) rfl rfl ?_
 rintro r σ' ⟨rfl, rfl⟩
 refine al_callW rfl rfl rfl (by simp [go_sem] <;> rfl) call141 (c_Sorted (o := σ.objs.length + 1) (om := σ.objs.length) (S := sfree d [] []) (by simp [go_sem]) (by simp [go_sem]) hl hs) (by simp [go_sem] <;> rfl) (by simp [go_sem]) rfl rfl ?_
 rintro r σ' ⟨rfl, rfl⟩
 refine aL 1 (by simp [go_sem] <;> rfl) ?_
 refine al_nil ?_
 refine awp_ret ?_
 refine ends_ret (by simp [go_sem] <;> rfl) (by simp [go_sem]) ?_
 exact ⟨by simp [go_sem], by simp [go_sem]⟩

/-- What Free says. -/
def sFree (d : D) : PV × Int := if (sis d != 0) = true then (.nils, sis d) else (.slice ((sortB (sfree d [] [])).map .str), 0)

set_option maxHeartbeats 1000000 in
theorem c_sFree (d : D) (hd : d.size ≤ 100000000) (hl : (sfree d [] []).length ≤ 1000000000) (hs : ∀ s, s ∈ sfree d [] [] → s.size ≤ maxLen) : Pur Tryz.prog (GL kr) 20 [.pv (enc d)] (.tuple [.pv (sFree d).1, .pv (.int .i64 (sFree d).2)]) := by
 refine pur_of fun σ hgl => ?_
 refine acalls_of tyOk Tryz.func20 rfl (by simp [Tryz.f20]) ?_
 refine awp_seq (aR (by simp [go_sem] <;> rfl) ?_)
 refine awp_seq (awp_seq (awp_reg ?_))
 refine aL 1 (by simp [go_sem] <;> rfl) ?_
 refine aF call70 ((c_sIs d hd) _ (by exact hgl)) (by simp [go_sem] <;> rfl) (by simp [go_sem]) ?_
 refine aL 1 (by simp [go_sem] <;> rfl) ?_
 refine al_nil ?_
 refine awp_seq (aR (by simp [go_sem] <;> rfl) ?_)
 refine awp_cond (by first | rfl | (simp [go_sem] <;> rfl)) (fun h0 => ?_) (fun h0 => ?_)
 ·refine awp_seq ?_
  refine aR (by simp [go_sem] <;> rfl) ?_
  refine awp_ret ?_
  refine then_ret ?_
  refine ends_ret (by simp [go_sem] <;> rfl) (by simp [go_sem]) ?_
  exact ⟨by simp only [sFree, h0, bA, bB, bC, bD, bE, bF, bG, bH, bI, bJ, Bool.false_eq_true, if_true, if_false]; simp [go_sem], by simp [go_sem]⟩
 ·refine awp_skip ?_
  refine awp_seq (awp_reg ?_)
  refine aL 1 (by simp [go_sem] <;> rfl) ?_
  refine aF call71 ((c_Open d hd hl hs) _ (by exact hgl)) (by simp [go_sem] <;> rfl) (by simp [go_sem]) ?_
  refine aL 2 (by simp [go_sem] <;> rfl) ?_
  refine al_nil ?_
  refine awp_ret ?_
  refine ends_ret (by simp [go_sem] <;> rfl) (by simp [go_sem]) ?_
  exact ⟨by simp only [sFree, h0, bA, bB, bC, bD, bE, bF, bG, bH, bI, bJ, Bool.false_eq_true, if_true, if_false]; simp [go_sem], by simp [go_sem]⟩

end Go.Proofs.YtnibcmaaehkhlaaGreatDoor

namespace Go.Proofs.YtnibcmaaehkhlaaGreatDoor
open Go Go.Aw
variable {kr : KR}
set_option maxHeartbeats 4000000 in
theorem c_FlatExpr (p : D) (args : List D) (σ : Store) (hσ : σ = ⟨(GL kr), [], []⟩) : PurAt Tryz.prog σ 3 [.pv (enc p), .pv (.slice (args.map enc))] (.pv (.bool true)) := by
 have hgl : σ.gl = (GL kr) := by rw [hσ]
 refine purAt_of ?_
 refine acalls_of tyOk Tryz.func3 rfl (by simp [Tryz.f3]) ?_
 refine awp_seq (aR (by simp [go_sem, enc_none] <;> rfl) ?_)
 refine awp_seq (awp_reg ?_)
 refine aL 1 (by simp [go_sem, enc_none] <;> rfl) ?_
 refine al_callW rfl rfl rfl (by simp [go_sem, enc_none] <;> rfl) call15 (c_Cut17 p σ hgl) (by simp [go_sem, enc_none] <;> rfl) (by simp [go_sem, enc_none]) rfl rfl ?_
 rintro r σ1 ⟨x, rfl, hs1, hx⟩
 rw [hs1]
 clear hs1 σ1
 refine aL 1 (by simp [go_sem, enc_none] <;> rfl) ?_
 refine al_callW rfl rfl rfl (by simp [go_sem, enc_none] <;> rfl) call16 (c_CutAll args σ hgl) (by simp [go_sem, enc_none] <;> rfl) (by simp [go_sem, enc_none]) rfl rfl ?_
 rintro r σ1 ⟨a, rfl, hs1, ha10, has⟩
 rw [hs1]
 clear hs1 σ1
 obtain ⟨c, hc⟩ : ∃ v0, v0 = (fexpr x a).1 := ⟨_, rfl⟩
 obtain ⟨ec, hec⟩ : ∃ v0, v0 = (fexpr x a).2 := ⟨_, rfl⟩
 have hPc : Pur Tryz.prog (GL kr) 14 [.pv (enc x), .pv (.slice (a.map enc))] (.tuple [.pv (enc c), .pv (.int .i64 ec)]) := by rw [hc, hec]; exact c_flat_Expr x (by omega) a (by omega) has
 have hzc : c.size ≤ 100000000 := by have h := fexpr_size x a; rw [← hc] at h; have h2 := sizes_bound has; omega
 refine aF call14 ((hPc) _ (by exact hgl)) (by simp [go_sem, enc_none] <;> rfl) (by simp [go_sem, enc_none]) ?_
 refine aL 6 (by simp [go_sem, enc_none] <;> rfl) ?_
 refine al_nil ?_
 refine awp_seq (awp_seq (aR (by simp [go_sem, enc_none] <;> rfl) ?_))
 refine awp_cond (by first | rfl | (simp [go_sem, enc_none] <;> rfl)) (fun h20 => ?_) (fun h20 => ?_)
 ·have hne : (fexpr x a).2 ≠ 0 := by rw [← hec]; simpa using h20
  have q1 : deq c dnone = true := by rw [hc, fexpr_bad2 hne]; exact deq_refl _
  refine awp_seq (awp_reg ?_)
  refine aL 2 (by simp [go_sem, enc_none, q1] <;> rfl) ?_
  refine aF call17 ((c_Same c (by omega) dnone) _ (by exact hgl)) (by simp [go_sem, enc_none, q1] <;> rfl) (by simp [go_sem, enc_none, q1]) ?_
  refine aL 1 (by simp [go_sem, enc_none, q1] <;> rfl) ?_
  refine al_splitT 27 (by first | rfl | (simp [go_sem, enc_none, q1] <;> rfl)) (fun h21 => ?_) (fun h21 => ?_)
  ·refine al_fnG 27 true true (by simp [go_sem]) rfl (by simp [go_sem]) rfl rfl (by simp [go_sem, enc_none, q1] <;> rfl) call18 (c_alive σ hσ) (by simp [go_sem, enc_none, q1] <;> rfl) (by simp [go_sem, enc_none, q1]) rfl rfl ?_
   refine aL 2 (by simp [go_sem, enc_none, q1] <;> rfl) ?_
   refine al_nil ?_
   refine awp_ret ?_
   refine then_ret ?_
   refine ends_ret (by simp [go_sem, enc_none, q1] <;> rfl) (by simp [go_sem]) ?_
   exact ⟨by simp [go_sem], by simp [go_sem]⟩
  ·first | (cases h21; done) | (simp at h21; done)
 ·have hez : (fexpr x a).2 = 0 := by rw [← hec]; simpa using h20
  have hok := fexpr_good (by omega) hez
  rw [← hc] at hok
  obtain ⟨k1, k2, k3, k4, k5⟩ := hok
  have hsc : schk c = (.nils, 0) := by unfold schk; rw [if_neg (by rw [k1]; decide), if_neg (by rw [k2]; decide)]
  have hCk : Pur Tryz.prog (GL kr) 19 [.pv (enc c)] (.tuple [.pv .nils, .pv (.int .i64 0)]) := by have h := c_sCheck (kr := kr) c (by omega); rw [hsc] at h; exact h
  obtain ⟨names, hnm⟩ : ∃ v0, v0 = sortB (sfree c [] []) := ⟨_, rfl⟩
  have hsf : sFree c = (.slice (names.map .str), 0) := by unfold sFree sis; rw [hsc, if_neg (by decide), hnm]
  have hFr : Pur Tryz.prog (GL kr) 20 [.pv (enc c)] (.tuple [.pv (.slice (names.map .str)), .pv (.int .i64 0)]) := by have h := c_sFree (kr := kr) c (by omega) k3 k4; rw [hsf] at h; exact h
  rw [← hnm] at k5
  have hnl : names.length ≤ 1000000000 := by rw [hnm]; unfold sortB; rw [List.length_map, List.length_mergeSort, List.length_map]; exact k3
  refine awp_skip ?_
  refine awp_seq (awp_reg ?_)
  refine aL 1 (by simp [go_sem, enc_none] <;> rfl) ?_
  refine aF call19 ((hCk) _ (by exact hgl)) (by simp [go_sem, enc_none] <;> rfl) (by simp [go_sem, enc_none]) ?_
  refine aL 5 (by simp [go_sem, enc_none] <;> rfl) ?_
  refine al_nil ?_
  refine awp_seq (awp_reg ?_)
  refine aL 1 (by simp [go_sem, enc_none] <;> rfl) ?_
  refine aF call20 ((hFr) _ (by exact hgl)) (by simp [go_sem, enc_none] <;> rfl) (by simp [go_sem, enc_none]) ?_
  refine aL 5 (by simp [go_sem, enc_none] <;> rfl) ?_
  refine al_nil ?_
  refine awp_seq (awp_seq (awp_reg ?_))
  refine aL 3 (by simp [go_sem, enc_none] <;> rfl) ?_
  refine al_splitT 42 (by first | rfl | (simp [go_sem, enc_none] <;> rfl)) (fun h22 => ?_) (fun h22 => ?_)
  ·first | (cases h22; done) | (simp at h22; done)
  ·refine aLG 3 42 false (by simp [go_sem, enc_none] <;> rfl) ?_
   refine aL 2 (by simp [go_sem, enc_none] <;> rfl) ?_
   refine al_splitT 47 (by first | rfl | (simp [go_sem, enc_none] <;> rfl)) (fun h23 => ?_) (fun h23 => ?_)
   ·first | (cases h23; done) | (simp at h23; done)
   ·refine aLG 2 47 false (by simp [go_sem, enc_none] <;> rfl) ?_
    refine aL 1 (by simp [go_sem, enc_none] <;> rfl) ?_
    refine al_nil ?_
    refine awp_cond (by first | rfl | (simp [go_sem, enc_none] <;> rfl)) (fun h24 => ?_) (fun h24 => ?_)
    ·first | (cases h24; done) | (simp at h24; done)
    ·refine awp_skip ?_
     refine awp_seq (awp_seq (aR (by simp [go_sem, enc_none] <;> rfl) ?_))
     refine awp_block ?_
     refine awp_loop_headK σ.objs.length σ.toks.length 2 [4, 9] (fun k : Nat => [(11, .pv (.int .i64 ↑k))]) (fun k => σ) (fun k => k ≤ names.length) (fun k => names.length - k) 0 (Nat.zero_le _) ⟨by simp [go_sem, enc_none], rfl, by simp, by simp, by simp [go_sem, enc_none], fun ob h => .inl (by simpa [go_sem, enc_none] using h), by simp [go_sem]⟩ ?_
     intro k hk
     refine awp_seq (awp_seq (aR (by simp [go_sem, enc_none] <;> rfl) ?_))
     refine awp_cond (by first | rfl | (simp [go_sem, enc_none] <;> rfl)) (fun h25 => ?_) (fun h25 => ?_)
     ·have hlt : k < names.length := by simp at h25; omega
      have hw : IntKind.i64.wrap (↑k + 1) = (k : Int) + 1 := wrap_succ (by omega)
      obtain ⟨y, hy, hym⟩ := get_lt hlt
      have hpr := k5 y hym
      refine awp_skip ?_
      refine awp_seq (awp_block ?_)
      refine awp_seq (awp_reg ?_)
      refine aL 4 (by simp [go_sem, enc_none, hy, hpr] <;> rfl) ?_
      refine aF call21 ((c_Arity07 y) _ (by exact hgl)) (by simp [go_sem, enc_none, hy, hpr] <;> rfl) (by simp [go_sem, enc_none, hy, hpr]) ?_
      refine aL 5 (by simp [go_sem, enc_none, hy, hpr] <;> rfl) ?_
      refine al_nil ?_
      refine awp_seq (aR (by simp [go_sem, enc_none, hy, hpr] <;> rfl) ?_)
      refine awp_cond (by first | rfl | (simp [go_sem, enc_none, hy, hpr] <;> rfl)) (fun h26 => ?_) (fun h26 => ?_)
      ·first | (cases h26; done) | (simp at h26; done)
      ·refine awp_skip ?_
       refine aR (by simp [go_sem, enc_none, hy, hpr] <;> rfl) ?_
       exact next_intro (k + 1) σ.objs.length σ.toks.length 2 (hlt) (by omega) ⟨by simp [go_sem, enc_none, hy, hpr, hw], rfl, by simp, by simp, by simp [go_sem, enc_none, hy, hpr, hw], fun ob h => .inl (by simpa [go_sem, enc_none, hy, hpr, hw] using h), by simp [go_sem]⟩
     ·have hke : k = names.length := by simp at h25; omega
      subst hke
      refine awp_exit ?_
      refine then_exit ?_
      refine then_exit ?_
      refine inBlock_hit ?_
      refine awp_seq (awp_reg ?_)
      refine aF call18 (c_alive σ hσ) (by simp [go_sem, enc_none] <;> rfl) (by simp [go_sem, enc_none]) ?_
      refine aL 1 (by simp [go_sem, enc_none] <;> rfl) ?_
      refine al_nil ?_
      refine awp_ret ?_
      refine ends_ret (by simp [go_sem, enc_none] <;> rfl) (by simp [go_sem]) ?_
      exact ⟨by simp [go_sem], by simp [go_sem]⟩

end Go.Proofs.YtnibcmaaehkhlaaGreatDoor

namespace Go.Proofs.YtnibcmaaehkhlaaGreatDoor
open Go Go.Aw
variable {kr : KR}
theorem dty : DatumTy Tryz.prog 24 22 3 2 9 :=
  { und := ⟨_, _, _, _, Tryz.underlying24, rfl, rfl, rfl, rfl, rfl, rfl, rfl, rfl⟩, i := Tryz.underlying3, n := Tryz.underlying2, s := Tryz.underlying9, k := Tryz.underlying22, cD := by kernel_rfl, ci := by kernel_rfl, cn := by kernel_rfl, cs := by kernel_rfl, ck := by kernel_rfl }
theorem gReserved : Tryz.prog.globalNamed "pagoda/node.reserved" = some 2 := by kernel_rfl
theorem gWords : Tryz.prog.globalNamed "pagoda/syntax.words" = some 0 := by kernel_rfl
theorem tWords : (Tryz.prog.globals[0]?).map (·.type) = some 131 := by kernel_rfl
theorem gPrim : Tryz.prog.globalNamed "pagoda/prim.names" = some 3 := by kernel_rfl
theorem tReserved : (Tryz.prog.globals[2]?).map (·.type) = some 95 := by kernel_rfl
theorem tPrim : (Tryz.prog.globals[3]?).map (·.type) = some 247 := by kernel_rfl
theorem tPow : (Tryz.prog.globals[4]?).map (·.type) = some 270 := by kernel_rfl
theorem rows_pow : (Rows.laid_internal_strconv_uint64pow10 : DataW Unit) = Lib.tabData .u64 Lib.pow10Tab := by kernel_rfl
def wdS : List (List UInt8 × Int) := [([102, 110], 5), ([105, 102], 4), ([108, 101, 116], 6), ([113, 117, 111, 116, 101], 3), ([114, 101, 99], 7), ([115, 101, 113], 8), ([117, 112], 9)]
theorem rows_words : (Rows.laid_pagoda_syntax_words : DataW Unit) = .map (wdS.map datWd) := by kernel_rfl
theorem wdS_perm : wdS.Perm wordsB := List.isPerm_iff.1 (by kernel_rfl)
/-- What the row's listed variables are when the call begins. -/
theorem of_laid {W : World} (h : laidMetH Tryz.prog [("math/bits.deBruijn32tab", Rows.laid_math_bits_deBruijn32tab), ("math/bits.deBruijn64tab", Rows.laid_math_bits_deBruijn64tab), ("internal/strconv.uint64pow10", Rows.laid_internal_strconv_uint64pow10), ("pagoda/node.reserved", Rows.laid_pagoda_node_reserved), ("pagoda/prim.names", Rows.laid_pagoda_prim_names), ("pagoda/syntax.words", Rows.laid_pagoda_syntax_words)] W) :
    ∃ kr : KR, ∀ n p, (n, p) ∈ (GL kr) → RP W.heap.size (fun _ _ => False) W p (.pointer (some ⟨n, 0, none⟩)) := by
  rw [MakeChecks.laidMetH_plain _ _ _ (by kernel_rfl)] at h
  obtain ⟨ps, ⟨_, _, _, _, _, _, _, _, _, _, ⟨_, _, _, _, _, _, _, _, _, _, ⟨g2, t2, cs2, f2, p2, q2, hg2, ht2, hv2, hd2, ⟨g0, t0, cs0, f0, p0, q0, hg0, ht0, hv0, hd0, ⟨g1, t1, cs1, f1, p1, q1, hg1, ht1, hv1, hd1, ⟨g7, t7, cs7, f7, p7, q7, hg7, ht7, hv7, hd7, _, _⟩, _⟩, _⟩, _⟩, _⟩, _⟩, _, _⟩ := h
  obtain rfl := Option.some.inj (gReserved.symm.trans hg0)
  obtain rfl := Option.some.inj (gWords.symm.trans hg7)
  obtain rfl := Option.some.inj (tWords.symm.trans ht7)
  obtain rfl := Option.some.inj (gPrim.symm.trans hg1)
  obtain rfl := Option.some.inj (gPow.symm.trans hg2)
  obtain rfl := Option.some.inj (tReserved.symm.trans ht0)
  obtain rfl := Option.some.inj (tPrim.symm.trans ht1)
  obtain rfl := Option.some.inj (tPow.symm.trans ht2)
  rw [rows_words] at hd7
  obtain ⟨bw, krw, hc7, hrp7⟩ := open_words (S := fun _ _ => False) Tryz.underlying131 Tryz.underlying9 Tryz.underlying3 hd7 wdS_perm
  obtain ⟨b, l, hc0, hl, hrp0⟩ := open_set (S := fun _ _ => False) (names := resNames) Tryz.underlying95 Tryz.underlying9 Tryz.underlying4 hd0
  obtain ⟨v, hc1, hone, hrp1⟩ := open_table (S := fun _ _ => False) (L := primNames) Tryz.underlying247 Tryz.underlying248 Tryz.underlying9 Tryz.underlying3 rfl rfl (by kernel_rfl) (by kernel_rfl) (by kernel_rfl) hd1
  rw [rows_pow] at hd2
  have hc2 := Lib.cells_of_tab Tryz.underlying270 Tryz.underlying175 (by kernel_rfl) (by kernel_rfl) hd2
  have hblk : ∃ e c, W.heap[(4 : Nat)]? = some (.cells (Lib.pow10Tab.map (Value.int .u64)).toArray e c) := by
    simp only [World.var?, gPow, Option.bind_some] at hv2
    split at hv2
    · rename_i cs e c hh
      cases hv2
      refine ⟨e, c, ?_⟩
      rw [hh, ← Array.toArray_toList (xs := cs2), hc2]
    · cases hv2
  obtain ⟨e2, c2, hblk⟩ := hblk
  have hcell0 : W.cell? ⟨2, 0, none⟩ = some (.map (some b)) := by
    have := World.var?_cell hg0 hv0 0
    rw [Array.eq_one_of_toList hc0] at this
    simpa using this
  have hcell7 : W.cell? ⟨0, 0, none⟩ = some (.map (some bw)) := by
    have := World.var?_cell hg7 hv7 0
    rw [Array.eq_one_of_toList hc7] at this
    simpa using this
  have hcell1 : W.cell? ⟨3, 0, none⟩ = some v := by
    have := World.var?_cell hg1 hv1 0
    rw [Array.eq_one_of_toList hc1] at this
    simpa using this
  refine ⟨⟨resO l hl, krw⟩, fun n p hm => ?_⟩
  simp only [GL, List.cons_append, List.nil_append, List.mem_cons, Prod.mk.injEq, List.not_mem_nil, or_false] at hm
  rcases hm with ⟨rfl, rfl⟩ | ⟨rfl, rfl⟩ | ⟨rfl, rfl⟩ | ⟨rfl, rfl⟩
  · rw [resV_of hl] at hrp0
    exact rp_var (cell_lt hcell0) hcell0 rfl hrp0
  · exact rp_var (cell_lt hcell7) hcell7 rfl hrp7
  · rw [primV_of] at hrp1
    exact rp_var (cell_lt hcell1) hcell1 hone hrp1
  · refine RP.tab ?_ hblk
    by_cases hlt : 4 < W.heap.size
    · exact hlt
    · rw [Array.getElem?_eq_none (by show W.heap.size ≤ _; omega)] at hblk; cases hblk

end Go.Proofs.YtnibcmaaehkhlaaGreatDoor

namespace Go.Proofs.YtnibcmaaehkhlaaGreatDoor
open Go Go.Aw
variable {kr : KR}
open Go.ChangeShapes Go.WideShapes Go.ChangeAt Go.WideMaps Go.WideElems Go.RowKit
theorem own : ownKnob Tryz.prog.godebug = none := by kernel_rfl
theorem laidOut : laidOutB Tryz.prog = true := by kernel_rfl
theorem door_met (os : Os) (args : Array Value) : laidMetH Tryz.prog Rows.flatExprRow.laid ((World.doorLaid Tryz.prog 400 os).forCall (fun _ _ => 0) ⟨#[], args, []⟩).memory :=
  laidMetH_of_parts3 (fuel := 8) (laidMet_of_run' 8 (by kernel_rfl) (by kernel_rfl)) (by kernel_rfl) (by kernel_rfl)
/-- The call, as the machine makes it. -/
theorem flatExpr_calls {W : World} (hL : laidMetH Tryz.prog Rows.flatExprRow.laid W) {v0 v1 : Value} {d0 : D} {d1 : List D} (h0 : RP W.heap.size (fun _ _ => False) W (enc d0) v0) (h1 : RP W.heap.size (fun _ _ => False) W (.slice (d1.map enc)) v1) :
    Calls Tryz.prog 3 #[v0, v1] W fun r W' => r = .returned (.bool true) ∧ Below W.heap.size W W' := by
  obtain ⟨kr, hg⟩ := of_laid hL
  refine (c_FlatExpr (kr := kr) d0 d1 ⟨(GL kr), [], []⟩ rfl (g0 W) W [v0, v1] (inv0 hg) rfl (fun i x v hx hv => ?_)).mono ?_
  · match i with
    | 0 => simp at hx hv; subst hx hv; exact .pv h0
    | 1 => simp at hx hv; subst hx hv; exact .pv h1
    | i + 2 => simp at hx
  · rintro r W' ⟨v, x, σ', g', rfl, ⟨rfl, rfl⟩, _, hext, hra⟩
    rw [hra.pv_inv.bool_inv]
    exact ⟨rfl, below_of hext⟩
abbrev zeroDatum : Value := .agg #[.int .i64 0, .int .i64 0, .string ⟨#[]⟩, .slice none 0 0]
set_option maxRecDepth 100000 in
theorem flatExpr_lifted (os : Os) (started : os.Started) (H : Type) (enc' : TypeId × Value → H) :
    ReturnsInHanded {} Tryz.checked os 3 .any (fun w args => (Rows.flatExprSpec.pre enc' Tryz.prog Tryz.f3 [] false w args ∧ laidMetH Tryz.prog Rows.flatExprRow.laid w) ∧ sizedMet enc' Tryz.prog Tryz.f3 (OpenSpec.ofChange Rows.flatExprSpec) false w args)
      (Rows.flatExprSpec.post enc' Tryz.prog Tryz.f3 false true false false) := by
  refine returnsInHanded_of_change_and (C := Tryz.checked) (X := fun w _ => laidMetH Tryz.prog Rows.flatExprRow.laid w) (fun _ _ _ hh h => h.of_heap hh) own started (by kernel_rfl) Tryz.func3
    (ChangeSpec.witness_shaped (enc := enc') (C := Tryz.checked) (os := os) (X := fun w _ => laidMetH Tryz.prog Rows.flatExprRow.laid w) false (World.doorLaid Tryz.prog 400 os) #[zeroDatum, .slice none 0 0] 8 rfl (World.shaped_of_RefB (by kernel_rfl) (by kernel_rfl)) (by kernel_rfl) (by kernel_rfl) (by kernel_rfl) (door_met os _)) ?_
  intro W base args ds gs before hval0 hW _ _ hL _
  have hW' := hW
  obtain ⟨p, q, hA0, hV, rfl, hfz, hnd⟩ := hW
  have hA : DataW.TrodAll enc' Tryz.prog W 0 (fun _ => true) true Tryz.f3.params.toList args.toList ds p := hA0
  rw [Tryz.params3] at hA
  obtain ⟨v0, v1, x0, x1, p0, p1, rfl, rfl, rfl, h0, h1⟩ := trodAll_two hA
  obtain ⟨rfl, rfl⟩ := trodVars_none hV
  clear hA0
  simp only [List.append_nil] at hW'
  obtain ⟨n0, t0⟩ := id h0
  obtain ⟨n1, t1⟩ := id h1
  obtain ⟨e0, u0, hc0, ho0, hr0⟩ := open_datum (S := fun _ _ => False) dty n0 _ _ t0
  have hv0 := open_agg hc0
  obtain ⟨e1, u1, hc1, hr1⟩ := open_data (S := fun _ _ => False) dty t1
  have hv1 := open_sliceV dty.k (hval0 1 22 v1 rfl rfl) hc1
  clear hval0
  have hlt := hW'.lt
  refine (flatExpr_calls hL (hv0 ▸ rp_datum ho0 hr0) (hv1 ▸ hr1)).mono fun r W' ⟨hr, hb⟩ => ?_
  subst hr
  exact ⟨_, rfl, post_of_below (pa := p0 ++ p1) (pv := []) hW' (fun _ _ _ => trodAll_mk1 (shut_bool Tryz.underlying4 true))
    (fun sp hs => trodAll_mk2 (Trod_stays laidOut (by kernel_rfl) (of_decide_eq_true (by kernel_rfl)) h0 (fun x hx => hb.same (hlt x (by simp [hx]))) (fun x hx => hs x (by simp [hx]))) (Trod_stays laidOut (by kernel_rfl) (of_decide_eq_true (by kernel_rfl)) h1 (fun x hx => hb.same (hlt x (by simp [hx]))) (fun x hx => hs x (by simp [hx]))))
    (fun _ _ => rfl) (by simp) hb (ok_one (by kernel_rfl) rfl (okWide_bool_mk Tryz.underlying4 _))⟩
set_option maxHeartbeats 40000000 in
theorem flatExpr_holds : Rows.FlatExprSaid :=
  OpenClaim.holds_of_wide 3 Tryz.f3 rfl rfl rfl rfl rfl rfl rfl ⟨rfl, rfl, rfl, rfl, rfl⟩ rfl rfl rfl rfl rfl (by decide +kernel) Tryz.func3 (by unfold joinedFacts; simp only [Bool.and_eq_true]; (repeat' apply And.intro) <;> decide +kernel)
    (by decide +kernel) (by unfold Func.isWrapper; rw [if_neg (by decide +kernel)]; exact ⟨rfl, rfl⟩)
    (fun os started H enc _ => flatExpr_lifted os started H enc)
set_option maxHeartbeats 40000000 in
/-- The tied card. -/
theorem flatExprCard_holds : Rows.FlatExprCardSaid :=
  Claim7.holds_tied_plain_at .later [] [.data, .data, .data, .mapped, .data, .mapped] true (true, "dac5ead38f8f78ed52b4c3207160db55c8c8b221271906829ef3bba86f1a7811") true
    flatExpr_holds (fun _ h => by cases h) (by decide +kernel) (fun _ h => by cases h) flatExpr_row_tie rfl ⟨rfl, rfl⟩ (by decide +kernel) rfl
    (fun f fn hf hfn => by
      obtain rfl : f = 3 := Option.some.inj ((show Tryz.prog.funcNamed "pagoda/pagodalaw17.FlatExpr" = some 3 by decide +kernel).symm.trans hf) |>.symm
      obtain rfl : fn = Tryz.f3 := (Option.some.inj (Tryz.func3.symm.trans hfn)).symm
      exact ⟨by decide +kernel, fun j t ht => by
        rw [Tryz.params3] at ht
        rcases j with _ | _ | j
        · obtain rfl : 24 = t := by simpa using ht
          exact (show Tryz.prog.wantsStandIn 24 = false by decide +kernel)
        · obtain rfl : 22 = t := by simpa using ht
          exact (show Tryz.prog.wantsStandIn 22 = false by decide +kernel)
        · simp at ht⟩)
    (by decide +kernel)
end Go.Proofs.YtnibcmaaehkhlaaGreatDoor
