/- Part of the proof that the statement holds for every input that its row lets in: the contracts of the program's functions, printed by a program out of annotations; the statement itself stands at the end of the last part. -/
import Derived.Test.YtienmmfjjffjaaaGreatDoorZS4
import Derived.Test.YtienmmfjjffjaaaGreatDoorCards
import Derived.Test.YtienmmfjjffjaaaGreatDoorTie
set_option linter.unusedSimpArgs false
set_option linter.unusedVariables false
/- FlatJoins: for every two data the law returns true, and they read as they did. -/
namespace Go.Proofs.YtienmmfjjffjaaaGreatDoor
open Go Go.Aw
variable {kr : ResO}
open Go.ChangeShapes Go.WideShapes Go.ChangeAt Go.WideMaps Go.WideElems Go.RowKit
theorem own : ownKnob Tryz.prog.godebug = none := by kernel_rfl
theorem laidOut : laidOutB Tryz.prog = true := by kernel_rfl
theorem door_met (os : Os) (args : Array Value) : laidMetH Tryz.prog Rows.flatJoinsRow.laid ((World.doorLaid Tryz.prog 90 os).forCall (fun _ _ => 0) ⟨#[], args, []⟩).memory :=
  laidMetH_of_parts3 (fuel := 8) (laidMet_of_run' 8 (by kernel_rfl) (by kernel_rfl)) (by kernel_rfl) (by kernel_rfl)
/-- The call, as the machine makes it. -/
theorem flatJoins_calls {W : World} (hL : laidMetH Tryz.prog Rows.flatJoinsRow.laid W) {v0 v1 : Value} {d0 d1 : D} (h0 : RP W.heap.size (fun _ _ => False) W (enc d0) v0) (h1 : RP W.heap.size (fun _ _ => False) W (enc d1) v1) :
    Calls Tryz.prog 7 #[v0, v1] W fun r W' => r = .returned (.bool true) ∧ Below W.heap.size W W' := by
  obtain ⟨kr, hg⟩ := of_laid hL
  refine (c_FlatJoins (kr := kr) d0 d1 ⟨(GL kr), [], []⟩ rfl (g0 W) W [v0, v1] (inv0 hg) rfl (fun i x v hx hv => ?_)).mono ?_
  · match i with
    | 0 => simp at hx hv; subst hx hv; exact .pv h0
    | 1 => simp at hx hv; subst hx hv; exact .pv h1
    | i + 2 => simp at hx
  · rintro r W' ⟨v, x, σ', g', rfl, ⟨rfl, rfl⟩, _, hext, hra⟩
    rw [hra.pv_inv.bool_inv]
    exact ⟨rfl, below_of hext⟩
abbrev zeroDatum : Value := .agg #[.int .i64 0, .int .i64 0, .string ⟨#[]⟩, .slice none 0 0]
set_option maxRecDepth 100000 in
theorem flatJoins_lifted (os : Os) (started : os.Started) (H : Type) (enc' : TypeId × Value → H) :
    ReturnsInHanded {} Tryz.checked os 7 .any (fun w args => (Rows.flatJoinsSpec.pre enc' Tryz.prog Tryz.f7 [] false w args ∧ laidMetH Tryz.prog Rows.flatJoinsRow.laid w) ∧ sizedMet enc' Tryz.prog Tryz.f7 (OpenSpec.ofChange Rows.flatJoinsSpec) false w args)
      (Rows.flatJoinsSpec.post enc' Tryz.prog Tryz.f7 false true false false) := by
  refine returnsInHanded_of_change_and (C := Tryz.checked) (X := fun w _ => laidMetH Tryz.prog Rows.flatJoinsRow.laid w) (fun _ _ _ hh h => h.of_heap hh) own started (by kernel_rfl) Tryz.func7
    (ChangeSpec.witness_shaped (enc := enc') (C := Tryz.checked) (os := os) (X := fun w _ => laidMetH Tryz.prog Rows.flatJoinsRow.laid w) false (World.doorLaid Tryz.prog 90 os) #[zeroDatum, zeroDatum] 8 rfl (World.shaped_of_RefB (by kernel_rfl) (by kernel_rfl)) (by kernel_rfl) (by kernel_rfl) (by kernel_rfl) (door_met os _)) ?_
  intro W base args ds gs before hval0 hW _ _ hL _
  have hW' := hW
  obtain ⟨p, q, hA0, hV, rfl, hfz, hnd⟩ := hW
  have hA : DataW.TrodAll enc' Tryz.prog W 0 (fun _ => true) true Tryz.f7.params.toList args.toList ds p := hA0
  rw [Tryz.params7] at hA
  obtain ⟨v0, v1, x0, x1, p0, p1, rfl, rfl, rfl, h0, h1⟩ := trodAll_two hA
  obtain ⟨rfl, rfl⟩ := trodVars_none hV
  clear hA0 hval0
  simp only [List.append_nil] at hW'
  obtain ⟨n0, t0⟩ := id h0
  obtain ⟨n1, t1⟩ := id h1
  obtain ⟨e0, u0, hc0, ho0, hr0⟩ := open_datum (S := fun _ _ => False) dty n0 _ _ t0
  have hv0 := open_agg hc0
  obtain ⟨e1, u1, hc1, ho1, hr1⟩ := open_datum (S := fun _ _ => False) dty n1 _ _ t1
  have hv1 := open_agg hc1
  have hlt := hW'.lt
  refine (flatJoins_calls hL (hv0 ▸ rp_datum ho0 hr0) (hv1 ▸ rp_datum ho1 hr1)).mono fun r W' ⟨hr, hb⟩ => ?_
  subst hr
  exact ⟨_, rfl, post_of_below (pa := p0 ++ p1) (pv := []) hW' (fun _ _ _ => trodAll_mk1 (shut_bool Tryz.underlying4 true))
    (fun sp hs => trodAll_mk2 (Trod_stays laidOut (by kernel_rfl) (of_decide_eq_true (by kernel_rfl)) h0 (fun x hx => hb.same (hlt x (by simp [hx]))) (fun x hx => hs x (by simp [hx]))) (Trod_stays laidOut (by kernel_rfl) (of_decide_eq_true (by kernel_rfl)) h1 (fun x hx => hb.same (hlt x (by simp [hx]))) (fun x hx => hs x (by simp [hx]))))
    (fun _ _ => rfl) (by simp) hb (ok_one (by kernel_rfl) rfl (okWide_bool_mk Tryz.underlying4 _))⟩
theorem flatJoins_holds : Rows.FlatJoinsSaid :=
  OpenClaim.holds_of_wide 7 Tryz.f7 rfl rfl rfl rfl rfl rfl rfl ⟨rfl, rfl, rfl, rfl, rfl⟩ rfl rfl rfl rfl rfl (by kernel_rfl) Tryz.func7 (by kernel_rfl)
    (of_decide_eq_true (by kernel_rfl)) (by unfold Func.isWrapper; rw [if_neg (by decide +kernel)]; exact ⟨rfl, rfl⟩)
    (fun os started H enc _ => flatJoins_lifted os started H enc)
/-- The tied card. -/
theorem flatJoinsCard_holds : Rows.FlatJoinsCardSaid :=
  Claim7.holds_tied_plain_at .later [] [.data, .data, .data, .mapped, .data] true (true, "90130382fac7d9d0ed5a2357e0a309ea32f779a7967c3879cd180699234b33dc") false
    flatJoins_holds (fun _ h => by cases h) (by kernel_rfl) (fun _ h => by cases h) flatJoins_row_tie rfl ⟨rfl, rfl⟩ (by kernel_rfl) rfl
    (fun f fn hf hfn => by
      obtain rfl : f = 7 := Option.some.inj ((show Tryz.prog.funcNamed "pagoda/pagodalaw17.FlatJoins" = some 7 by kernel_rfl).symm.trans hf) |>.symm
      obtain rfl : fn = Tryz.f7 := (Option.some.inj (Tryz.func7.symm.trans hfn)).symm
      exact ⟨by kernel_rfl, fun j t ht => by
        rw [Tryz.params7] at ht
        have h3 : t = 24 := by
          rcases j with _ | _ | j
          · simpa using ht.symm
          · simpa using ht.symm
          · simp at ht
        subst h3
        exact (show Tryz.prog.wantsStandIn 24 = false by kernel_rfl)⟩)
    (by kernel_rfl)
end Go.Proofs.YtienmmfjjffjaaaGreatDoor
