/- Part of the proof that the statement holds for every input that its row lets in: the contracts of the program's functions, printed by a program out of annotations; the statement itself stands at the end of the last part. -/
import Derived.Shelf.LaysM
import Derived.Shelf.LaysC
import Derived.Shelf.Strconv.Itoa4
import Derived.Shelf.Strconv.AtoiAll
import Derived.Test.YtmpofjiokpeegaaGreatDoorZS1
import Derived.Test.YtmpofjiokpeegaaGreatDoorZA3
import Derived.Test.YtmpofjiokpeegaaGreatDoorZA4
set_option linter.unusedSimpArgs false
set_option linter.unusedVariables false
/- Numbers as strings and back; plain names. -/
namespace Go.Proofs.YtmpofjiokpeegaaGreatDoor
open Go Go.Aw
variable {kr : KR}
def ren171 : Go.Shelf.Ren := ⟨fun x => match x with | 171 => 89 | 243 => 137 | 246 => 184 | 283 => 207 | 284 => 208 | 285 => 209 | 286 => 210 | 129 => 178 | 317 => 218 | 318 => 219 | 319 => 220 | 320 => 221 | 337 => 227 | 338 => 228 | n => n, fun x => match x with | 0 => 0 | 2 => 2 | 3 => 3 | 4 => 4 | 5 => 5 | 9 => 9 | 20 => 20 | 37 => 214 | 46 => 137 | 51 => 191 | 53 => 193 | 171 => 220 | 173 => 222 | 212 => 237 | 213 => 238 | 232 => 247 | 233 => 248 | n => n, fun x => match x with | 17 => 4 | 18 => 5 | 19 => 6 | n => n⟩
theorem lays171 : Go.Proofs.LaysM.n171 Tryz.prog ren171 :=
  {
    mixed := by kernel_rfl,
    f129 := Eq.trans Tryz.func178 (congrArg some (by kernel_rfl)),
    f171 := Eq.trans Tryz.func89 (congrArg some (by kernel_rfl)),
    f243 := Eq.trans Tryz.func137 (congrArg some (by kernel_rfl)),
    f246 := Eq.trans Tryz.func184 (congrArg some (by kernel_rfl)),
    f283 := Eq.trans Tryz.func207 (congrArg some (by kernel_rfl)),
    f284 := Eq.trans Tryz.func208 (congrArg some (by kernel_rfl)),
    f285 := Eq.trans Tryz.func209 (congrArg some (by kernel_rfl)),
    f286 := Eq.trans Tryz.func210 (congrArg some (by kernel_rfl)),
    f317 := Eq.trans Tryz.func218 (congrArg some (by kernel_rfl)),
    f318 := Eq.trans Tryz.func219 (congrArg some (by kernel_rfl)),
    f319 := Eq.trans Tryz.func220 (congrArg some (by kernel_rfl)),
    f320 := Eq.trans Tryz.func221 (congrArg some (by kernel_rfl)),
    f337 := Eq.trans Tryz.func227 (congrArg some (by kernel_rfl)),
    f338 := Eq.trans Tryz.func228 (congrArg some (by kernel_rfl)),
    t0 := Tryz.underlying0,
    a0 := Tryz.isAgg0,
    z0 := Tryz.sizeOf0,
    v0 := Tryz.zeroValue0,
    t2 := Tryz.underlying2,
    a2 := Tryz.isAgg2,
    z2 := Tryz.sizeOf2,
    v2 := Tryz.zeroValue2,
    t3 := Tryz.underlying3,
    a3 := Tryz.isAgg3,
    z3 := Tryz.sizeOf3,
    v3 := Tryz.zeroValue3,
    t4 := Tryz.underlying4,
    a4 := Tryz.isAgg4,
    z4 := Tryz.sizeOf4,
    v4 := Tryz.zeroValue4,
    t5 := Tryz.underlying5,
    a5 := Tryz.isAgg5,
    z5 := Tryz.sizeOf5,
    v5 := Tryz.zeroValue5,
    t9 := Tryz.underlying9,
    a9 := Tryz.isAgg9,
    z9 := Tryz.sizeOf9,
    v9 := Tryz.zeroValue9,
    t20 := Tryz.underlying20,
    a20 := Tryz.isAgg20,
    z20 := Tryz.sizeOf20,
    v20 := Tryz.zeroValue20,
    t37 := Tryz.underlying214,
    a37 := Tryz.isAgg214,
    z37 := Tryz.sizeOf214,
    v37 := Tryz.zeroValue214,
    t46 := Tryz.underlying137,
    a46 := Tryz.isAgg137,
    z46 := Tryz.sizeOf137,
    v46 := Tryz.zeroValue137,
    t51 := Tryz.underlying191,
    a51 := Tryz.isAgg191,
    z51 := Tryz.sizeOf191,
    v51 := Tryz.zeroValue191,
    t53 := Tryz.underlying193,
    a53 := Tryz.isAgg193,
    z53 := Tryz.sizeOf193,
    v53 := Tryz.zeroValue193,
    t171 := Tryz.underlying220,
    a171 := Tryz.isAgg220,
    z171 := Tryz.sizeOf220,
    v171 := Tryz.zeroValue220,
    t173 := Tryz.underlying222,
    a173 := Tryz.isAgg222,
    z173 := Tryz.sizeOf222,
    v173 := Tryz.zeroValue222,
    t212 := Tryz.underlying237,
    a212 := Tryz.isAgg237,
    z212 := Tryz.sizeOf237,
    v212 := Tryz.zeroValue237,
    t213 := Tryz.underlying238,
    a213 := Tryz.isAgg238,
    z213 := Tryz.sizeOf238,
    t232 := Tryz.underlying247,
    a232 := Tryz.isAgg247,
    z232 := Tryz.sizeOf247,
    v232 := Tryz.zeroValue247,
    t233 := Tryz.underlying248,
    a233 := Tryz.isAgg248,
    z233 := Tryz.sizeOf248,
    v233 := Tryz.zeroValue248,
    g17 := by kernel_rfl,
    g18 := by kernel_rfl,
    g19 := by kernel_rfl,
    i0 := by kernel_rfl,
    i2 := by kernel_rfl,
    i3 := by kernel_rfl,
    i4 := by kernel_rfl,
    i5 := by kernel_rfl,
    i9 := by kernel_rfl,
    i20 := by kernel_rfl,
    i37 := by kernel_rfl,
    i46 := by kernel_rfl,
    i51 := by kernel_rfl,
    i53 := by kernel_rfl,
    i171 := by kernel_rfl,
    i173 := by kernel_rfl,
    i212 := by kernel_rfl,
    i232 := by kernel_rfl,
    i233 := by kernel_rfl,
    m17 := by kernel_rfl,
    m18 := by kernel_rfl,
    m19 := by kernel_rfl }
def ren172 : Go.Shelf.Ren := ⟨fun x => match x with | 171 => 89 | 243 => 137 | 246 => 184 | 283 => 207 | 284 => 208 | 285 => 209 | 286 => 210 | 129 => 178 | 317 => 218 | 318 => 219 | 319 => 220 | 320 => 221 | 337 => 227 | 338 => 228 | 172 => 133 | 205 => 217 | 244 => 182 | 245 => 183 | 247 => 202 | 279 => 203 | 280 => 204 | 281 => 205 | 282 => 206 | 287 => 215 | 316 => 216 | 321 => 225 | 322 => 226 | n => n, fun x => match x with | 0 => 0 | 2 => 2 | 3 => 3 | 4 => 4 | 5 => 5 | 9 => 9 | 20 => 20 | 21 => 21 | 37 => 214 | 46 => 137 | 51 => 191 | 53 => 193 | 75 => 153 | 76 => 154 | 80 => 249 | 85 => 215 | 127 => 243 | 143 => 244 | 145 => 246 | 167 => 213 | 168 => 217 | 171 => 220 | 173 => 222 | 175 => 229 | 210 => 233 | 212 => 237 | 213 => 238 | 232 => 247 | 233 => 248 | n => n, fun x => match x with | 15 => 2 | 16 => 3 | 17 => 4 | 18 => 5 | 19 => 6 | n => n⟩
theorem lays172 : Go.Proofs.LaysC.n172 Tryz.prog ren172 :=
  {
    mixed := by kernel_rfl,
    f129 := Eq.trans Tryz.func178 (congrArg some (by kernel_rfl)),
    f171 := Eq.trans Tryz.func89 (congrArg some (by kernel_rfl)),
    f172 := Eq.trans Tryz.func133 (congrArg some (by kernel_rfl)),
    f205 := Eq.trans Tryz.func217 (congrArg some (by kernel_rfl)),
    f243 := Eq.trans Tryz.func137 (congrArg some (by kernel_rfl)),
    f244 := Eq.trans Tryz.func182 (congrArg some (by kernel_rfl)),
    f245 := Eq.trans Tryz.func183 (congrArg some (by kernel_rfl)),
    f246 := Eq.trans Tryz.func184 (congrArg some (by kernel_rfl)),
    f247 := Eq.trans Tryz.func202 (congrArg some (by kernel_rfl)),
    f279 := Eq.trans Tryz.func203 (congrArg some (by kernel_rfl)),
    f280 := Eq.trans Tryz.func204 (congrArg some (by kernel_rfl)),
    f281 := Eq.trans Tryz.func205 (congrArg some (by kernel_rfl)),
    f282 := Eq.trans Tryz.func206 (congrArg some (by kernel_rfl)),
    f283 := Eq.trans Tryz.func207 (congrArg some (by kernel_rfl)),
    f284 := Eq.trans Tryz.func208 (congrArg some (by kernel_rfl)),
    f285 := Eq.trans Tryz.func209 (congrArg some (by kernel_rfl)),
    f286 := Eq.trans Tryz.func210 (congrArg some (by kernel_rfl)),
    f287 := Eq.trans Tryz.func215 (congrArg some (by kernel_rfl)),
    f316 := Eq.trans Tryz.func216 (congrArg some (by kernel_rfl)),
    f317 := Eq.trans Tryz.func218 (congrArg some (by kernel_rfl)),
    f318 := Eq.trans Tryz.func219 (congrArg some (by kernel_rfl)),
    f319 := Eq.trans Tryz.func220 (congrArg some (by kernel_rfl)),
    f320 := Eq.trans Tryz.func221 (congrArg some (by kernel_rfl)),
    f321 := Eq.trans Tryz.func225 (congrArg some (by kernel_rfl)),
    f322 := Eq.trans Tryz.func226 (congrArg some (by kernel_rfl)),
    f337 := Eq.trans Tryz.func227 (congrArg some (by kernel_rfl)),
    f338 := Eq.trans Tryz.func228 (congrArg some (by kernel_rfl)),
    t0 := Tryz.underlying0,
    a0 := Tryz.isAgg0,
    z0 := Tryz.sizeOf0,
    v0 := Tryz.zeroValue0,
    t2 := Tryz.underlying2,
    a2 := Tryz.isAgg2,
    z2 := Tryz.sizeOf2,
    v2 := Tryz.zeroValue2,
    t3 := Tryz.underlying3,
    a3 := Tryz.isAgg3,
    z3 := Tryz.sizeOf3,
    v3 := Tryz.zeroValue3,
    t4 := Tryz.underlying4,
    a4 := Tryz.isAgg4,
    z4 := Tryz.sizeOf4,
    v4 := Tryz.zeroValue4,
    t5 := Tryz.underlying5,
    a5 := Tryz.isAgg5,
    z5 := Tryz.sizeOf5,
    v5 := Tryz.zeroValue5,
    t9 := Tryz.underlying9,
    a9 := Tryz.isAgg9,
    z9 := Tryz.sizeOf9,
    v9 := Tryz.zeroValue9,
    t20 := Tryz.underlying20,
    a20 := Tryz.isAgg20,
    z20 := Tryz.sizeOf20,
    v20 := Tryz.zeroValue20,
    t21 := Tryz.underlying21,
    a21 := Tryz.isAgg21,
    z21 := Tryz.sizeOf21,
    v21 := Tryz.zeroValue21,
    t37 := Tryz.underlying214,
    a37 := Tryz.isAgg214,
    z37 := Tryz.sizeOf214,
    v37 := Tryz.zeroValue214,
    t46 := Tryz.underlying137,
    a46 := Tryz.isAgg137,
    z46 := Tryz.sizeOf137,
    v46 := Tryz.zeroValue137,
    t51 := Tryz.underlying191,
    a51 := Tryz.isAgg191,
    z51 := Tryz.sizeOf191,
    v51 := Tryz.zeroValue191,
    t53 := Tryz.underlying193,
    a53 := Tryz.isAgg193,
    z53 := Tryz.sizeOf193,
    v53 := Tryz.zeroValue193,
    t75 := Tryz.underlying153,
    a75 := Tryz.isAgg153,
    z75 := Tryz.sizeOf153,
    v75 := Tryz.zeroValue153,
    t76 := Tryz.underlying154,
    a76 := Tryz.isAgg154,
    z76 := Tryz.sizeOf154,
    v76 := Tryz.zeroValue154,
    t85 := Tryz.underlying215,
    a85 := Tryz.isAgg215,
    z85 := Tryz.sizeOf215,
    v85 := Tryz.zeroValue215,
    t127 := Tryz.underlying243,
    a127 := Tryz.isAgg243,
    z127 := Tryz.sizeOf243,
    v127 := Tryz.zeroValue243,
    t143 := Tryz.underlying244,
    a143 := Tryz.isAgg244,
    z143 := Tryz.sizeOf244,
    v143 := Tryz.zeroValue244,
    t145 := Tryz.underlying246,
    a145 := Tryz.isAgg246,
    z145 := Tryz.sizeOf246,
    v145 := Tryz.zeroValue246,
    t167 := Tryz.underlying213,
    a167 := Tryz.isAgg213,
    z167 := Tryz.sizeOf213,
    v167 := Tryz.zeroValue213,
    t168 := Tryz.underlying217,
    a168 := Tryz.isAgg217,
    z168 := Tryz.sizeOf217,
    v168 := Tryz.zeroValue217,
    t171 := Tryz.underlying220,
    a171 := Tryz.isAgg220,
    z171 := Tryz.sizeOf220,
    v171 := Tryz.zeroValue220,
    t173 := Tryz.underlying222,
    a173 := Tryz.isAgg222,
    z173 := Tryz.sizeOf222,
    v173 := Tryz.zeroValue222,
    t175 := Tryz.underlying229,
    a175 := Tryz.isAgg229,
    z175 := Tryz.sizeOf229,
    v175 := Tryz.zeroValue229,
    t210 := Tryz.underlying233,
    a210 := Tryz.isAgg233,
    z210 := Tryz.sizeOf233,
    v210 := Tryz.zeroValue233,
    t212 := Tryz.underlying237,
    a212 := Tryz.isAgg237,
    z212 := Tryz.sizeOf237,
    v212 := Tryz.zeroValue237,
    t213 := Tryz.underlying238,
    a213 := Tryz.isAgg238,
    z213 := Tryz.sizeOf238,
    t232 := Tryz.underlying247,
    a232 := Tryz.isAgg247,
    z232 := Tryz.sizeOf247,
    v232 := Tryz.zeroValue247,
    t233 := Tryz.underlying248,
    a233 := Tryz.isAgg248,
    z233 := Tryz.sizeOf248,
    v233 := Tryz.zeroValue248,
    g15 := by kernel_rfl,
    g16 := by kernel_rfl,
    g17 := by kernel_rfl,
    g18 := by kernel_rfl,
    g19 := by kernel_rfl,
    t80 := Tryz.underlying249,
    a80 := Tryz.isAgg249,
    z80 := Tryz.sizeOf249,
    v80 := Tryz.zeroValue249,
    i0 := by kernel_rfl,
    i2 := by kernel_rfl,
    i3 := by kernel_rfl,
    i4 := by kernel_rfl,
    i5 := by kernel_rfl,
    i9 := by kernel_rfl,
    i20 := by kernel_rfl,
    i21 := by kernel_rfl,
    i37 := by kernel_rfl,
    i46 := by kernel_rfl,
    i51 := by kernel_rfl,
    i53 := by kernel_rfl,
    i75 := by kernel_rfl,
    i76 := by kernel_rfl,
    i80 := by kernel_rfl,
    i85 := by kernel_rfl,
    i127 := by kernel_rfl,
    i143 := by kernel_rfl,
    i145 := by kernel_rfl,
    i167 := by kernel_rfl,
    i168 := by kernel_rfl,
    i171 := by kernel_rfl,
    i173 := by kernel_rfl,
    i175 := by kernel_rfl,
    i210 := by kernel_rfl,
    i212 := by kernel_rfl,
    i232 := by kernel_rfl,
    i233 := by kernel_rfl,
    m15 := by kernel_rfl,
    m16 := by kernel_rfl,
    m17 := by kernel_rfl,
    m18 := by kernel_rfl,
    m19 := by kernel_rfl,
    c0 := by kernel_rfl,
    c2 := by kernel_rfl,
    c3 := by kernel_rfl,
    c4 := by kernel_rfl,
    c5 := by kernel_rfl,
    c9 := by kernel_rfl,
    c20 := by kernel_rfl,
    c21 := by kernel_rfl,
    c37 := by kernel_rfl,
    c46 := by kernel_rfl,
    c51 := by kernel_rfl,
    c53 := by kernel_rfl,
    c75 := by kernel_rfl,
    c76 := by kernel_rfl,
    c80 := by kernel_rfl,
    c85 := by kernel_rfl,
    c127 := by kernel_rfl,
    c143 := by kernel_rfl,
    c145 := by kernel_rfl,
    c167 := by kernel_rfl,
    c168 := by kernel_rfl,
    c171 := by kernel_rfl,
    c173 := by kernel_rfl,
    c175 := by kernel_rfl,
    c210 := by kernel_rfl,
    c212 := by kernel_rfl,
    c213 := by kernel_rfl,
    c232 := by kernel_rfl,
    c233 := by kernel_rfl }
theorem gPow : Tryz.prog.globalNamed "internal/strconv.uint64pow10" = some 4 := by kernel_rfl
theorem c_Itoa (n : Int) (h0 : -9223372036854775808 ≤ n) (h1 : n ≤ 9223372036854775807) : Pur Tryz.prog (GL kr) 89 [.pv (.int .i64 n)] (.pv (.str (itoaB n))) :=
  pur_of_callsT (ps := [.int .i64 n]) [.int .i64] rfl .str rfl gPow (by simp [GL]) fun w ht => Go.Proofs.Any.strconv_Itoa lays171 n h0 h1 w ht
def errPV : PV := .iface 217 (.ptr [])
theorem ra_err (g : Ghost) (tk : List Tok) (w : World) (n : Int) (N : Nat) : RA g tk w (.tuple [.pv (.int .i64 n), .pv errPV]) (.tuple #[.int .i64 n, .iface 217 (.pointer (some ⟨N, 0, none⟩))]) := by
  refine .tuple (vs := [.int .i64 n, .iface 217 (.pointer (some ⟨N, 0, none⟩))]) rfl (fun i x v hx hv => ?_)
  match i, hx, hv with
  | 0, hx, hv => simp at hx hv; subst hx; subst hv; exact .pv .int
  | 1, hx, hv => simp at hx hv; subst hx; subst hv; exact .pv (.iface (.ptr (vs := []) rfl (fun i v h => by simp at h) (fun i x v h => by simp at h)))
theorem ra_fine (g : Ghost) (tk : List Tok) (w : World) (n : Int) : RA g tk w (.tuple [.pv (.int .i64 n), .pv .nilif]) (.tuple #[.int .i64 n, .nilIface]) := by
  refine .tuple (vs := [.int .i64 n, .nilIface]) rfl (fun i x v hx hv => ?_)
  match i, hx, hv with
  | 0, hx, hv => simp at hx hv; subst hx; subst hv; exact .pv .int
  | 1, hx, hv => simp at hx hv; subst hx; subst hv; exact .pv .nilif
theorem c_Atoi (s : ByteArray) (hs : s.size ≤ 281474976710656) : Pur Tryz.prog (GL kr) 133 [.pv (.str s)] (.tuple [.pv (.int .i64 (atoiR s).1), .pv (if (atoiR s).2 = true then .nilif else errPV)]) := by
  refine pur_of_below (ps := [.str s]) [.str] rfl fun w hG => ?_
  have hE : ∀ n, (n, PV.ptr [.iface 244 (.ptr [])]) ∈ GL kr → ∃ ev, w.cell? ⟨n, 0, none⟩ = some ev ∧ (ev = .nilIface ∨ ∃ te pe, ev = .iface te pe) := fun n hm => by
    obtain ⟨B, S, hr⟩ := hG n _ hm
    obtain ⟨ev, h1, h2⟩ := rp_err hr
    exact ⟨ev, h1, .inr h2⟩
  rcases hat : Lib.atoiAll s.data.toList with v | _ | _
  · skip
    have hr : atoiR s = (v, true) := by unfold atoiR; rw [hat]
    rw [hr]
    refine (Go.Proofs.Any.strconv_Atoi_ok lays172 s (by omega) v hat w).mono ?_
    rintro e w' ⟨rfl, hw⟩
    refine ⟨_, rfl, ?_, fun g tk w => ra_fine g tk w v⟩
    rcases hw with rfl | ⟨t, rfl⟩
    · exact Go.RowKit.Below.refl _ _
    · exact Lib.bytesWorld_below _ _ _
  · skip
    have hr : atoiR s = (0, false) := by unfold atoiR; rw [hat]
    rw [hr]
    obtain ⟨ev, h1, h2⟩ := hE 2 (by simp [GL])
    refine (Go.Proofs.Any.strconv_Atoi_syntax lays172 s hs hat ev w h1 h2).mono ?_
    rintro e w' ⟨N, rfl, _, _, hb⟩
    exact ⟨_, rfl, hb, fun g tk w => ra_err g tk w 0 N⟩
  · skip
    have hr : atoiR s = (Lib.atoiSat s.data.toList, false) := by unfold atoiR; rw [hat]
    rw [hr]
    obtain ⟨ev, h1, h2⟩ := hE 3 (by simp [GL])
    refine (Go.Proofs.Any.strconv_Atoi_range lays172 s hs hat ev w h1 h2).mono ?_
    rintro e w' ⟨N, rfl, _, _, hb⟩
    exact ⟨_, rfl, hb, fun g tk w => ra_err g tk w _ N⟩

set_option maxHeartbeats 1000000 in
theorem c_mNamed (n : Int) (h0 : -9223372036854775808 ≤ n) (h1 : n ≤ 9223372036854775807) : Pur Tryz.prog (GL kr) 81 [.pv (.int .i64 n)] (.pv (.str (namedB n))) := by
 have hcat : 2 + (itoaB n).size ≤ 9223372036854775807 := by have := itoaB_size h0 h1; omega
 refine pur_of fun σ hgl => ?_
 refine acalls_of tyOk Tryz.func81 rfl (by simp [Tryz.f81]) ?_
 refine awp_seq (aR (by simp [go_sem, hcat] <;> rfl) ?_)
 refine awp_seq (awp_reg ?_)
 refine aL 1 (by simp [go_sem, hcat] <;> rfl) ?_
 refine aF call89 ((c_Itoa n h0 h1) _ (by exact hgl)) (by simp [go_sem, hcat] <;> rfl) (by simp [go_sem, hcat]) ?_
 refine aL 2 (by simp [go_sem, hcat] <;> rfl) ?_
 refine al_nil ?_
 refine awp_ret ?_
 refine ends_ret (by simp [go_sem, hcat] <;> rfl) (by simp [go_sem]) ?_
 exact ⟨by simp [go_sem, hcat, namedB], by simp [go_sem]⟩

set_option maxHeartbeats 1000000 in
theorem c_Plain_1 (s : ByteArray) (n : Int) (h0 : -9223372036854775808 ≤ n) (h1 : n ≤ 9223372036854775807) : Pur Tryz.prog (GL kr) 80 [.pv (.str s), .pv (.int .i64 n)] (.pv (.str (namedB n))) := by
 refine pur_of fun σ hgl => ?_
 refine acalls_of tyOk Tryz.func80 rfl (by simp [Tryz.f80]) ?_
 refine awp_seq (aR (by simp [go_sem] <;> rfl) ?_)
 refine awp_seq (awp_reg ?_)
 refine aL 1 (by simp [go_sem] <;> rfl) ?_
 refine aF call81 ((c_mNamed n h0 h1) _ (by exact hgl)) (by simp [go_sem] <;> rfl) (by simp [go_sem]) ?_
 refine aL 1 (by simp [go_sem] <;> rfl) ?_
 refine al_nil ?_
 refine awp_ret ?_
 refine ends_ret (by simp [go_sem] <;> rfl) (by simp [go_sem]) ?_
 exact ⟨by simp [go_sem], by simp [go_sem]⟩

end Go.Proofs.YtmpofjiokpeegaaGreatDoor

/- Plain names. -/
namespace Go.Proofs.YtmpofjiokpeegaaGreatDoor
open Go Go.Aw
variable {kr : KR}
set_option maxHeartbeats 1000000 in
theorem c_plainName_t (s : ByteArray) (hs : s.size ≤ 1000000000) (hok : (atoiR (s.extract 2 s.size)).2 = true) : Pur Tryz.prog (GL kr) 83 [.pv (.str s)] (.pv (.bool (pname s))) := by
 refine pur_of fun σ hgl => ?_
 obtain ⟨hlo, hhi⟩ := atoiR_range s
 refine acalls_of tyOk Tryz.func83 rfl (by simp [Tryz.f83]) ?_
 refine awp_seq (aR (by simp [go_sem] <;> rfl) ?_)
 refine awp_seq (awp_seq (awp_reg ?_))
 refine aL 4 (by simp [go_sem] <;> rfl) ?_
 refine al_splitT 8 (by first | rfl | (simp [go_sem] <;> rfl)) (fun h0 => ?_) (fun h0 => ?_)
 ·refine aK 3 8 false ?_
  refine aL 1 (by simp [go_sem] <;> rfl) ?_
  refine al_nil ?_
  refine awp_cond (b := true) (by simp [go_sem, h0]) (fun h => ?_) (fun h => ?_)
  rotate_left
  ·cases h
  refine awp_seq (aR (by simp [go_sem] <;> rfl) ?_)
  refine awp_ret ?_
  refine then_ret ?_
  have hM : pname s = false := by unfold pname; rw [h0]; rfl
  refine ends_ret (by simp [go_sem] <;> rfl) (by simp [go_sem]) ?_
  exact ⟨by simp [go_sem, hM], by simp [go_sem]⟩
 ·have h2s : (2 : Int) ≤ (s.size : Int) := by simp at h0; omega
  refine aLG 3 8 false (by simp [go_sem, h2s] <;> rfl) ?_
  refine aL 1 (by simp [go_sem, h2s] <;> rfl) ?_
  refine al_nil ?_
  refine awp_cond (by first | rfl | (simp [go_sem, h2s] <;> rfl)) (fun h1 => ?_) (fun h1 => ?_)
  ·refine awp_seq ?_
   refine aR (by simp [go_sem, h2s] <;> rfl) ?_
   refine awp_ret ?_
   refine then_ret ?_
   have hM : pname s = false := by unfold pname; rw [h0, h1]; rfl
   refine ends_ret (by simp [go_sem] <;> rfl) (by simp [go_sem]) ?_
   exact ⟨by simp [go_sem, hM], by simp [go_sem]⟩
  ·refine awp_skip ?_
   refine awp_seq (awp_reg ?_)
   refine aL 2 (by simp [go_sem, h2s] <;> rfl) ?_
   refine aF call133 ((c_Atoi (s.extract 2 s.size) (by simp; omega)) _ (by exact hgl)) (by simp [go_sem, h2s] <;> rfl) (by simp [go_sem, h2s]) ?_
   refine aL 5 (by simp [go_sem, h2s, hok, errPV] <;> rfl) ?_
   refine al_nil ?_
   refine awp_seq (awp_reg ?_)
   refine aL 3 (by simp [go_sem, h2s, hok, errPV] <;> rfl) ?_
   refine al_splitT 21 (by first | rfl | (simp [go_sem, h2s, hok, errPV] <;> rfl)) (fun h2 => ?_) (fun h2 => ?_)
   ·refine aLG 2 21 true (by simp [go_sem, h2s, hok, errPV] <;> rfl) ?_
    refine aL 2 (by simp [go_sem, h2s, hok, errPV] <;> rfl) ?_
    refine al_splitT 25 (by first | rfl | (simp [go_sem, h2s, hok, errPV] <;> rfl)) (fun h3 => ?_) (fun h3 => ?_)
    ·refine aLG 1 25 true (by simp [go_sem, h2s, hok, errPV] <;> rfl) ?_
     refine al_fnG 25 true true (by simp [go_sem]) rfl (by simp [go_sem]) rfl rfl (by simp [go_sem, h2s, hok, errPV] <;> rfl) call81 ((c_mNamed (atoiR (s.extract 2 s.size)).1 hlo hhi) _ (by exact hgl)) (by simp [go_sem, h2s, hok, errPV] <;> rfl) (by simp [go_sem, h2s, hok, errPV]) rfl rfl ?_
     refine aLG 2 25 true (by simp [go_sem, h2s, hok, errPV] <;> rfl) ?_
     refine aL 2 (by simp [go_sem, h2s, hok, errPV] <;> rfl) ?_
     refine al_nil ?_
     refine awp_ret ?_
     have hM : pname s = decide (namedB (atoiR (s.extract 2 s.size)).1 = s) := by unfold pname; rw [h0, h1, hok, h3]; rfl
     refine ends_ret (by simp [go_sem] <;> rfl) (by simp [go_sem]) ?_
     exact ⟨by simp [go_sem, hM], by simp [go_sem]⟩
    ·refine aK 4 25 true ?_
     refine aL 2 (by simp [go_sem, h2s, hok, errPV] <;> rfl) ?_
     refine al_nil ?_
     refine awp_ret ?_
     have hM : pname s = false := by unfold pname; rw [h0, h1, hok, h3]; rfl
     refine ends_ret (by simp [go_sem] <;> rfl) (by simp [go_sem]) ?_
     exact ⟨by simp [go_sem, hM], by simp [go_sem]⟩
   ·cases h2

set_option maxHeartbeats 1000000 in
theorem c_plainName_f (s : ByteArray) (hs : s.size ≤ 1000000000) (hok : (atoiR (s.extract 2 s.size)).2 = false) : Pur Tryz.prog (GL kr) 83 [.pv (.str s)] (.pv (.bool (pname s))) := by
 refine pur_of fun σ hgl => ?_
 obtain ⟨hlo, hhi⟩ := atoiR_range s
 refine acalls_of tyOk Tryz.func83 rfl (by simp [Tryz.f83]) ?_
 refine awp_seq (aR (by simp [go_sem] <;> rfl) ?_)
 refine awp_seq (awp_seq (awp_reg ?_))
 refine aL 4 (by simp [go_sem] <;> rfl) ?_
 refine al_splitT 8 (by first | rfl | (simp [go_sem] <;> rfl)) (fun h0 => ?_) (fun h0 => ?_)
 ·refine aK 3 8 false ?_
  refine aL 1 (by simp [go_sem] <;> rfl) ?_
  refine al_nil ?_
  refine awp_cond (b := true) (by simp [go_sem, h0]) (fun h => ?_) (fun h => ?_)
  rotate_left
  ·cases h
  refine awp_seq (aR (by simp [go_sem] <;> rfl) ?_)
  refine awp_ret ?_
  refine then_ret ?_
  have hM : pname s = false := by unfold pname; rw [h0]; rfl
  refine ends_ret (by simp [go_sem] <;> rfl) (by simp [go_sem]) ?_
  exact ⟨by simp [go_sem, hM], by simp [go_sem]⟩
 ·have h2s : (2 : Int) ≤ (s.size : Int) := by simp at h0; omega
  refine aLG 3 8 false (by simp [go_sem, h2s] <;> rfl) ?_
  refine aL 1 (by simp [go_sem, h2s] <;> rfl) ?_
  refine al_nil ?_
  refine awp_cond (by first | rfl | (simp [go_sem, h2s] <;> rfl)) (fun h1 => ?_) (fun h1 => ?_)
  ·refine awp_seq ?_
   refine aR (by simp [go_sem, h2s] <;> rfl) ?_
   refine awp_ret ?_
   refine then_ret ?_
   have hM : pname s = false := by unfold pname; rw [h0, h1]; rfl
   refine ends_ret (by simp [go_sem] <;> rfl) (by simp [go_sem]) ?_
   exact ⟨by simp [go_sem, hM], by simp [go_sem]⟩
  ·refine awp_skip ?_
   refine awp_seq (awp_reg ?_)
   refine aL 2 (by simp [go_sem, h2s] <;> rfl) ?_
   refine aF call133 ((c_Atoi (s.extract 2 s.size) (by simp; omega)) _ (by exact hgl)) (by simp [go_sem, h2s] <;> rfl) (by simp [go_sem, h2s]) ?_
   refine aL 5 (by simp [go_sem, h2s, hok, errPV] <;> rfl) ?_
   refine al_nil ?_
   refine awp_seq (awp_reg ?_)
   refine aL 3 (by simp [go_sem, h2s, hok, errPV] <;> rfl) ?_
   refine al_splitT 21 (by first | rfl | (simp [go_sem, h2s, hok, errPV] <;> rfl)) (fun h2 => ?_) (fun h2 => ?_)
   ·cases h2
   ·refine aK 2 21 true ?_
    refine aL 2 (by simp [go_sem, h2s, hok, errPV] <;> rfl) ?_
    refine aK 4 25 true ?_
    refine aL 2 (by simp [go_sem, h2s, hok, errPV] <;> rfl) ?_
    refine al_nil ?_
    refine awp_ret ?_
    have hM : pname s = false := by unfold pname; rw [h0, h1, hok]; rfl
    refine ends_ret (by simp [go_sem] <;> rfl) (by simp [go_sem]) ?_
    exact ⟨by simp [go_sem, hM], by simp [go_sem]⟩

theorem c_plainName (s : ByteArray) (hs : s.size ≤ 1000000000) : Pur Tryz.prog (GL kr) 83 [.pv (.str s)] (.pv (.bool (pname s))) := by
  cases hok : (atoiR (s.extract 2 s.size)).2 with
  | true => exact c_plainName_t s hs hok
  | false => exact c_plainName_f s hs hok

end Go.Proofs.YtmpofjiokpeegaaGreatDoor

/- Mapping. -/
namespace Go.Proofs.YtmpofjiokpeegaaGreatDoor
open Go Go.Aw
variable {kr : KR}
set_option maxHeartbeats 1000000 in
theorem c_mapped (d : D) : ∀ (hg : GoodM d) (hd : d.size ≤ 1000000000) (f : FuncId) (hc : Callable Tryz.prog f) (φ : D → D) (σ : Store) (hgl : σ.gl = (GL kr)) (hf : ∀ x τ, τ.gl = (GL kr) → okF x → PurAt Tryz.prog τ f [.pv (enc x)] (.pv (enc (φ x)))), PurAt Tryz.prog σ 56 [.pv (enc d), .func (.func f) []] (.pv (enc (mmap φ d))) := by
 induction d using D.ind with
 | _ kind num text kids ih =>
 generalize hD : D.mk kind num text kids = d at *
 have hk : d.kids = kids := by rw [← hD]; rfl
 clear hD
 subst hk
 have hkl := D.kids_length_lt d
 have hil := inner_len d
 have hls := fun (s : St) (x : ByteArray) (ok : Bool) => look_sh (S := kr) (ty := ty) (s := s) (t := 131) (x := x) (ok := ok) rfl rfl rfl rfl rfl rfl rfl
 intro hg hd f hc φ σ hgl hf
 refine purAt_of ?_
 have hgs : lookupG σ.gl 0 = some (.ptr [.map (shK kr) (shV kr)]) := by rw [hgl]; exact gl_sh
 refine acalls_of tyOk Tryz.func56 rfl (by simp [Tryz.f56]) ?_
 refine awp_seq (aR (by simp [go_sem, hgs, hls, encSh, okAV] <;> rfl) ?_)
 refine awp_seq (awp_seq (awp_reg ?_))
 refine aL 4 (by simp [go_sem, hgs, hls, encSh, okAV] <;> rfl) ?_
 refine al_splitT 14 (by first | rfl | (simp [go_sem, hgs, hls, encSh, okAV] <;> rfl)) (fun h0 => ?_) (fun h0 => ?_)
 ·refine aK 6 14 false ?_
  refine aL 1 (by simp [go_sem, hgs, hls, encSh, okAV] <;> rfl) ?_
  refine al_nil ?_
  refine awp_cond (b := true) (by simp [go_sem, hgs, hls, encSh, okAV, h0]) (fun h => ?_) (fun h => ?_)
  rotate_left
  ·cases h
  refine awp_seq (awp_reg ?_)
  refine aL 2 (by simp [go_sem, hgs, hls, encSh, okAV] <;> rfl) ?_
  refine al_fn rfl rfl rfl (by simp [go_sem, hgs, hls, encSh, okAV] <;> rfl) hc (hf d _ (by exact hgl) hg.okF) (by simp [go_sem, hgs, hls, encSh, okAV] <;> rfl) (by simp [go_sem, hgs, hls, encSh, okAV]) rfl rfl ?_
  refine aL 1 (by simp [go_sem, hgs, hls, encSh, okAV] <;> rfl) ?_
  refine al_nil ?_
  refine awp_ret ?_
  refine then_ret ?_
  have hM : mmap φ d = φ d := by rw [mmap_eq, if_pos h0]
  refine ends_ret (by simp [go_sem] <;> rfl) (by simp [go_sem]) ?_
  exact ⟨by simp [go_sem, hM], by simp [go_sem]⟩
 ·have hk3 : d.kind = 3 := by simpa using h0
  obtain ⟨x0, r, hks⟩ := kids_cons (hg.ne hk3)
  have hx0 : d.kids[0]? = some x0 := by rw [hks]; rfl
  have hh := head_cons hks
  refine aLG 6 14 false (by simp [go_sem, hgs, hls, encSh, okAV, hx0] <;> rfl) ?_
  refine aL 1 (by simp [go_sem, hgs, hls, encSh, okAV, hx0] <;> rfl) ?_
  refine al_nil ?_
  refine awp_cond (by first | rfl | (simp [go_sem, hgs, hls, encSh, okAV, hx0] <;> rfl)) (fun h1 => ?_) (fun h1 => ?_)
  ·refine awp_seq ?_
   refine awp_reg ?_
   refine aL 2 (by simp [go_sem, hgs, hls, encSh, okAV, hx0] <;> rfl) ?_
   refine al_fn rfl rfl rfl (by simp [go_sem, hgs, hls, encSh, okAV, hx0] <;> rfl) hc (hf d _ (by exact hgl) hg.okF) (by simp [go_sem, hgs, hls, encSh, okAV, hx0] <;> rfl) (by simp [go_sem, hgs, hls, encSh, okAV, hx0]) rfl rfl ?_
   refine aL 1 (by simp [go_sem, hgs, hls, encSh, okAV, hx0] <;> rfl) ?_
   refine al_nil ?_
   refine awp_ret ?_
   refine then_ret ?_
   have hM : mmap φ d = φ d := by rw [mmap_eq, if_neg (by rw [h0]; decide), if_pos (by rw [hh]; exact h1)]
   refine ends_ret (by simp [go_sem] <;> rfl) (by simp [go_sem]) ?_
   exact ⟨by simp [go_sem, hM], by simp [go_sem]⟩
  ·have hq : d.head.text ≠ sQuote := by rw [hh]; exact of_decide_eq_false h1
   have hsn := hg.n hk3 hq
   have hnm := hg.nms hk3 hq
   have hlen := hg.inner_length hk3 hq
   rw [hh] at hsn hnm hlen
   have hsh : ((shp x0.text).getD (0, 0)).1 = shN x0.text := shN_getD
   have hs2 := shN_le x0.text
   have hwr : IntKind.i64.wrap (1 + (shN x0.text : Int)) = 1 + (shN x0.text : Int) := wrap_id (by omega) (by omega)
   have hle : 1 + (shN x0.text : Int) ≤ d.kids.length := by omega
   have h0le : (0 : Int) ≤ 1 + (shN x0.text : Int) := by omega
   have h1le : (1 : Int) ≤ 1 + (shN x0.text : Int) := by omega
   have htn : (1 + (shN x0.text : Int)).toNat = 1 + shN x0.text := by omega
   obtain ⟨L1, hL1⟩ : ∃ L1, L1 = (d.kids.drop 1).take (shN x0.text) := ⟨_, rfl⟩
   have htk := take_tail enc d.kids (shN x0.text)
   rw [← hL1] at htk
   have hnd := nmsD_head hks
   rw [← hL1] at hnd
   have hl1 : L1.length = shN x0.text := by rw [← hnm, hnd, List.length_map]
   refine awp_skip ?_
   refine awp_seq (aR (by simp [go_sem, hgs, hls, encSh, okAV, hx0, hsh, hwr, hle, h0le, h1le, htn, htk] <;> rfl) ?_)
   refine awp_seq (awp_seq (awp_regDE tyOk tySz (by kernel_rfl) ?_))
   refine ul_run 14 (by simp [go_sem, hgs, hls, encSh, okAV, hx0, hsh, hwr, hle, h0le, h1le, htn, htk] <;> rfl) ?_
   refine ul_nil ?_
   refine awp_adopt' 5 9 1 (by simp [go_sem] <;> rfl) ?_
   refine awp_block ?_
   refine awp_loop_headK σ.objs.length (σ.toks.length + 1) 2 [1, 2, 4, 36, 37] (fun k : Nat => [(5, .acc ((L1.map (PV.str ∘ D.text)).take k) σ.toks.length), (38, .pv (.int .i64 ↑k))]) (fun k => { σ with toks := σ.toks ++ [⟨k, 9, 1⟩] }) (fun k => k ≤ L1.length) (fun k => L1.length - k) 0 (Nat.zero_le _) ⟨by simp [go_sem, hgs, hls, encSh, okAV, hx0, hsh, hwr, hle, h0le, h1le, htn, htk], rfl, by simp, by simp, by simp [go_sem, hgs, hls, encSh, okAV, hx0, hsh, hwr, hle, h0le, h1le, htn, htk], fun ob h => .inl (by simpa [go_sem, hgs, hls, encSh, okAV, hx0, hsh, hwr, hle, h0le, h1le, htn, htk] using h), by simp [go_sem]⟩ ?_
   intro k hk
   refine awp_seq (aR (by simp [go_sem, hgs, hls, encSh, okAV, hx0, hsh, hwr, hle, h0le, h1le, htn, htk] <;> rfl) ?_)
   refine awp_seq (awp_cond (by first | rfl | (simp [go_sem, hgs, hls, encSh, okAV, hx0, hsh, hwr, hle, h0le, h1le, htn, htk] <;> rfl)) (fun h2 => ?_) (fun h2 => ?_))
   ·have hlt : k < L1.length := by simp at h2; omega
    have hw : IntKind.i64.wrap (↑k + 1) = (k : Int) + 1 := wrap_succ (by omega)
    obtain ⟨x, hx, hxm⟩ := get_lt hlt
    have ht : (L1.map (PV.str ∘ D.text)).take (k + 1) = (L1.map (PV.str ∘ D.text)).take k ++ [.str x.text] := take_next (by simp [hx])
    have hm : min k L1.length = k := by omega
    have hb2 : (k + 1) * 16 ≤ 140737488355328 := by omega
    refine awp_skip ?_
    refine awp_seq (awp_block ?_)
    refine awp_seq (aR (by simp [go_sem, hgs, hls, encSh, okAV, hx0, hsh, hwr, hle, h0le, h1le, htn, htk, hx, hm, hb2] <;> rfl) ?_)
    refine aR (by simp [go_sem, hgs, hls, encSh, okAV, hx0, hsh, hwr, hle, h0le, h1le, htn, htk, hx, hm, hb2] <;> rfl) ?_
    refine aR (by simp [go_sem, hgs, hls, encSh, okAV, hx0, hsh, hwr, hle, h0le, h1le, htn, htk, hx, hm, hb2] <;> rfl) ?_
    exact next_intro (k + 1) σ.objs.length (σ.toks.length + 1) 2 (hlt) (by omega) ⟨by simp [go_sem, hgs, hls, encSh, okAV, hx0, hsh, hwr, hle, h0le, h1le, htn, htk, hx, hm, hb2, hw, ht], rfl, by simp, by simp, by simp [go_sem, hgs, hls, encSh, okAV, hx0, hsh, hwr, hle, h0le, h1le, htn, htk, hx, hm, hb2, hw, ht], fun ob h => .inl (by simpa [go_sem, hgs, hls, encSh, okAV, hx0, hsh, hwr, hle, h0le, h1le, htn, htk, hx, hm, hb2, hw, ht] using h), by simp [go_sem]⟩
   ·have hke : k = L1.length := by simp at h2; omega
    subst hke
    refine awp_exit ?_
    refine then_exit ?_
    refine then_exit ?_
    refine inBlock_hit ?_
    refine awp_seq (aR (by simp [go_sem, hgs, hls, encSh, okAV, hx0, hsh, hwr, hle, h0le, h1le, htn, htk] <;> rfl) ?_)
    refine awp_seq (awp_seq (awp_reg ?_))
    refine aL 1 (by simp [go_sem, hgs, hls, encSh, okAV, hx0, hsh, hwr, hle, h0le, h1le, htn, htk] <;> rfl) ?_
    refine aF call113 ((c_Inner d hg.ne hg.n) _ (by exact hgl)) (by simp [go_sem, hgs, hls, encSh, okAV, hx0, hsh, hwr, hle, h0le, h1le, htn, htk] <;> rfl) (by simp [go_sem, hgs, hls, encSh, okAV, hx0, hsh, hwr, hle, h0le, h1le, htn, htk]) ?_
    refine aL 2 (by simp [go_sem, hgs, hls, encSh, okAV, hx0, hsh, hwr, hle, h0le, h1le, htn, htk] <;> rfl) ?_
    refine al_nil ?_
    refine awp_adopt' 8 24 4 (by simp [go_sem] <;> rfl) ?_
    refine awp_block ?_
    refine awp_loop_headK σ.objs.length (σ.toks.length + 2) 2 [1, 2, 4, 5, 49, 50] (fun k : Nat => [(8, .acc (((inner d).map (enc ∘ mmap φ)).take k) (σ.toks.length + 1)), (51, .pv (.int .i64 ↑k))]) (fun k => { σ with toks := σ.toks ++ [⟨L1.length, 9, 1⟩, ⟨k, 24, 4⟩] }) (fun k => k ≤ (inner d).length) (fun k => (inner d).length - k) 0 (Nat.zero_le _) ⟨by simp [go_sem, hgs, hls, encSh, okAV, hx0, hsh, hwr, hle, h0le, h1le, htn, htk], rfl, by simp, by simp, by simp [go_sem, hgs, hls, encSh, okAV, hx0, hsh, hwr, hle, h0le, h1le, htn, htk], fun ob h => .inl (by simpa [go_sem, hgs, hls, encSh, okAV, hx0, hsh, hwr, hle, h0le, h1le, htn, htk] using h), by simp [go_sem]⟩ ?_
    intro k hk
    refine awp_seq (aR (by simp [go_sem, hgs, hls, encSh, okAV, hx0, hsh, hwr, hle, h0le, h1le, htn, htk] <;> rfl) ?_)
    refine awp_seq (awp_cond (by first | rfl | (simp [go_sem, hgs, hls, encSh, okAV, hx0, hsh, hwr, hle, h0le, h1le, htn, htk] <;> rfl)) (fun h3 => ?_) (fun h3 => ?_))
    ·have hlt : k < (inner d).length := by simp at h3; omega
     have hw : IntKind.i64.wrap (↑k + 1) = (k : Int) + 1 := wrap_succ (by omega)
     obtain ⟨x, hx, hxm⟩ := get_lt hlt
     have ht : ((inner d).map (enc ∘ mmap φ)).take (k + 1) = ((inner d).map (enc ∘ mmap φ)).take k ++ [enc (mmap φ x)] := take_next (by simp [hx])
     have hm : min k (inner d).length = k := by omega
     have hb2 : (k + 1) * 56 ≤ 140737488355328 := by omega
     refine awp_skip ?_
     refine awp_seq (awp_block ?_)
     refine awp_seq (aR (by simp [go_sem, hgs, hls, encSh, okAV, hx0, hsh, hwr, hle, h0le, h1le, htn, htk, hx, hm, hb2] <;> rfl) ?_)
     refine awp_reg ?_
     refine aL 3 (by simp [go_sem, hgs, hls, encSh, okAV, hx0, hsh, hwr, hle, h0le, h1le, htn, htk, hx, hm, hb2] <;> rfl) ?_
     refine aF call56 (ih x (inner_mem hxm) (hg.part hxm) (by have := D.size_kid_lt (inner_mem hxm); omega) f hc φ _ (by exact hgl) hf) (by simp [go_sem, hgs, hls, encSh, okAV, hx0, hsh, hwr, hle, h0le, h1le, htn, htk, hx, hm, hb2] <;> rfl) (by simp [go_sem, hgs, hls, encSh, okAV, hx0, hsh, hwr, hle, h0le, h1le, htn, htk, hx, hm, hb2]) ?_
     refine aL 3 (by simp [go_sem, hgs, hls, encSh, okAV, hx0, hsh, hwr, hle, h0le, h1le, htn, htk, hx, hm, hb2] <;> rfl) ?_
     refine al_nil ?_
     refine aR (by simp [go_sem, hgs, hls, encSh, okAV, hx0, hsh, hwr, hle, h0le, h1le, htn, htk, hx, hm, hb2] <;> rfl) ?_
     exact next_intro (k + 1) σ.objs.length (σ.toks.length + 2) 2 (hlt) (by omega) ⟨by simp [go_sem, hgs, hls, encSh, okAV, hx0, hsh, hwr, hle, h0le, h1le, htn, htk, hx, hm, hb2, hw, ht], rfl, by simp, by simp, by simp [go_sem, hgs, hls, encSh, okAV, hx0, hsh, hwr, hle, h0le, h1le, htn, htk, hx, hm, hb2, hw, ht], fun ob h => .inl (by simpa [go_sem, hgs, hls, encSh, okAV, hx0, hsh, hwr, hle, h0le, h1le, htn, htk, hx, hm, hb2, hw, ht] using h), by simp [go_sem]⟩
    ·have hke : k = (inner d).length := by simp at h3; omega
     subst hke
     refine awp_exit ?_
     refine then_exit ?_
     refine then_exit ?_
     refine inBlock_hit ?_
     refine awp_seq (awp_reg ?_)
     refine aL 4 (by simp [go_sem, hgs, hls, encSh, okAV, hx0, hsh, hwr, hle, h0le, h1le, htn, htk] <;> rfl) ?_
     refine aF call114 ((c_with d (hg.ne hk3) (nmsD d) ((inner d).map (mmap φ)) (by rw [hnm]; simp; omega)) _ (by exact hgl)) (by simp [go_sem, hgs, hls, encSh, okAV, hx0, hsh, hwr, hle, h0le, h1le, htn, htk] <;> rfl) (by simp [go_sem, hgs, hls, encSh, okAV, hx0, hsh, hwr, hle, h0le, h1le, htn, htk, hnd]) ?_
     refine al_fn rfl rfl rfl (by simp [go_sem, hgs, hls, encSh, okAV, hx0, hsh, hwr, hle, h0le, h1le, htn, htk] <;> rfl) hc (hf _ _ (by exact hgl) (hg.okF_made hk3 hq (ns := nmsD d) (l := (inner d).map (mmap φ)) (by rw [hnm, hh]) (by simp))) (by simp [go_sem, hgs, hls, encSh, okAV, hx0, hsh, hwr, hle, h0le, h1le, htn, htk] <;> rfl) (by simp [go_sem, hgs, hls, encSh, okAV, hx0, hsh, hwr, hle, h0le, h1le, htn, htk]) rfl rfl ?_
     refine aL 1 (by simp [go_sem, hgs, hls, encSh, okAV, hx0, hsh, hwr, hle, h0le, h1le, htn, htk] <;> rfl) ?_
     refine al_nil ?_
     refine awp_ret ?_
     have hM : mmap φ d = φ (dlist (d.head :: (nmsD d).map dsym ++ (inner d).map (mmap φ))) := by rw [mmap_eq, if_neg (by rw [h0]; decide), if_neg (by simpa using hq)]
     refine ends_ret (by simp [go_sem] <;> rfl) (by simp [go_sem]) ?_
     exact ⟨by simp [go_sem, hM], by simp [go_sem]⟩

end Go.Proofs.YtmpofjiokpeegaaGreatDoor

/- What is bound. -/
namespace Go.Proofs.YtmpofjiokpeegaaGreatDoor
open Go Go.Aw
variable {kr : KR}
set_option maxHeartbeats 1000000 in
theorem c_mark (d : D) : ∀ (hok : OkM d) (hd : d.size ≤ 1000000000) (S : List ByteArray) (σ : Store) (om : Nat) (hgl : σ.gl = (GL kr)) (ho : σ.objs[om]? = some (.map (tK S) (tV S))), ACalls Tryz.prog 82 [.pv (enc d), .map om] σ (fun r σ' => r = .tuple [] ∧ σ' = setS σ om ((mbnd d).foldl addS S)) := by
 induction d using D.ind with
 | _ kind num text kids ih =>
 generalize hD : D.mk kind num text kids = d at *
 have hk : d.kids = kids := by rw [← hD]; rfl
 clear hD
 subst hk
 have hkl := D.kids_length_lt d
 have hil := inner_len d
 have hls := fun (s : St) (x : ByteArray) (ok : Bool) => look_sh (S := kr) (ty := ty) (s := s) (t := 131) (x := x) (ok := ok) rfl rfl rfl rfl rfl rfl rfl
 intro hok hd S σ om hgl ho
 have hgs : lookupG σ.gl 0 = some (.ptr [.map (shK kr) (shV kr)]) := by rw [hgl]; exact gl_sh
 have hol := (List.getElem?_eq_some_iff.1 ho).1
 have hgt := fun (R : List ByteArray) => setS_get (σ := σ) (o := om) (S := R) hol
 refine acalls_of tyOk Tryz.func82 rfl (by simp [Tryz.f82]) ?_
 refine awp_seq (aR (by simp [go_sem, hgs, hls, encSh, okAV, hgt, setS_set, setS_gl] <;> rfl) ?_)
 refine awp_seq (awp_seq (awp_reg ?_))
 refine aL 4 (by simp [go_sem, hgs, hls, encSh, okAV, hgt, setS_set, setS_gl] <;> rfl) ?_
 refine al_splitT 11 (by first | rfl | (simp [go_sem, hgs, hls, encSh, okAV, hgt, setS_set, setS_gl] <;> rfl)) (fun h0 => ?_) (fun h0 => ?_)
 ·have hk3 : d.kind = 3 := by simpa using h0
  have hot := hok.self hk3
  obtain ⟨x0, r, hks⟩ := kids_cons hot.1
  have hx0 : d.kids[0]? = some x0 := by rw [hks]; rfl
  have hh := head_cons hks
  refine aLG 6 11 true (by simp [go_sem, hgs, hls, encSh, okAV, hgt, setS_set, setS_gl, hx0] <;> rfl) ?_
  refine aL 1 (by simp [go_sem, hgs, hls, encSh, okAV, hgt, setS_set, setS_gl, hx0] <;> rfl) ?_
  refine al_nil ?_
  refine awp_cond (by first | rfl | (simp [go_sem, hgs, hls, encSh, okAV, hgt, setS_set, setS_gl, hx0] <;> rfl)) (fun h1 => ?_) (fun h1 => ?_)
  ·have hq : d.head.text ≠ sQuote := by rw [hh]; exact of_decide_eq_false ((Bool.not_eq_true' _).mp h1)
   have hsn := hot.2 hq
   rw [hh] at hsn
   have hsh : ((shp x0.text).getD (0, 0)).1 = shN x0.text := shN_getD
   have hs2 := shN_le x0.text
   have hwr : IntKind.i64.wrap (1 + (shN x0.text : Int)) = 1 + (shN x0.text : Int) := wrap_id (by omega) (by omega)
   have hle : 1 + (shN x0.text : Int) ≤ d.kids.length := by omega
   have h0le : (0 : Int) ≤ 1 + (shN x0.text : Int) := by omega
   have h1le : (1 : Int) ≤ 1 + (shN x0.text : Int) := by omega
   have htn : (1 + (shN x0.text : Int)).toNat = 1 + shN x0.text := by omega
   obtain ⟨L1, hL1⟩ : ∃ L1, L1 = (d.kids.drop 1).take (shN x0.text) := ⟨_, rfl⟩
   have htk := take_tail enc d.kids (shN x0.text)
   rw [← hL1] at htk
   have hnd := nmsD_head hks
   rw [← hL1] at hnd
   have hl1 : L1.length ≤ 2 := by rw [hL1]; simp; omega
   have how : ownN d = L1.map D.text := by unfold ownN; rw [if_pos (by rw [hk3]; simpa using hq), hnd]
   refine awp_seq (awp_regDE tyOk tySz (by kernel_rfl) ?_)
   refine ul_run 14 (by simp [go_sem, hgs, hls, encSh, okAV, hgt, setS_set, setS_gl, hx0, hsh, hwr, hle, h0le, h1le, htn, htk] <;> rfl) ?_
   refine ul_nil ?_
   refine awp_block ?_
   refine awp_loop_headK σ.objs.length σ.toks.length 1 [1, 2, 30, 31] (fun k : Nat => [(32, .pv (.int .i64 ↑k))]) (fun k => setS σ om (((L1.map D.text).take k).foldl addS S)) (fun k => k ≤ L1.length) (fun k => L1.length - k) 0 (Nat.zero_le _) ⟨by show setS σ om S = _; rw [setS_self ho]; simp [go_sem], rfl, by simp, by simp, by simp [go_sem, hgs, hls, encSh, okAV, hgt, setS_set, setS_gl, hx0, hsh, hwr, hle, h0le, h1le, htn, htk, hol, setS_no, setS_nt], fun ob h => setS_mem h, by simp [go_sem]⟩ ?_
   intro k hk
   refine awp_seq (aR (by simp [go_sem, hgs, hls, encSh, okAV, hgt, setS_set, setS_gl, hx0, hsh, hwr, hle, h0le, h1le, htn, htk] <;> rfl) ?_)
   refine awp_seq (awp_cond (by first | rfl | (simp [go_sem, hgs, hls, encSh, okAV, hgt, setS_set, setS_gl, hx0, hsh, hwr, hle, h0le, h1le, htn, htk] <;> rfl)) (fun h2 => ?_) (fun h2 => ?_))
   ·have hlt : k < L1.length := by simp at h2; omega
    have hw : IntKind.i64.wrap (↑k + 1) = (k : Int) + 1 := wrap_succ (by omega)
    obtain ⟨x, hx, hxm⟩ := get_lt hlt
    have hpk := fun (s : St) (x : ByteArray) (ho : s.σ.objs[om]? = some (.map (tK (((L1.map D.text).take k).foldl addS S)) (tV (((L1.map D.text).take k).foldl addS S)))) => put_set (ty := ty) (s := s) (t := 107) (o := om) rfl rfl rfl rfl ho x
    have htx : ((L1.map D.text).take (k + 1)).foldl addS S = addS (((L1.map D.text).take k).foldl addS S) x.text := by rw [take_next (l := L1.map D.text) (k := k) (x := x.text) (by simp [hx])]; simp
    refine awp_skip ?_
    refine awp_seq (awp_block ?_)
    refine awp_seq (aR (by simp [go_sem, hgs, hls, encSh, okAV, hgt, setS_set, setS_gl, hx0, hsh, hwr, hle, h0le, h1le, htn, htk, hx, hpk] <;> rfl) ?_)
    refine aR (by simp [go_sem, hgs, hls, encSh, okAV, hgt, setS_set, setS_gl, hx0, hsh, hwr, hle, h0le, h1le, htn, htk, hx, hpk] <;> rfl) ?_
    refine aR (by simp [go_sem, hgs, hls, encSh, okAV, hgt, setS_set, setS_gl, hx0, hsh, hwr, hle, h0le, h1le, htn, htk, hx, hpk] <;> rfl) ?_
    exact next_intro (k + 1) σ.objs.length σ.toks.length 1 (hlt) (by omega) ⟨by show setS σ om _ = Store.cut _ _ _; rw [htx]; first | exact setS_cut.symm | (show _ = Store.cut (setS (setS σ om _) om _) _ _; rw [setS_set]; exact setS_cut.symm), rfl, by simp, by simp, by simp [go_sem, hgs, hls, encSh, okAV, hgt, setS_set, setS_gl, hx0, hsh, hwr, hle, h0le, h1le, htn, htk, hx, hpk, hw, hol, setS_no, setS_nt], fun ob h => setS_mem h, by simp [go_sem]⟩
   ·have hke : k = L1.length := by simp at h2; omega
    subst hke
    have hta : (L1.map D.text).foldl addS S = mkK d S 0 := by rw [mkK_zero, how]
    refine awp_exit ?_
    refine then_exit ?_
    refine then_exit ?_
    refine inBlock_hit ?_
    refine awp_seq (awp_reg ?_)
    refine aL 1 (by simp [go_sem, hgs, hls, encSh, okAV, hgt, setS_set, setS_gl, hx0, hsh, hwr, hle, h0le, h1le, htn, htk, hta] <;> rfl) ?_
    refine aF call113 ((c_Inner d (fun h => (hok.self h).1) (fun h => (hok.self h).2)) _ (by exact hgl)) (by simp [go_sem, hgs, hls, encSh, okAV, hgt, setS_set, setS_gl, hx0, hsh, hwr, hle, h0le, h1le, htn, htk, hta] <;> rfl) (by simp [go_sem, hgs, hls, encSh, okAV, hgt, setS_set, setS_gl, hx0, hsh, hwr, hle, h0le, h1le, htn, htk, hta]) ?_
    refine aL 2 (by simp [go_sem, hgs, hls, encSh, okAV, hgt, setS_set, setS_gl, hx0, hsh, hwr, hle, h0le, h1le, htn, htk, hta] <;> rfl) ?_
    refine al_nil ?_
    refine awp_block ?_
    refine awp_loop_headK σ.objs.length σ.toks.length 1 [1, 41, 42] (fun k : Nat => [(43, .pv (.int .i64 ↑k))]) (fun k => setS σ om (mkK d S k)) (fun k => k ≤ (inner d).length) (fun k => (inner d).length - k) 0 (Nat.zero_le _) ⟨by show setS σ om (mkK d S 0) = _; first | exact setS_cut.symm | (simp [go_sem, hta, setS_cut]; done) | (rw [mkK_zero, how]; show setS σ om S = _; rw [setS_self ho]; simp [go_sem]) | (rw [← hta]; exact setS_cut.symm), rfl, by simp, by simp, by simp [go_sem, hgs, hls, encSh, okAV, hgt, setS_set, setS_gl, hx0, hsh, hwr, hle, h0le, h1le, htn, htk, hta, hol, setS_no, setS_nt], fun ob h => setS_mem h, by simp [go_sem]⟩ ?_
    intro k hk
    refine awp_seq (aR (by simp [go_sem, hgs, hls, encSh, okAV, hgt, setS_set, setS_gl, hx0, hsh, hwr, hle, h0le, h1le, htn, htk, hta] <;> rfl) ?_)
    refine awp_seq (awp_cond (by first | rfl | (simp [go_sem, hgs, hls, encSh, okAV, hgt, setS_set, setS_gl, hx0, hsh, hwr, hle, h0le, h1le, htn, htk, hta] <;> rfl)) (fun h3 => ?_) (fun h3 => ?_))
    ·have hlt : k < (inner d).length := by simp at h3; omega
     have hw : IntKind.i64.wrap (↑k + 1) = (k : Int) + 1 := wrap_succ (by omega)
     obtain ⟨x, hx, hxm⟩ := get_lt hlt
     have hcn := mkK_next (S := S) hx
     refine awp_skip ?_
     refine awp_seq (awp_block ?_)
     refine awp_seq (aR (by simp [go_sem, hgs, hls, encSh, okAV, hgt, setS_set, setS_gl, hx0, hsh, hwr, hle, h0le, h1le, htn, htk, hta, hx] <;> rfl) ?_)
     refine awp_reg ?_
     refine aL 2 (by simp [go_sem, hgs, hls, encSh, okAV, hgt, setS_set, setS_gl, hx0, hsh, hwr, hle, h0le, h1le, htn, htk, hta, hx] <;> rfl) ?_
     refine al_callW rfl rfl rfl (by simp [go_sem, hgs, hls, encSh, okAV, hgt, setS_set, setS_gl, hx0, hsh, hwr, hle, h0le, h1le, htn, htk, hta, hx] <;> rfl) call82 (ih x (inner_mem hxm) (hok.part hxm) (by have := D.size_kid_lt (inner_mem hxm); omega) (mkK d S k) _ om (by exact hgl) (hgt _)) (by simp [go_sem, hgs, hls, encSh, okAV, hgt, setS_set, setS_gl, hx0, hsh, hwr, hle, h0le, h1le, htn, htk, hta, hx] <;> rfl) (by simp [go_sem, hgs, hls, encSh, okAV, hgt, setS_set, setS_gl, hx0, hsh, hwr, hle, h0le, h1le, htn, htk, hta, hx]) rfl rfl ?_
     rintro r σ' ⟨rfl, rfl⟩
     refine al_nil ?_
     refine aR (by simp [go_sem, hgs, hls, encSh, okAV, hgt, setS_set, setS_gl, hx0, hsh, hwr, hle, h0le, h1le, htn, htk, hta, hx] <;> rfl) ?_
     exact next_intro (k + 1) σ.objs.length σ.toks.length 1 (hlt) (by omega) ⟨by show setS σ om (mkK d S (k + 1)) = Store.cut _ _ _; rw [hcn]; first | exact setS_cut.symm | (show _ = Store.cut (setS (setS σ om _) om _) _ _; rw [setS_set]; exact setS_cut.symm) | simp [go_sem, setS_cut], rfl, by simp, by simp, by simp [go_sem, hgs, hls, encSh, okAV, hgt, setS_set, setS_gl, hx0, hsh, hwr, hle, h0le, h1le, htn, htk, hta, hx, hw, hol, setS_no, setS_nt], fun ob h => setS_mem h, by simp [go_sem]⟩
    ·have hke : k = (inner d).length := by simp at h3; omega
     subst hke
     have hca := mkK_all (d := d) (S := S)
     refine awp_exit ?_
     refine then_exit ?_
     refine then_exit ?_
     refine inBlock_hit ?_
     refine ends_normal (by simp [go_sem] <;> rfl) (by simp [go_sem]) ?_
     exact ⟨by simp [go_sem], by simp [go_sem, hca]⟩
  ·have how : ownN d = [] := by unfold ownN; rw [if_neg (by rw [hh]; simp at h1; simp [h1, sQuote])]
   refine awp_skip ?_
   refine awp_seq (awp_reg ?_)
   refine aL 1 (by simp [go_sem, hgs, hls, encSh, okAV, hgt, setS_set, setS_gl, hx0] <;> rfl) ?_
   refine aF call113 ((c_Inner d (fun h => (hok.self h).1) (fun h => (hok.self h).2)) _ (by exact hgl)) (by simp [go_sem, hgs, hls, encSh, okAV, hgt, setS_set, setS_gl, hx0] <;> rfl) (by simp [go_sem, hgs, hls, encSh, okAV, hgt, setS_set, setS_gl, hx0]) ?_
   refine aL 2 (by simp [go_sem, hgs, hls, encSh, okAV, hgt, setS_set, setS_gl, hx0] <;> rfl) ?_
   refine al_nil ?_
   refine awp_block ?_
   refine awp_loop_headK σ.objs.length σ.toks.length 1 [1, 41, 42] (fun k : Nat => [(43, .pv (.int .i64 ↑k))]) (fun k => setS σ om (mkK d S k)) (fun k => k ≤ (inner d).length) (fun k => (inner d).length - k) 0 (Nat.zero_le _) ⟨by show setS σ om (mkK d S 0) = _; first | exact setS_cut.symm | (simp [go_sem, hta, setS_cut]; done) | (rw [mkK_zero, how]; show setS σ om S = _; rw [setS_self ho]; simp [go_sem]) | (rw [← hta]; exact setS_cut.symm), rfl, by simp, by simp, by simp [go_sem, hgs, hls, encSh, okAV, hgt, setS_set, setS_gl, hx0, hol, setS_no, setS_nt], fun ob h => setS_mem h, by simp [go_sem]⟩ ?_
   intro k hk
   refine awp_seq (aR (by simp [go_sem, hgs, hls, encSh, okAV, hgt, setS_set, setS_gl, hx0] <;> rfl) ?_)
   refine awp_seq (awp_cond (by first | rfl | (simp [go_sem, hgs, hls, encSh, okAV, hgt, setS_set, setS_gl, hx0] <;> rfl)) (fun h4 => ?_) (fun h4 => ?_))
   ·have hlt : k < (inner d).length := by simp at h4; omega
    have hw : IntKind.i64.wrap (↑k + 1) = (k : Int) + 1 := wrap_succ (by omega)
    obtain ⟨x, hx, hxm⟩ := get_lt hlt
    have hcn := mkK_next (S := S) hx
    refine awp_skip ?_
    refine awp_seq (awp_block ?_)
    refine awp_seq (aR (by simp [go_sem, hgs, hls, encSh, okAV, hgt, setS_set, setS_gl, hx0, hx] <;> rfl) ?_)
    refine awp_reg ?_
    refine aL 2 (by simp [go_sem, hgs, hls, encSh, okAV, hgt, setS_set, setS_gl, hx0, hx] <;> rfl) ?_
    refine al_callW rfl rfl rfl (by simp [go_sem, hgs, hls, encSh, okAV, hgt, setS_set, setS_gl, hx0, hx] <;> rfl) call82 (ih x (inner_mem hxm) (hok.part hxm) (by have := D.size_kid_lt (inner_mem hxm); omega) (mkK d S k) _ om (by exact hgl) (hgt _)) (by simp [go_sem, hgs, hls, encSh, okAV, hgt, setS_set, setS_gl, hx0, hx] <;> rfl) (by simp [go_sem, hgs, hls, encSh, okAV, hgt, setS_set, setS_gl, hx0, hx]) rfl rfl ?_
    rintro r σ' ⟨rfl, rfl⟩
    refine al_nil ?_
    refine aR (by simp [go_sem, hgs, hls, encSh, okAV, hgt, setS_set, setS_gl, hx0, hx] <;> rfl) ?_
    exact next_intro (k + 1) σ.objs.length σ.toks.length 1 (hlt) (by omega) ⟨by show setS σ om (mkK d S (k + 1)) = Store.cut _ _ _; rw [hcn]; first | exact setS_cut.symm | (show _ = Store.cut (setS (setS σ om _) om _) _ _; rw [setS_set]; exact setS_cut.symm) | simp [go_sem, setS_cut], rfl, by simp, by simp, by simp [go_sem, hgs, hls, encSh, okAV, hgt, setS_set, setS_gl, hx0, hx, hw, hol, setS_no, setS_nt], fun ob h => setS_mem h, by simp [go_sem]⟩
   ·have hke : k = (inner d).length := by simp at h4; omega
    subst hke
    have hca := mkK_all (d := d) (S := S)
    refine awp_exit ?_
    refine then_exit ?_
    refine then_exit ?_
    refine inBlock_hit ?_
    refine ends_normal (by simp [go_sem] <;> rfl) (by simp [go_sem]) ?_
    exact ⟨by simp [go_sem], by simp [go_sem, hca]⟩
 ·have how : ownN d = [] := by unfold ownN; rw [if_neg (by rw [h0]; simp)]
  refine aK 6 11 true ?_
  refine aL 1 (by simp [go_sem, hgs, hls, encSh, okAV, hgt, setS_set, setS_gl] <;> rfl) ?_
  refine al_nil ?_
  refine awp_cond (b := false) (by simp [go_sem, hgs, hls, encSh, okAV, hgt, setS_set, setS_gl, h0]) (fun h => ?_) (fun h => ?_)
  ·cases h
  refine awp_skip ?_
  refine awp_seq (awp_reg ?_)
  refine aL 1 (by simp [go_sem, hgs, hls, encSh, okAV, hgt, setS_set, setS_gl] <;> rfl) ?_
  refine aF call113 ((c_Inner d (fun h => (hok.self h).1) (fun h => (hok.self h).2)) _ (by exact hgl)) (by simp [go_sem, hgs, hls, encSh, okAV, hgt, setS_set, setS_gl] <;> rfl) (by simp [go_sem, hgs, hls, encSh, okAV, hgt, setS_set, setS_gl]) ?_
  refine aL 2 (by simp [go_sem, hgs, hls, encSh, okAV, hgt, setS_set, setS_gl] <;> rfl) ?_
  refine al_nil ?_
  refine awp_block ?_
  refine awp_loop_headK σ.objs.length σ.toks.length 1 [1, 41, 42] (fun k : Nat => [(43, .pv (.int .i64 ↑k))]) (fun k => setS σ om (mkK d S k)) (fun k => k ≤ (inner d).length) (fun k => (inner d).length - k) 0 (Nat.zero_le _) ⟨by show setS σ om (mkK d S 0) = _; first | exact setS_cut.symm | (simp [go_sem, hta, setS_cut]; done) | (rw [mkK_zero, how]; show setS σ om S = _; rw [setS_self ho]; simp [go_sem]) | (rw [← hta]; exact setS_cut.symm), rfl, by simp, by simp, by simp [go_sem, hgs, hls, encSh, okAV, hgt, setS_set, setS_gl, hol, setS_no, setS_nt], fun ob h => setS_mem h, by simp [go_sem]⟩ ?_
  intro k hk
  refine awp_seq (aR (by simp [go_sem, hgs, hls, encSh, okAV, hgt, setS_set, setS_gl] <;> rfl) ?_)
  refine awp_seq (awp_cond (by first | rfl | (simp [go_sem, hgs, hls, encSh, okAV, hgt, setS_set, setS_gl] <;> rfl)) (fun h5 => ?_) (fun h5 => ?_))
  ·have hlt : k < (inner d).length := by simp at h5; omega
   have hw : IntKind.i64.wrap (↑k + 1) = (k : Int) + 1 := wrap_succ (by omega)
   obtain ⟨x, hx, hxm⟩ := get_lt hlt
   have hcn := mkK_next (S := S) hx
   refine awp_skip ?_
   refine awp_seq (awp_block ?_)
   refine awp_seq (aR (by simp [go_sem, hgs, hls, encSh, okAV, hgt, setS_set, setS_gl, hx] <;> rfl) ?_)
   refine awp_reg ?_
   refine aL 2 (by simp [go_sem, hgs, hls, encSh, okAV, hgt, setS_set, setS_gl, hx] <;> rfl) ?_
   refine al_callW rfl rfl rfl (by simp [go_sem, hgs, hls, encSh, okAV, hgt, setS_set, setS_gl, hx] <;> rfl) call82 (ih x (inner_mem hxm) (hok.part hxm) (by have := D.size_kid_lt (inner_mem hxm); omega) (mkK d S k) _ om (by exact hgl) (hgt _)) (by simp [go_sem, hgs, hls, encSh, okAV, hgt, setS_set, setS_gl, hx] <;> rfl) (by simp [go_sem, hgs, hls, encSh, okAV, hgt, setS_set, setS_gl, hx]) rfl rfl ?_
   rintro r σ' ⟨rfl, rfl⟩
   refine al_nil ?_
   refine aR (by simp [go_sem, hgs, hls, encSh, okAV, hgt, setS_set, setS_gl, hx] <;> rfl) ?_
   exact next_intro (k + 1) σ.objs.length σ.toks.length 1 (hlt) (by omega) ⟨by show setS σ om (mkK d S (k + 1)) = Store.cut _ _ _; rw [hcn]; first | exact setS_cut.symm | (show _ = Store.cut (setS (setS σ om _) om _) _ _; rw [setS_set]; exact setS_cut.symm) | simp [go_sem, setS_cut], rfl, by simp, by simp, by simp [go_sem, hgs, hls, encSh, okAV, hgt, setS_set, setS_gl, hx, hw, hol, setS_no, setS_nt], fun ob h => setS_mem h, by simp [go_sem]⟩
  ·have hke : k = (inner d).length := by simp at h5; omega
   subst hke
   have hca := mkK_all (d := d) (S := S)
   refine awp_exit ?_
   refine then_exit ?_
   refine then_exit ?_
   refine inBlock_hit ?_
   refine ends_normal (by simp [go_sem] <;> rfl) (by simp [go_sem]) ?_
   exact ⟨by simp [go_sem], by simp [go_sem, hca]⟩

end Go.Proofs.YtmpofjiokpeegaaGreatDoor

/- Renaming. -/
namespace Go.Proofs.YtmpofjiokpeegaaGreatDoor
open Go Go.Aw
variable {kr : KR}
set_option maxHeartbeats 1000000 in
theorem c_ClipP (l : List (ByteArray × ByteArray)) : Pur Tryz.prog (GL kr) 131 [.pv (.slice (l.map encPair))] (.full (l.map encPair)) := by
 refine pur_of fun σ hgl => ?_
 refine acalls_of tyOk Tryz.func131 rfl (by simp [Tryz.f131]) ?_
 refine awp_seq (aR (by simp [go_sem] <;> rfl) ?_)
 refine awp_seq (aR (by simp [go_sem] <;> rfl) ?_)
 refine awp_ret ?_
 refine ends_ret (by simp [go_sem] <;> rfl) (by simp [go_sem]) ?_
 exact ⟨by simp [go_sem], by simp [go_sem]⟩

def dCells (d : D) : List AV := [.pv (.int .i64 d.kind), .pv (.int .i64 d.num), .pv (.str d.text), .pv (.slice (d.kids.map enc))]
theorem encPair_cells (p : ByteArray × ByteArray) : (encPair p).cells = [.str p.1, .str p.2] := rfl
@[go_sem] theorem allSz_pair (l : List (ByteArray × ByteArray)) : allSz 2 (l.map encPair) = true := by simp [allSz, encPair_cells]
/-- The store when the search is over: a name was found. -/
structure RenSt (σ : Store) (d : D) (cs : List AV) (l : Nat) (st : LoopState) (pe : Option Code) (τ : Store) : Prop where
  gl : τ.gl = σ.gl
  toks : τ.toks = σ.toks
  low : τ.objs.take σ.objs.length = σ.objs
  b0 : τ.objs[σ.objs.length]? = some (.box (dCells d))
  b1 : τ.objs[σ.objs.length + 1]? = some (.box cs)
  loop : ∃ T N ps asg body, τ.objs[σ.objs.length + 3]? = some (.loop l st pe T N ps asg body)

set_option maxHeartbeats 1000000 in
theorem c_renamed (d : D) : ∀ (hg : GoodM d) (env : List ByteArray) (hb : env.length + 3 * d.size ≤ 1000000000) (σ : Store) (hgl : σ.gl = (GL kr)), PurAt Tryz.prog σ 79 [.pv (enc d), .pv (.slice ((envP env).map encPair)), .func (.func 80) []] (.pv (enc (mren d env))) := by
 induction d using D.ind with
 | _ kind num text kids ih =>
 generalize hD : D.mk kind num text kids = d at *
 have hk : d.kids = kids := by rw [← hD]; rfl
 clear hD
 subst hk
 have hkl := D.kids_length_lt d
 have hil := inner_len d
 have hls := fun (s : St) (x : ByteArray) (ok : Bool) => look_sh (S := kr) (ty := ty) (s := s) (t := 131) (x := x) (ok := ok) rfl rfl rfl rfl rfl rfl rfl
 intro hg env hb σ hgl
 refine purAt_of ?_
 have hgs : lookupG σ.gl 0 = some (.ptr [.map (shK kr) (shV kr)]) := by rw [hgl]; exact gl_sh
 have hpl := envP_length env
 refine acalls_of tyOk Tryz.func79 rfl (by simp [Tryz.f79]) ?_
 refine awp_seq (awp_region_run (sh := [3, 6]) tyOk (by simp [go_sem, hgs, hls, encSh, okAV] <;> rfl) ?_)
 refine awp_seq (awp_seq (aR (by simp [go_sem, hgs, hls, encSh, okAV] <;> rfl) ?_))
 refine awp_cond (by first | rfl | (simp [go_sem, hgs, hls, encSh, okAV] <;> rfl)) (fun h0 => ?_) (fun h0 => ?_)
 ·refine awp_seq ?_
  refine awp_seq (awp_reg ?_)
  refine aL 1 (by simp [go_sem, hgs, hls, encSh, okAV] <;> rfl) ?_
  refine al_callW rfl rfl rfl (by simp [go_sem, hgs, hls, encSh, okAV] <;> rfl) call130 (c_BackMake ((envP env).map encPair) _) (by simp [go_sem, hgs, hls, encSh, okAV] <;> rfl) (by simp [go_sem, hgs, hls, encSh, okAV]) rfl rfl ?_
  rintro r σ' ⟨rfl, rfl⟩
  refine al_nil ?_
  refine awp_block ?_
  refine awp_rangeFunc [3, 6] (by simp [go_sem, hgs, hls, encSh, okAV] <;> rfl) call181 (by simp [go_sem]) (by simp [go_sem, keepT, hgs, hls, encSh, okAV]) (by decide) fun l => ?_
  refine acalls_gen ?_
  intro ST hST
  simp only [go_sem, keepT, List.map_cons, List.map_nil, List.append_assoc, List.cons_append, List.nil_append] at hST
  have hb0 : ST.objs[σ.objs.length]? = some (.box (dCells d)) := by rw [hST]; simp [go_sem, dCells]
  have hb1 : ST.objs[σ.objs.length + 1]? = some (.box [.pv (.int .i64 0), .pv (.int .i64 0), .pv (.str ⟨#[]⟩), .pv .nils]) := by rw [hST]; simp [go_sem]
  have hb2 : ST.objs[σ.objs.length + 2]? = some (.box [.pv (.slice ((envP env).map encPair))]) := by rw [hST]; simp [go_sem]
  have hglS : ST.gl = σ.gl := by rw [hST]
  have hts : ST.toks = σ.toks := by rw [hST]
  have hlow : ST.objs.take σ.objs.length = σ.objs := by rw [hST]; simp [go_sem]
  have hlen : ST.objs.length = σ.objs.length + 4 := by rw [hST]; simp [go_sem]
  obtain ⟨T0, ps0, as0, bd0, hL⟩ : ∃ T0 ps0 as0 bd0, ST.objs[σ.objs.length + 3]? = some (.loop l .ready none T0 115 ps0 as0 bd0) := ⟨_, _, _, _, by rw [hST]; exact get_app4⟩
  have hround : ∀ (i : Nat) (τ : Store), i < (envP env).length → (τ = ST ∧ NoneLast env d.text i) → ACallsY Tryz.prog l (backArgs (envP env) i) τ fun r τ' => (r = .pv (.bool true) ∧ τ' = ST ∧ NoneLast env d.text (i + 1)) ∨ (r = .pv (.bool false) ∧ ∃ q : Nat, lastI env d.text = some q ∧ RenSt σ d (dCells (dsym (namedB q))) l .done (some .ret) τ') := by
   rintro i τ hi ⟨hτ, hno⟩
   rw [hτ]
   obtain ⟨q, x, hidx, hget, hba⟩ := back_at hi
   rw [envP_get] at hget
   obtain ⟨y, hy, rfl⟩ := Option.map_eq_some_iff.1 hget
   rw [hba]
   have hqe : env.length - 1 - i = q := by omega
   rw [← hqe] at hy
   refine acallsY_of (o := σ.objs.length + 3) (by rw [hST]; exact get_app4) rfl rfl ?_
   refine aR (by simp [go_sem, hgs, hls, encSh, okAV, hb0, hb1, hL, encPair, dCells, set_ne, set_at] <;> rfl) ?_
   refine ⟨_, _, _, _, _, _, Eq.trans (b := some (.loop l .ready none T0 115 ps0 as0 bd0)) (by simp [go_sem, hgs, hls, encSh, okAV, hb0, hb1, hL, encPair, dCells, set_ne, set_at]) rfl, ?_⟩
   refine awp_block ?_
   refine awp_seq (aR (by simp [go_sem, hgs, hls, encSh, okAV, hb0, hb1, hL, encPair, dCells, set_ne, set_at] <;> rfl) ?_)
   refine awp_cond (by first | rfl | (simp [go_sem, hgs, hls, encSh, okAV, hb0, hb1, hL, encPair, dCells, set_ne, set_at] <;> rfl)) (fun h1 => ?_) (fun h1 => ?_)
   ·refine awp_seq ?_
    refine awp_reg ?_
    refine aL 2 (by simp [go_sem, hgs, hls, encSh, okAV, hb0, hb1, hL, encPair, dCells, set_ne, set_at] <;> rfl) ?_
    refine aF call60 ((c_flat_Sym (namedB q)) _ (by exact hglS.trans hgl)) (by simp [go_sem, hgs, hls, encSh, okAV, hb0, hb1, hL, encPair, dCells, set_ne, set_at] <;> rfl) (by simp [go_sem, hgs, hls, encSh, okAV, hb0, hb1, hL, encPair, dCells, set_ne, set_at]) ?_
    refine aL 1 (by simp [go_sem, hgs, hls, encSh, okAV, hb0, hb1, hL, encPair, dCells, set_ne, set_at] <;> rfl) ?_
    refine al_nil ?_
    refine awp_ret ?_
    refine inBlock_ret ?_
    refine ⟨_, _, _, _, _, _, Eq.trans (b := some (.loop l .busy none T0 115 ps0 as0 bd0)) (by simp [go_sem, hgs, hls, encSh, okAV, hb0, hb1, hL, encPair, dCells, set_ne, set_at]) rfl, ?_⟩
    have hyd : y = d.text := of_decide_eq_true h1
    rw [hyd] at hy
    have hqf := lastI_found hno (by omega) hy
    rw [hqe] at hqf
    refine .inr ⟨rfl, q, hqf, ?_⟩
    refine ⟨?_, ?_, ?_, ?_, ?_, ?_⟩
    · exact hglS
    · exact hts
    · simp [Store.rec_, go_sem, take_set_le, hlow]
    · simp [Store.rec_, go_sem, set_ne, hb0]
    · simp [Store.rec_, go_sem, set_ne, set_at, hb1, dCells, dsym, D.kind, D.num, D.text, D.kids]
    · exact ⟨T0, 115, ps0, as0, bd0, by simp [Store.rec_, go_sem, set_ne, set_at, hL]⟩
   ·refine awp_skip ?_
    refine ⟨_, _, _, _, _, _, Eq.trans (b := some (.loop l .busy none T0 115 ps0 as0 bd0)) (by simp [go_sem, hgs, hls, encSh, okAV, hb0, hb1, hL, encPair, dCells, set_ne, set_at]) rfl, ?_⟩
    refine .inl ⟨rfl, ?_, hno.succ hy h1⟩
    simp only [Store.rec_, List.set_set]
    rw [set_self hL]
  refine (ACalls.args (c_Back (envP env) (by omega) (σ.objs.length + 2) l (fun i τ => τ = ST ∧ NoneLast env d.text i) (fun τ => ∃ q : Nat, lastI env d.text = some q ∧ RenSt σ d (dCells (dsym (namedB q))) l .done (some .ret) τ) (fun i τ h => by rw [h.1]; exact hb2) hround ST ⟨rfl, .zero⟩) (by simp [go_sem, hgs, hls, encSh, okAV])).mono ?_
  rintro _ τ' (⟨hτ, hno⟩ | ⟨q, hq, hgl2, htk2, hlo2, hc0, hc1, T1, N1, ps1, as1, bd1, hc3⟩)
  ·rw [hτ]
   rw [hpl] at hno
   have hln := lastI_none hno
   refine ⟨_, _, _, _, _, _, _, Eq.trans (b := some (.loop l .ready none T0 115 ps0 as0 bd0)) (by simp [go_sem, hgs, hls, encSh, okAV, hL, hb0, hb1, dCells, set_ne, set_at]) rfl, by decide, ?_⟩
   refine awp_seq (aR (by simp [go_sem, hgs, hls, encSh, okAV, hL, hb0, hb1, dCells, set_ne, set_at] <;> rfl) ?_)
   refine awp_ret ?_
   refine then_ret ?_
   have hM : mren d env = d := by rw [mren_eq, if_pos h0, hln]
   refine ends_ret (by simp [go_sem, hb0, hb1, hL, set_ne, set_at] <;> rfl) (by simp [go_sem]) ?_
   exact ⟨by simp [go_sem, hM], by simp [go_sem, take_set_le, hlow, hts, hglS]⟩
  ·refine ⟨_, _, _, _, _, _, _, Eq.trans (b := some (.loop l .done (some .ret) T1 N1 ps1 as1 bd1)) (by simp [go_sem, hgs, hls, encSh, okAV, hc0, hc1, hc3, dCells, set_ne, set_at]) rfl, by decide, ?_⟩
   refine awp_ret ?_
   refine inBlock_ret ?_
   refine then_ret ?_
   refine then_ret ?_
   have hM : mren d env = dsym (namedB q) := by rw [mren_eq, if_pos h0, hq]
   refine ends_ret (by simp [go_sem, hc0, hc1, hc3, set_ne, set_at, dCells] <;> rfl) (by simp [go_sem]) ?_
   exact ⟨by simp [go_sem, hM, enc_sym, dsym], by simp [go_sem, take_set_le, hlo2, htk2, hgl2]⟩
 ·refine awp_skip ?_
  refine awp_seq (awp_seq (awp_reg ?_))
  refine aL 4 (by simp [go_sem, hgs, hls, encSh, okAV] <;> rfl) ?_
  refine al_splitT 36 (by first | rfl | (simp [go_sem, hgs, hls, encSh, okAV] <;> rfl)) (fun h2 => ?_) (fun h2 => ?_)
  ·refine aK 6 36 false ?_
   refine aL 1 (by simp [go_sem, hgs, hls, encSh, okAV] <;> rfl) ?_
   refine al_nil ?_
   refine awp_cond (b := true) (by simp [go_sem, hgs, hls, encSh, okAV, h0, h2]) (fun h => ?_) (fun h => ?_)
   rotate_left
   ·cases h
   refine awp_seq (aR (by simp [go_sem, hgs, hls, encSh, okAV] <;> rfl) ?_)
   refine awp_ret ?_
   refine then_ret ?_
   have hM : mren d env = d := by rw [mren_eq, if_neg (by rw [h0]; decide), if_pos h2]
   refine ends_ret (by simp [go_sem] <;> rfl) (by simp [go_sem]) ?_
   exact ⟨by simp [go_sem, hM], by simp [go_sem]⟩
  ·have hk3 : d.kind = 3 := by simpa using h2
   obtain ⟨x0, r, hks⟩ := kids_cons (hg.ne hk3)
   have hx0 : d.kids[0]? = some x0 := by rw [hks]; rfl
   have hh := head_cons hks
   refine aLG 6 36 false (by simp [go_sem, hgs, hls, encSh, okAV, hx0] <;> rfl) ?_
   refine aL 1 (by simp [go_sem, hgs, hls, encSh, okAV, hx0] <;> rfl) ?_
   refine al_nil ?_
   refine awp_cond (by first | rfl | (simp [go_sem, hgs, hls, encSh, okAV, hx0] <;> rfl)) (fun h3 => ?_) (fun h3 => ?_)
   ·refine awp_seq ?_
    refine aR (by simp [go_sem, hgs, hls, encSh, okAV, hx0] <;> rfl) ?_
    refine awp_ret ?_
    refine then_ret ?_
    have hM : mren d env = d := by rw [mren_eq, if_neg (by rw [h0]; decide), if_neg (by rw [h2]; decide), if_pos (by rw [hh]; exact h3)]
    refine ends_ret (by simp [go_sem] <;> rfl) (by simp [go_sem]) ?_
    exact ⟨by simp [go_sem, hM], by simp [go_sem]⟩
   ·have hq : d.head.text ≠ sQuote := by rw [hh]; exact of_decide_eq_false h3
    have hsn := hg.n hk3 hq
    have hnm := hg.nms hk3 hq
    have hlen := hg.inner_length hk3 hq
    rw [hh] at hsn hnm hlen
    have hsh : ((shp x0.text).getD (0, 0)).1 = shN x0.text := shN_getD
    have hs2 := shN_le x0.text
    have hwr : IntKind.i64.wrap (1 + (shN x0.text : Int)) = 1 + (shN x0.text : Int) := wrap_id (by omega) (by omega)
    have hle : 1 + (shN x0.text : Int) ≤ d.kids.length := by omega
    have h0le : (0 : Int) ≤ 1 + (shN x0.text : Int) := by omega
    have h1le : (1 : Int) ≤ 1 + (shN x0.text : Int) := by omega
    have htn : (1 + (shN x0.text : Int)).toNat = 1 + shN x0.text := by omega
    obtain ⟨L1, hL1⟩ : ∃ L1, L1 = (d.kids.drop 1).take (shN x0.text) := ⟨_, rfl⟩
    have htk := take_tail enc d.kids (shN x0.text)
    rw [← hL1] at htk
    have hnd := nmsD_head hks
    rw [← hL1] at hnd
    have hl1 : L1.length = shN x0.text := by rw [← hnm, hnd, List.length_map]
    refine awp_skip ?_
    refine awp_seq (awp_reg ?_)
    refine aL 1 (by simp [go_sem, hgs, hls, encSh, okAV, hx0, hsh, hwr, hle, h0le, h1le, htn, htk] <;> rfl) ?_
    refine aF call131 ((c_ClipP (envP env)) _ (by exact hgl)) (by simp [go_sem, hgs, hls, encSh, okAV, hx0, hsh, hwr, hle, h0le, h1le, htn, htk] <;> rfl) (by simp [go_sem, hgs, hls, encSh, okAV, hx0, hsh, hwr, hle, h0le, h1le, htn, htk]) ?_
    refine aL 1 (by simp [go_sem, hgs, hls, encSh, okAV, hx0, hsh, hwr, hle, h0le, h1le, htn, htk] <;> rfl) ?_
    refine al_nil ?_
    refine awp_seq (aR (by simp [go_sem, hgs, hls, encSh, okAV, hx0, hsh, hwr, hle, h0le, h1le, htn, htk] <;> rfl) ?_)
    refine awp_seq (awp_seq (awp_regDE tyOk tySz (by kernel_rfl) ?_))
    refine ul_run 14 (by simp [go_sem, hgs, hls, encSh, okAV, hx0, hsh, hwr, hle, h0le, h1le, htn, htk] <;> rfl) ?_
    refine ul_nil ?_
    refine awp_adopt' 9 150 2 (by simp [go_sem] <;> rfl) ?_
    refine awp_adopt' 10 9 1 (by simp [go_sem] <;> rfl) ?_
    refine awp_block ?_
    refine awp_loop_headK (σ.objs.length + 2) (σ.toks.length + 2) 0 [1, 2, 3, 6, 58, 59] (fun k : Nat => [(9, .acc ((envP (env ++ (L1.map D.text).take k)).map encPair) σ.toks.length), (10, .acc (((newN d env.length).map .str).take k) (σ.toks.length + 1)), (60, .pv (.int .i64 ↑k))]) (fun k => { σ with objs := σ.objs ++ [.box [.pv (.int .i64 d.kind), .pv (.int .i64 d.num), .pv (.str d.text), .pv (.slice (d.kids.map enc))], .box [.pv (.int .i64 0), .pv (.int .i64 0), .pv (.str ⟨#[]⟩), .pv .nils]], toks := σ.toks ++ [⟨env.length + k, 150, 2⟩, ⟨k, 9, 1⟩] }) (fun k => k ≤ L1.length) (fun k => L1.length - k) 0 (Nat.zero_le _) ⟨by simp [go_sem, hpl], rfl, by simp, by simp, by simp [go_sem, hgs, hls, encSh, okAV, hx0, hsh, hwr, hle, h0le, h1le, htn, htk], fun ob h => mem_app2 rfl rfl h, by simp [go_sem]⟩ ?_
    intro k hk
    refine awp_seq (aR (by simp [go_sem, hgs, hls, encSh, okAV, hx0, hsh, hwr, hle, h0le, h1le, htn, htk] <;> rfl) ?_)
    refine awp_seq (awp_cond (by first | rfl | (simp [go_sem, hgs, hls, encSh, okAV, hx0, hsh, hwr, hle, h0le, h1le, htn, htk] <;> rfl)) (fun h4 => ?_) (fun h4 => ?_))
    ·have hlt : k < L1.length := by simp at h4; omega
     have hw : IntKind.i64.wrap (↑k + 1) = (k : Int) + 1 := wrap_succ (by omega)
     obtain ⟨x, hx, hxm⟩ := get_lt hlt
     have hen := envP_next (env := env) (L := L1.map D.text) (k := k) (x := x.text) (by simp [hx])
     have hnt : ((newN d env.length).map PV.str).take (k + 1) = ((newN d env.length).map PV.str).take k ++ [.str (namedB ((env.length + k : Nat) : Int))] := take_next (by rw [List.getElem?_map, newN_get (by rw [hh]; omega)]; rfl)
     have hm : min k L1.length = k := by omega
     have hel : (envP (env ++ (L1.map D.text).take k)).length = env.length + k := by rw [envP_length]; simp; omega
     have hnl : (newN d env.length).length = L1.length := by rw [newN_len, hh, hl1]
     have hb2 : (env.length + k + 1) * 32 ≤ 140737488355328 := by omega
     have hb3 : (k + 1) * 16 ≤ 140737488355328 := by omega
     refine awp_skip ?_
     refine awp_seq (awp_block ?_)
     refine awp_seq (aR (by simp [go_sem, hgs, hls, encSh, okAV, hx0, hsh, hwr, hle, h0le, h1le, htn, htk, hx, hm, hel, hnl, hb2, hb3, encPair] <;> rfl) ?_)
     refine awp_seq (awp_regDC tyOk tySz 10 (by kernel_rfl) (by decide) ?_)
     refine ul_run 7 (by simp [go_sem, hgs, hls, encSh, okAV, hx0, hsh, hwr, hle, h0le, h1le, htn, htk, hx, hm, hel, hnl, hb2, hb3, encPair] <;> rfl) ?_
     refine ul_fn (by first | (intro _ _ hh; exact hh) | simp [go_sem]) rfl rfl rfl rfl (by simp [go_sem, hgs, hls, encSh, okAV, hx0, hsh, hwr, hle, h0le, h1le, htn, htk, hx, hm, hel, hnl, hb2, hb3, encPair] <;> rfl) call80 ((c_Plain_1 x.text ((env.length + k : Nat) : Int) (by omega) (by omega)) _ (by exact hgl)) (by simp [go_sem, hgs, hls, encSh, okAV, hx0, hsh, hwr, hle, h0le, h1le, htn, htk, hx, hm, hel, hnl, hb2, hb3, encPair] <;> rfl) (by simp [go_sem, hgs, hls, encSh, okAV, hx0, hsh, hwr, hle, h0le, h1le, htn, htk, hx, hm, hel, hnl, hb2, hb3, encPair]) rfl rfl ?_
     refine ul_run 2 (by simp [go_sem, hgs, hls, encSh, okAV, hx0, hsh, hwr, hle, h0le, h1le, htn, htk, hx, hm, hel, hnl, hb2, hb3, encPair] <;> rfl) ?_
     refine ul_nil ?_
     refine aL 1 (by simp [go_sem, hgs, hls, encSh, okAV, hx0, hsh, hwr, hle, h0le, h1le, htn, htk, hx, hm, hel, hnl, hb2, hb3, encPair] <;> rfl) ?_
     refine al_nil ?_
     refine awp_seq (aR (by simp [go_sem, hgs, hls, encSh, okAV, hx0, hsh, hwr, hle, h0le, h1le, htn, htk, hx, hm, hel, hnl, hb2, hb3, encPair] <;> rfl) ?_)
     refine aR (by simp [go_sem, hgs, hls, encSh, okAV, hx0, hsh, hwr, hle, h0le, h1le, htn, htk, hx, hm, hel, hnl, hb2, hb3, encPair] <;> rfl) ?_
     refine aR (by simp [go_sem, hgs, hls, encSh, okAV, hx0, hsh, hwr, hle, h0le, h1le, htn, htk, hx, hm, hel, hnl, hb2, hb3, encPair] <;> rfl) ?_
     exact next_intro (k + 1) (σ.objs.length + 2) (σ.toks.length + 2) 0 (hlt) (by omega) ⟨by simp [go_sem, hgs, hls, encSh, okAV, hx0, hsh, hwr, hle, h0le, h1le, htn, htk, hx, hm, hel, hnl, hb2, hb3, encPair, hw, hen, hnt, encPair, Nat.add_assoc], rfl, by simp, by simp, by simp [go_sem, hgs, hls, encSh, okAV, hx0, hsh, hwr, hle, h0le, h1le, htn, htk, hx, hm, hel, hnl, hb2, hb3, encPair, hw, hen, hnt, encPair, Nat.add_assoc], fun ob h => mem_app2 rfl rfl h, by simp [go_sem]⟩
    ·have hke : k = L1.length := by simp at h4; omega
     subst hke
     have hnl : (newN d env.length).length = L1.length := by rw [newN_len, hh, hl1]
     have hna : ((newN d env.length).map PV.str).take L1.length = (newN d env.length).map PV.str := List.take_of_length_le (by simp [hnl])
     refine awp_exit ?_
     refine then_exit ?_
     refine then_exit ?_
     refine inBlock_hit ?_
     refine awp_seq (aR (by simp [go_sem, hgs, hls, encSh, okAV, hx0, hsh, hwr, hle, h0le, h1le, htn, htk, hna] <;> rfl) ?_)
     refine awp_seq (awp_seq (awp_reg ?_))
     refine aL 1 (by simp [go_sem, hgs, hls, encSh, okAV, hx0, hsh, hwr, hle, h0le, h1le, htn, htk, hna] <;> rfl) ?_
     refine aF call113 ((c_Inner d hg.ne hg.n) _ (by exact hgl)) (by simp [go_sem, hgs, hls, encSh, okAV, hx0, hsh, hwr, hle, h0le, h1le, htn, htk, hna] <;> rfl) (by simp [go_sem, hgs, hls, encSh, okAV, hx0, hsh, hwr, hle, h0le, h1le, htn, htk, hna]) ?_
     refine aL 2 (by simp [go_sem, hgs, hls, encSh, okAV, hx0, hsh, hwr, hle, h0le, h1le, htn, htk, hna] <;> rfl) ?_
     refine al_nil ?_
     refine awp_adopt' 14 24 4 (by simp [go_sem] <;> rfl) ?_
     refine awp_block ?_
     refine awp_loop_headK (σ.objs.length + 2) (σ.toks.length + 3) 0 [1, 2, 3, 6, 9, 10, 84, 85] (fun k : Nat => [(14, .acc (((mapI (fun i x => mren x (env ++ bnd d i)) (inner d)).map enc).take k) (σ.toks.length + 2)), (86, .pv (.int .i64 ↑k))]) (fun k => { σ with objs := σ.objs ++ [.box [.pv (.int .i64 d.kind), .pv (.int .i64 d.num), .pv (.str d.text), .pv (.slice (d.kids.map enc))], .box [.pv (.int .i64 0), .pv (.int .i64 0), .pv (.str ⟨#[]⟩), .pv .nils]], toks := σ.toks ++ [⟨env.length + L1.length, 150, 2⟩, ⟨L1.length, 9, 1⟩, ⟨k, 24, 4⟩] }) (fun k => k ≤ (inner d).length) (fun k => (inner d).length - k) 0 (Nat.zero_le _) ⟨by simp [go_sem, hgs, hls, encSh, okAV, hx0, hsh, hwr, hle, h0le, h1le, htn, htk, hna], rfl, by simp, by simp, by simp [go_sem, hgs, hls, encSh, okAV, hx0, hsh, hwr, hle, h0le, h1le, htn, htk, hna], fun ob h => mem_app2 rfl rfl h, by simp [go_sem]⟩ ?_
     intro k hk
     refine awp_seq (aR (by simp [go_sem, hgs, hls, encSh, okAV, hx0, hsh, hwr, hle, h0le, h1le, htn, htk, hna] <;> rfl) ?_)
     refine awp_seq (awp_cond (by first | rfl | (simp [go_sem, hgs, hls, encSh, okAV, hx0, hsh, hwr, hle, h0le, h1le, htn, htk, hna] <;> rfl)) (fun h5 => ?_) (fun h5 => ?_))
     ·have hlt : k < (inner d).length := by simp at h5; omega
      have hw : IntKind.i64.wrap (↑k + 1) = (k : Int) + 1 := wrap_succ (by omega)
      obtain ⟨x, hx, hxm⟩ := get_lt hlt
      have hmn : ((mapI (fun i x => mren x (env ++ bnd d i)) (inner d)).map enc).take (k + 1) = ((mapI (fun i x => mren x (env ++ bnd d i)) (inner d)).map enc).take k ++ [enc (mren x (env ++ bnd d k))] := take_next (by rw [List.getElem?_map, mapI_get, hx]; rfl)
      have hm : min k (inner d).length = k := by omega
      have hb2 : (k + 1) * 56 ≤ 140737488355328 := by omega
      refine awp_skip ?_
      refine awp_seq (awp_block ?_)
      refine awp_seq (aR (by simp [go_sem, hgs, hls, encSh, okAV, hx0, hsh, hwr, hle, h0le, h1le, htn, htk, hna, hx, hm, hb2, mapI_length] <;> rfl) ?_)
      refine awp_seq (awp_reg ?_)
      refine aL 2 (by simp [go_sem, hgs, hls, encSh, okAV, hx0, hsh, hwr, hle, h0le, h1le, htn, htk, hna, hx, hm, hb2, mapI_length] <;> rfl) ?_
      refine aF call132 ((c_bound d hg k (by omega)) _ (by exact hgl)) (by simp [go_sem, hgs, hls, encSh, okAV, hx0, hsh, hwr, hle, h0le, h1le, htn, htk, hna, hx, hm, hb2, mapI_length] <;> rfl) (by simp [go_sem, hgs, hls, encSh, okAV, hx0, hsh, hwr, hle, h0le, h1le, htn, htk, hna, hx, hm, hb2, mapI_length]) ?_
      refine aL 2 (by simp [go_sem, hgs, hls, encSh, okAV, hx0, hsh, hwr, hle, h0le, h1le, htn, htk, hna, hx, hm, hb2, mapI_length] <;> rfl) ?_
      refine al_nil ?_
      refine awp_cond (by first | rfl | (simp [go_sem, hgs, hls, encSh, okAV, hx0, hsh, hwr, hle, h0le, h1le, htn, htk, hna, hx, hm, hb2, mapI_length] <;> rfl)) (fun h6 => ?_) (fun h6 => ?_)
      ·have hbn : bnd d k = L1.map D.text := ((hg.bnd_nms hk3 k).resolve_left (fun e => by rw [e] at h6; simp at h6)).trans hnd
       refine awp_reg ?_
       refine aL 4 (by simp [go_sem, hgs, hls, encSh, okAV, hx0, hsh, hwr, hle, h0le, h1le, htn, htk, hna, hx, hm, hb2, mapI_length] <;> rfl) ?_
       refine aF call79 (ih x (inner_mem hxm) (hg.part hxm) (env ++ bnd d k) (by have := bnd_len d k; have := D.size_kid_lt (inner_mem hxm); simp; omega) _ (by exact hgl)) (by simp [go_sem, hgs, hls, encSh, okAV, hx0, hsh, hwr, hle, h0le, h1le, htn, htk, hna, hx, hm, hb2, mapI_length] <;> rfl) (by simp [go_sem, hgs, hls, encSh, okAV, hx0, hsh, hwr, hle, h0le, h1le, htn, htk, hna, hx, hm, hb2, mapI_length, hbn]) ?_
       refine aL 3 (by simp [go_sem, hgs, hls, encSh, okAV, hx0, hsh, hwr, hle, h0le, h1le, htn, htk, hna, hx, hm, hb2, mapI_length] <;> rfl) ?_
       refine al_nil ?_
       refine aR (by simp [go_sem, hgs, hls, encSh, okAV, hx0, hsh, hwr, hle, h0le, h1le, htn, htk, hna, hx, hm, hb2, mapI_length] <;> rfl) ?_
       exact next_intro (k + 1) (σ.objs.length + 2) (σ.toks.length + 3) 0 (hlt) (by omega) ⟨by simp [go_sem, hgs, hls, encSh, okAV, hx0, hsh, hwr, hle, h0le, h1le, htn, htk, hna, hx, hm, hb2, mapI_length, hw, hmn], rfl, by simp, by simp, by simp [go_sem, hgs, hls, encSh, okAV, hx0, hsh, hwr, hle, h0le, h1le, htn, htk, hna, hx, hm, hb2, mapI_length, hw, hmn], fun ob h => mem_app2 rfl rfl h, by simp [go_sem]⟩
      ·have hbn : bnd d k = [] := by simpa using h6
       refine awp_reg ?_
       refine aL 4 (by simp [go_sem, hgs, hls, encSh, okAV, hx0, hsh, hwr, hle, h0le, h1le, htn, htk, hna, hx, hm, hb2, mapI_length] <;> rfl) ?_
       refine aF call79 (ih x (inner_mem hxm) (hg.part hxm) (env ++ bnd d k) (by have := bnd_len d k; have := D.size_kid_lt (inner_mem hxm); simp; omega) _ (by exact hgl)) (by simp [go_sem, hgs, hls, encSh, okAV, hx0, hsh, hwr, hle, h0le, h1le, htn, htk, hna, hx, hm, hb2, mapI_length] <;> rfl) (by simp [go_sem, hgs, hls, encSh, okAV, hx0, hsh, hwr, hle, h0le, h1le, htn, htk, hna, hx, hm, hb2, mapI_length, hbn]) ?_
       refine aL 3 (by simp [go_sem, hgs, hls, encSh, okAV, hx0, hsh, hwr, hle, h0le, h1le, htn, htk, hna, hx, hm, hb2, mapI_length] <;> rfl) ?_
       refine al_nil ?_
       refine aR (by simp [go_sem, hgs, hls, encSh, okAV, hx0, hsh, hwr, hle, h0le, h1le, htn, htk, hna, hx, hm, hb2, mapI_length] <;> rfl) ?_
       exact next_intro (k + 1) (σ.objs.length + 2) (σ.toks.length + 3) 0 (hlt) (by omega) ⟨by simp [go_sem, hgs, hls, encSh, okAV, hx0, hsh, hwr, hle, h0le, h1le, htn, htk, hna, hx, hm, hb2, mapI_length, hw, hmn], rfl, by simp, by simp, by simp [go_sem, hgs, hls, encSh, okAV, hx0, hsh, hwr, hle, h0le, h1le, htn, htk, hna, hx, hm, hb2, mapI_length, hw, hmn], fun ob h => mem_app2 rfl rfl h, by simp [go_sem]⟩
     ·have hke : k = (inner d).length := by simp at h5; omega
      subst hke
      have hma : ((mapI (fun i x => mren x (env ++ bnd d i)) (inner d)).map enc).take (inner d).length = (mapI (fun i x => mren x (env ++ bnd d i)) (inner d)).map enc := List.take_of_length_le (by simp [mapI_length])
      refine awp_exit ?_
      refine then_exit ?_
      refine then_exit ?_
      refine inBlock_hit ?_
      refine awp_seq (awp_reg ?_)
      refine aL 3 (by simp [go_sem, hgs, hls, encSh, okAV, hx0, hsh, hwr, hle, h0le, h1le, htn, htk, hna, hma] <;> rfl) ?_
      refine aF call114 ((c_with d (hg.ne hk3) (newN d env.length) (mapI (fun i x => mren x (env ++ bnd d i)) (inner d)) (by rw [newN_len, hh, mapI_length]; omega)) _ (by exact hgl)) (by simp [go_sem, hgs, hls, encSh, okAV, hx0, hsh, hwr, hle, h0le, h1le, htn, htk, hna, hma] <;> rfl) (by simp [go_sem, hgs, hls, encSh, okAV, hx0, hsh, hwr, hle, h0le, h1le, htn, htk, hna, hma]) ?_
      refine aL 1 (by simp [go_sem, hgs, hls, encSh, okAV, hx0, hsh, hwr, hle, h0le, h1le, htn, htk, hna, hma] <;> rfl) ?_
      refine al_nil ?_
      refine awp_ret ?_
      have hM : mren d env = dlist (d.head :: (newN d env.length).map dsym ++ mapI (fun i x => mren x (env ++ bnd d i)) (inner d)) := by rw [mren_eq, if_neg (by rw [h0]; decide), if_neg (by rw [h2]; decide), if_neg (by simpa using hq)]
      refine ends_ret (by simp [go_sem] <;> rfl) (by simp [go_sem]) ?_
      exact ⟨by simp [go_sem, hM], by simp [go_sem]⟩

end Go.Proofs.YtmpofjiokpeegaaGreatDoor

/- Plain, Same, Erase, Lifted. -/
namespace Go.Proofs.YtmpofjiokpeegaaGreatDoor
open Go Go.Aw
variable {kr : KR}
set_option maxHeartbeats 1000000 in
theorem c_flat_Own (d : D) (hd : d.size ≤ 1000000000) : Pur Tryz.prog (GL kr) 55 [.pv (enc d)] (.pv (enc d)) := by
 refine pur_of fun σ hgl => ?_
 refine acalls_of tyOk Tryz.func55 rfl (by simp [Tryz.f55]) ?_
 refine awp_seq (aR (by simp [go_sem] <;> rfl) ?_)
 refine awp_seq (awp_reg ?_)
 refine aL 1 (by simp [go_sem] <;> rfl) ?_
 refine aF call112 ((c_own d hd) _ (by exact hgl)) (by simp [go_sem] <;> rfl) (by simp [go_sem]) ?_
 refine aL 1 (by simp [go_sem] <;> rfl) ?_
 refine al_nil ?_
 refine awp_ret ?_
 refine ends_ret (by simp [go_sem] <;> rfl) (by simp [go_sem]) ?_
 exact ⟨by simp [go_sem], by simp [go_sem]⟩

set_option maxHeartbeats 1000000 in
theorem c_mPlain (d : D) (hd : d.size ≤ 100000000) : Pur Tryz.prog (GL kr) 36 [.pv (enc d)] (.tuple [.pv (enc (mplain d).1), .pv (.int .i64 (mplain d).2)]) := by
 refine pur_of fun σ hgl => ?_
 refine acalls_of tyOk Tryz.func36 rfl (by simp [Tryz.f36]) ?_
 refine awp_seq (aR (by simp [go_sem] <;> rfl) ?_)
 refine awp_seq (awp_seq (awp_reg ?_))
 refine aL 1 (by simp [go_sem] <;> rfl) ?_
 refine aF call21 ((c_mCheck d (by omega)) _ (by exact hgl)) (by simp [go_sem] <;> rfl) (by simp [go_sem]) ?_
 refine aL 1 (by simp [go_sem] <;> rfl) ?_
 refine al_nil ?_
 refine awp_seq (aR (by simp [go_sem] <;> rfl) ?_)
 refine awp_cond (by first | rfl | (simp [go_sem] <;> rfl)) (fun h0 => ?_) (fun h0 => ?_)
 ·refine awp_seq ?_
  refine aR (by simp [go_sem] <;> rfl) ?_
  refine awp_ret ?_
  refine then_ret ?_
  have hM : mplain d = (dnone, mcheck d) := by unfold mplain; rw [if_pos h0]
  refine ends_ret (by simp [go_sem] <;> rfl) (by simp [go_sem]) ?_
  exact ⟨by simp [go_sem, hM, enc_none], by simp [go_sem, setS_new]⟩
 ·have hz : mcheck d = 0 := by simpa using h0
  have hg := mcheck_good hz
  have henv : (envP ([] : List ByteArray)) = [] := rfl
  have hfl : (mfree d [] []).length ≤ d.size := by have := mfree_len d [] []; simpa using this
  obtain ⟨S, hS⟩ : ∃ S, S = mused d := ⟨_, rfl⟩
  have hS2 : (mbnd (mren d [])).foldl addS [] = S := hS.symm
  refine awp_skip ?_
  refine awp_seq (awp_reg ?_)
  refine aL 1 (by simp [go_sem, hS2, henv] <;> rfl) ?_
  refine aF call79 (c_renamed d hg [] (by simp; omega) _ (by exact hgl)) (by simp [go_sem, hS2, henv] <;> rfl) (by simp [go_sem, hS2, henv, henv]) ?_
  refine aL 2 (by simp [go_sem, hS2, henv] <;> rfl) ?_
  refine al_nil ?_
  refine awp_seq (aR (by simp [go_sem, hS2, henv] <;> rfl) ?_)
  refine awp_seq (awp_reg ?_)
  refine aL 2 (by simp [go_sem, hS2, henv] <;> rfl) ?_
  refine al_callW rfl rfl rfl (by simp [go_sem, hS2, henv] <;> rfl) call82 (c_mark (mren d []) (mren_ok hg []) (by have := mren_size hg []; omega) [] _ σ.objs.length (by exact hgl) (by simp [tK, tV])) (by simp [go_sem, hS2, henv] <;> rfl) (by simp [go_sem, hS2, henv]) rfl rfl ?_
  rintro r σ' ⟨rfl, rfl⟩
  refine al_nil ?_
  refine awp_seq (awp_seq (awp_reg ?_))
  refine aL 1 (by simp [go_sem, hS2, henv, setS_new] <;> rfl) ?_
  refine aF call62 ((c_FreeNames d hg hd) _ (by exact hgl)) (by simp [go_sem, hS2, henv, setS_new] <;> rfl) (by simp [go_sem, hS2, henv, setS_new]) ?_
  refine aL 2 (by simp [go_sem, hS2, henv, setS_new] <;> rfl) ?_
  refine al_nil ?_
  refine awp_block ?_
  refine awp_loop_headK (σ.objs.length + 1) σ.toks.length 3 [2, 3, 5, 6, 22, 23] (fun k : Nat => [(24, .pv (.int .i64 ↑k))]) (fun k => { σ with objs := σ.objs ++ [.map (tK S) (tV S)] }) (fun k => k ≤ (mfree d [] []).length ∧ NotYet (fun x => pname x && memB S x) (mfree d [] []) k) (fun k => (mfree d [] []).length - k) 0 (⟨Nat.zero_le _, .zero⟩) ⟨by simp [go_sem, hS2, henv, setS_new], rfl, by simp, by simp, by simp [go_sem, hS2, henv, setS_new], fun ob h => mem_app1 rfl h, by simp [go_sem]⟩ ?_
  rintro k ⟨hk, hn⟩
  refine awp_seq (aR (by simp [go_sem, hS2, henv, setS_new] <;> rfl) ?_)
  refine awp_seq (awp_cond (by first | rfl | (simp [go_sem, hS2, henv, setS_new] <;> rfl)) (fun h1 => ?_) (fun h1 => ?_))
  ·have hlt : k < (mfree d [] []).length := by simp at h1; omega
   have hw : IntKind.i64.wrap (↑k + 1) = (k : Int) + 1 := wrap_succ (by omega)
   obtain ⟨x, hx, hxm⟩ := get_lt hlt
   have hlk := fun (s : St) (ho : s.σ.objs[σ.objs.length]? = some (.map (tK S) (tV S))) => look_set (ty := ty) (s := s) (t := 107) (S := S) (o := σ.objs.length) rfl rfl rfl rfl rfl rfl rfl ho x
   refine awp_skip ?_
   refine awp_seq (awp_block ?_)
   refine awp_seq (aR (by simp [go_sem, hS2, henv, setS_new, hx, hlk] <;> rfl) ?_)
   refine awp_seq (awp_reg ?_)
   refine aL 1 (by simp [go_sem, hS2, henv, setS_new, hx, hlk] <;> rfl) ?_
   refine aF call83 ((c_plainName x (by have := free_short hg hxm; omega)) _ (by exact hgl)) (by simp [go_sem, hS2, henv, setS_new, hx, hlk] <;> rfl) (by simp [go_sem, hS2, henv, setS_new, hx, hlk]) ?_
   refine aL 1 (by simp [go_sem, hS2, henv, setS_new, hx, hlk] <;> rfl) ?_
   refine al_splitT 30 (by first | rfl | (simp [go_sem, hS2, henv, setS_new, hx, hlk] <;> rfl)) (fun h2 => ?_) (fun h2 => ?_)
   ·refine aLG 3 30 true (by simp [go_sem, hS2, henv, setS_new, hx, hlk] <;> rfl) ?_
    refine aL 1 (by simp [go_sem, hS2, henv, setS_new, hx, hlk] <;> rfl) ?_
    refine al_nil ?_
    refine awp_cond (by first | rfl | (simp [go_sem, hS2, henv, setS_new, hx, hlk] <;> rfl)) (fun h3 => ?_) (fun h3 => ?_)
    ·refine awp_seq ?_
     refine aR (by simp [go_sem, hS2, henv, setS_new, hx, hlk] <;> rfl) ?_
     refine awp_ret ?_
     refine inBlock_ret ?_
     refine then_ret ?_
     refine then_ret ?_
     refine inBlock_ret ?_
     refine then_ret ?_
     have hcl : mclash d = true := by unfold mclash; rw [← hS]; exact List.any_eq_true.2 ⟨x, hxm, by rw [h2, h3]; rfl⟩
     have hM : mplain d = (dnone, 6) := by unfold mplain; rw [if_neg (by rw [h0]; decide), if_pos hcl]
     refine ends_ret (by simp [go_sem] <;> rfl) (by simp [go_sem]) ?_
     exact ⟨by simp [go_sem, hM, enc_none], by simp [go_sem, setS_new]⟩
    ·refine awp_skip ?_
     refine aR (by simp [go_sem, hS2, henv, setS_new, hx, hlk] <;> rfl) ?_
     exact next_intro (k + 1) (σ.objs.length + 1) σ.toks.length 3 (⟨hlt, hn.succ hx (by simp [h0, h1, h2, h3])⟩) (by omega) ⟨by simp [go_sem, hS2, henv, setS_new, hx, hlk, hw], rfl, by simp, by simp, by simp [go_sem, hS2, henv, setS_new, hx, hlk, hw], fun ob h => mem_app1 rfl h, by simp [go_sem]⟩
   ·refine aK 3 30 true ?_
    refine aL 1 (by simp [go_sem, hS2, henv, setS_new, hx, hlk] <;> rfl) ?_
    refine al_nil ?_
    refine awp_cond (b := false) (by simp [go_sem, hS2, henv, setS_new, hx, hlk, h0, h1, h2]) (fun h => ?_) (fun h => ?_)
    ·cases h
    refine awp_skip ?_
    refine aR (by simp [go_sem, hS2, henv, setS_new, hx, hlk] <;> rfl) ?_
    exact next_intro (k + 1) (σ.objs.length + 1) σ.toks.length 3 (⟨hlt, hn.succ hx (by simp [h0, h1, h2])⟩) (by omega) ⟨by simp [go_sem, hS2, henv, setS_new, hx, hlk, hw], rfl, by simp, by simp, by simp [go_sem, hS2, henv, setS_new, hx, hlk, hw], fun ob h => mem_app1 rfl h, by simp [go_sem]⟩
  ·have hke : k = (mfree d [] []).length := by simp at h1; omega
   subst hke
   have hcl : mclash d = false := by unfold mclash; rw [← hS]; exact hn.any
   refine awp_exit ?_
   refine then_exit ?_
   refine then_exit ?_
   refine inBlock_hit ?_
   refine awp_seq (awp_seq (awp_reg ?_))
   refine aL 1 (by simp [go_sem, hS2, henv, setS_new] <;> rfl) ?_
   refine aF call61 ((c_datum_Check (mren d []) (by have := mren_size hg []; omega)) _ (by exact hgl)) (by simp [go_sem, hS2, henv, setS_new] <;> rfl) (by simp [go_sem, hS2, henv, setS_new]) ?_
   refine aL 1 (by simp [go_sem, hS2, henv, setS_new] <;> rfl) ?_
   refine al_nil ?_
   refine awp_cond (by first | rfl | (simp [go_sem, hS2, henv, setS_new] <;> rfl)) (fun h4 => ?_) (fun h4 => ?_)
   ·refine awp_seq ?_
    refine aR (by simp [go_sem, hS2, henv, setS_new] <;> rfl) ?_
    refine awp_ret ?_
    refine then_ret ?_
    have hM : mplain d = (dnone, 3) := by unfold mplain; rw [if_neg (by rw [h0]; decide), hcl, if_neg (by decide), if_pos h4]
    refine ends_ret (by simp [go_sem] <;> rfl) (by simp [go_sem]) ?_
    exact ⟨by simp [go_sem, hM, enc_none], by simp [go_sem, setS_new]⟩
   ·refine awp_skip ?_
    refine awp_seq (awp_reg ?_)
    refine aL 1 (by simp [go_sem, hS2, henv, setS_new] <;> rfl) ?_
    refine aF call55 ((c_flat_Own (mren d []) (by have := mren_size hg []; omega)) _ (by exact hgl)) (by simp [go_sem, hS2, henv, setS_new] <;> rfl) (by simp [go_sem, hS2, henv, setS_new]) ?_
    refine aL 2 (by simp [go_sem, hS2, henv, setS_new] <;> rfl) ?_
    refine al_nil ?_
    refine awp_ret ?_
    have hM : mplain d = (mren d [], 0) := by unfold mplain; rw [if_neg (by rw [h0]; decide), hcl, if_neg (by decide), if_neg (by rw [h4]; decide)]
    refine ends_ret (by simp [go_sem] <;> rfl) (by simp [go_sem]) ?_
    exact ⟨by simp [go_sem, hM, enc_none], by simp [go_sem, setS_new]⟩

set_option maxHeartbeats 1000000 in
theorem c_mSame (a b : D) (ha : a.size ≤ 100000000) (hb : b.size ≤ 100000000) : Pur Tryz.prog (GL kr) 37 [.pv (enc a), .pv (enc b)] (.tuple [.pv (.bool (msame a b).1), .pv (.int .i64 (msame a b).2)]) := by
 have hw1 : IntKind.i64.wrap 1 = 1 := by decide
 have hw2 : IntKind.i64.wrap 2 = 2 := by decide
 refine pur_of fun σ hgl => ?_
 refine acalls_of tyOk Tryz.func37 rfl (by simp [Tryz.f37]) ?_
 refine awp_seq (aR (by simp [go_sem, hw1, hw2] <;> rfl) ?_)
 refine awp_seq (awp_seq (aR (by simp [go_sem, hw1, hw2] <;> rfl) ?_))
 refine awp_block ?_
 refine awp_loopL (awpL_round ?_)
 refine awp_seq (aR (by simp [go_sem, hw1, hw2] <;> rfl) ?_)
 refine awp_seq (awp_cond (b := true) (by simp [go_sem, hw1, hw2]) (fun h => ?_) (fun h => ?_))
 rotate_left
 ·cases h
 refine awp_skip ?_
 refine awp_seq (awp_block ?_)
 refine awp_seq (aR (by simp [go_sem, hw1, hw2] <;> rfl) ?_)
 refine awp_seq (awp_reg ?_)
 refine aL 1 (by simp [go_sem, hw1, hw2] <;> rfl) ?_
 refine aF call21 ((c_mCheck a (by omega)) _ (by exact hgl)) (by simp [go_sem, hw1, hw2] <;> rfl) (by simp [go_sem, hw1, hw2]) ?_
 refine aL 1 (by simp [go_sem, hw1, hw2] <;> rfl) ?_
 refine al_nil ?_
 refine awp_seq (aR (by simp [go_sem, hw1, hw2] <;> rfl) ?_)
 refine awp_cond (by first | rfl | (simp [go_sem, hw1, hw2] <;> rfl)) (fun h0 => ?_) (fun h0 => ?_)
 ·refine awp_seq ?_
  refine aR (by simp [go_sem, hw1, hw2] <;> rfl) ?_
  refine awp_ret ?_
  refine inBlock_ret ?_
  refine then_ret ?_
  refine then_ret ?_
  refine inBlock_ret ?_
  refine then_ret ?_
  refine ends_ret (by simp [go_sem, hw1, hw2] <;> rfl) (by simp [go_sem]) ?_
  exact ⟨by simp only [msame, hw1, hw2, h0, bA, bB, bC, bD, bE, bF, bG, bH, bI, bJ, Bool.false_eq_true, if_true, if_false]; simp [go_sem], by simp [go_sem]⟩
 ·refine awp_skip ?_
  refine aR (by simp [go_sem, hw1, hw2] <;> rfl) ?_
  refine awpL_round ?_
  refine awp_seq (aR (by simp [go_sem, hw1, hw2] <;> rfl) ?_)
  refine awp_seq (awp_cond (b := true) (by simp [go_sem, hw1, hw2, h0]) (fun h => ?_) (fun h => ?_))
  rotate_left
  ·cases h
  refine awp_skip ?_
  refine awp_seq (awp_block ?_)
  refine awp_seq (aR (by simp [go_sem, hw1, hw2] <;> rfl) ?_)
  refine awp_seq (awp_reg ?_)
  refine aL 1 (by simp [go_sem, hw1, hw2] <;> rfl) ?_
  refine aF call21 ((c_mCheck b (by omega)) _ (by exact hgl)) (by simp [go_sem, hw1, hw2] <;> rfl) (by simp [go_sem, hw1, hw2]) ?_
  refine aL 1 (by simp [go_sem, hw1, hw2] <;> rfl) ?_
  refine al_nil ?_
  refine awp_seq (aR (by simp [go_sem, hw1, hw2] <;> rfl) ?_)
  refine awp_cond (by first | rfl | (simp [go_sem, hw1, hw2] <;> rfl)) (fun h1 => ?_) (fun h1 => ?_)
  ·refine awp_seq ?_
   refine aR (by simp [go_sem, hw1, hw2] <;> rfl) ?_
   refine awp_ret ?_
   refine inBlock_ret ?_
   refine then_ret ?_
   refine then_ret ?_
   refine inBlock_ret ?_
   refine then_ret ?_
   refine ends_ret (by simp [go_sem, hw1, hw2] <;> rfl) (by simp [go_sem]) ?_
   exact ⟨by simp only [msame, hw1, hw2, h0, h1, bA, bB, bC, bD, bE, bF, bG, bH, bI, bJ, Bool.false_eq_true, if_true, if_false]; simp [go_sem], by simp [go_sem]⟩
  ·refine awp_skip ?_
   refine aR (by simp [go_sem, hw1, hw2] <;> rfl) ?_
   refine awpL_round ?_
   refine awp_seq (aR (by simp [go_sem, hw1, hw2] <;> rfl) ?_)
   refine awp_seq (awp_cond (b := false) (by simp [go_sem, hw1, hw2, h0, h1]) (fun h => ?_) (fun h => ?_))
   ·cases h
   refine awp_exit ?_
   refine then_exit ?_
   refine then_exit ?_
   refine inBlock_hit ?_
   refine awp_seq (awp_reg ?_)
   refine aL 1 (by simp [go_sem, hw1, hw2] <;> rfl) ?_
   refine aF call36 ((c_mPlain a ha) _ (by exact hgl)) (by simp [go_sem, hw1, hw2] <;> rfl) (by simp [go_sem, hw1, hw2]) ?_
   refine aL 6 (by simp [go_sem, hw1, hw2] <;> rfl) ?_
   refine al_nil ?_
   refine awp_seq (awp_seq (aR (by simp [go_sem, hw1, hw2] <;> rfl) ?_))
   refine awp_cond (by first | rfl | (simp [go_sem, hw1, hw2] <;> rfl)) (fun h2 => ?_) (fun h2 => ?_)
   ·refine awp_seq ?_
    refine aR (by simp [go_sem, hw1, hw2] <;> rfl) ?_
    refine awp_ret ?_
    refine then_ret ?_
    refine ends_ret (by simp [go_sem, hw1, hw2] <;> rfl) (by simp [go_sem]) ?_
    exact ⟨by simp only [msame, hw1, hw2, h0, h1, h2, bA, bB, bC, bD, bE, bF, bG, bH, bI, bJ, Bool.false_eq_true, if_true, if_false]; simp [go_sem], by simp [go_sem]⟩
   ·refine awp_skip ?_
    refine awp_seq (awp_reg ?_)
    refine aL 1 (by simp [go_sem, hw1, hw2] <;> rfl) ?_
    refine aF call36 ((c_mPlain b hb) _ (by exact hgl)) (by simp [go_sem, hw1, hw2] <;> rfl) (by simp [go_sem, hw1, hw2]) ?_
    refine aL 6 (by simp [go_sem, hw1, hw2] <;> rfl) ?_
    refine al_nil ?_
    refine awp_seq (awp_reg ?_)
    refine aL 3 (by simp [go_sem, hw1, hw2] <;> rfl) ?_
    refine al_splitT 39 (by first | rfl | (simp [go_sem, hw1, hw2] <;> rfl)) (fun h3 => ?_) (fun h3 => ?_)
    ·refine aLG 2 39 true (by simp [go_sem, hw1, hw2] <;> rfl) ?_
     refine al_fnG 39 true true (by simp [go_sem]) rfl (by simp [go_sem]) rfl rfl (by simp [go_sem, hw1, hw2] <;> rfl) call84 ((c_datum_Equal (mplain a).1 (mplain_size (by omega)) (mplain b).1) _ (by exact hgl)) (by simp [go_sem, hw1, hw2] <;> rfl) (by simp [go_sem, hw1, hw2]) rfl rfl ?_
     refine aL 4 (by simp [go_sem, hw1, hw2] <;> rfl) ?_
     refine al_nil ?_
     refine awp_ret ?_
     refine ends_ret (by simp [go_sem, hw1, hw2] <;> rfl) (by simp [go_sem]) ?_
     exact ⟨by simp only [msame, hw1, hw2, h0, h1, h2, h3, bA, bB, bC, bD, bE, bF, bG, bH, bI, bJ, Bool.false_eq_true, if_true, if_false]; simp [go_sem], by simp [go_sem]⟩
    ·refine aK 3 39 true ?_
     refine aL 4 (by simp [go_sem, hw1, hw2] <;> rfl) ?_
     refine al_nil ?_
     refine awp_ret ?_
     refine ends_ret (by simp [go_sem, hw1, hw2] <;> rfl) (by simp [go_sem]) ?_
     exact ⟨by simp only [msame, hw1, hw2, h0, h1, h2, h3, bA, bB, bC, bD, bE, bF, bG, bH, bI, bJ, Bool.false_eq_true, if_true, if_false]; simp [go_sem], by simp [go_sem]⟩

set_option maxHeartbeats 1000000 in
theorem c_Lifted_1 (d : D) (hd : okF d) : Pur Tryz.prog (GL kr) 57 [.pv (enc d)] (.pv (enc (liftF d))) := by
 refine pur_of fun σ hgl => ?_
 refine acalls_of tyOk Tryz.func57 rfl (by simp [Tryz.f57]) ?_
 refine awp_seq (aR (by simp [go_sem] <;> rfl) ?_)
 refine awp_seq (awp_seq (awp_reg ?_))
 refine aL 4 (by simp [go_sem] <;> rfl) ?_
 refine al_splitT 6 (by first | rfl | (simp [go_sem] <;> rfl)) (fun h0 => ?_) (fun h0 => ?_)
 ·refine aK 2 6 false ?_
  refine aL 2 (by simp [go_sem] <;> rfl) ?_
  refine aK 2 10 false ?_
  refine aL 1 (by simp [go_sem] <;> rfl) ?_
  refine al_nil ?_
  refine awp_cond (b := true) (by simp [go_sem, h0]) (fun h => ?_) (fun h => ?_)
  rotate_left
  ·cases h
  refine awp_seq (awp_regDC tyOk tySz 2 (by kernel_rfl) (by decide) ?_)
  refine ul_fn (by first | (intro _ _ hh; exact hh) | simp [go_sem]) rfl rfl rfl rfl (by simp [go_sem] <;> rfl) call60 ((c_flat_Sym sLift) _ (by exact hgl)) (by simp [go_sem] <;> rfl) (by simp [go_sem, eLift]) rfl rfl ?_
  refine ul_run 1 (by simp [go_sem] <;> rfl) ?_
  refine ul_nil ?_
  refine aL 1 (by simp [go_sem] <;> rfl) ?_
  refine aF call59 ((c_flat_List [dsym sLift, d]) _ (by exact hgl)) (by simp [go_sem] <;> rfl) (by simp [go_sem]) ?_
  refine aL 1 (by simp [go_sem] <;> rfl) ?_
  refine al_nil ?_
  refine awp_ret ?_
  refine then_ret ?_
  refine ends_ret (by simp [go_sem] <;> rfl) (by simp [go_sem]) ?_
  exact ⟨by simp only [liftF, h0, bA, bB, bC, bD, bE, bF, bG, bH, bI, bJ, Bool.false_eq_true, if_true, if_false]; simp [go_sem], by simp [go_sem]⟩
 ·refine aLG 1 6 false (by simp [go_sem] <;> rfl) ?_
  refine al_fnG 6 false false (by simp [go_sem]) rfl (by simp [go_sem]) rfl rfl (by simp [go_sem] <;> rfl) call58 ((c_Is d sQuote (fun h => (hd.1 h).1)) _ (by exact hgl)) (by simp [go_sem] <;> rfl) (by simp [go_sem, eQuote]) rfl rfl ?_
  refine aL 2 (by simp [go_sem] <;> rfl) ?_
  refine al_splitT 10 (by first | rfl | (simp [go_sem] <;> rfl)) (fun h1 => ?_) (fun h1 => ?_)
  ·refine aK 2 10 false ?_
   refine aL 1 (by simp [go_sem] <;> rfl) ?_
   refine al_nil ?_
   refine awp_cond (b := true) (by simp [go_sem, h0, h1]) (fun h => ?_) (fun h => ?_)
   rotate_left
   ·cases h
   refine awp_seq (awp_regDC tyOk tySz 2 (by kernel_rfl) (by decide) ?_)
   refine ul_fn (by first | (intro _ _ hh; exact hh) | simp [go_sem]) rfl rfl rfl rfl (by simp [go_sem] <;> rfl) call60 ((c_flat_Sym sLift) _ (by exact hgl)) (by simp [go_sem] <;> rfl) (by simp [go_sem, eLift]) rfl rfl ?_
   refine ul_run 1 (by simp [go_sem] <;> rfl) ?_
   refine ul_nil ?_
   refine aL 1 (by simp [go_sem] <;> rfl) ?_
   refine aF call59 ((c_flat_List [dsym sLift, d]) _ (by exact hgl)) (by simp [go_sem] <;> rfl) (by simp [go_sem]) ?_
   refine aL 1 (by simp [go_sem] <;> rfl) ?_
   refine al_nil ?_
   refine awp_ret ?_
   refine then_ret ?_
   refine ends_ret (by simp [go_sem] <;> rfl) (by simp [go_sem]) ?_
   exact ⟨by simp only [liftF, h0, h1, bA, bB, bC, bD, bE, bF, bG, bH, bI, bJ, Bool.false_eq_true, if_true, if_false]; simp [go_sem], by simp [go_sem]⟩
  ·refine aLG 1 10 false (by simp [go_sem] <;> rfl) ?_
   refine al_fnG 10 false false (by simp [go_sem]) rfl (by simp [go_sem]) rfl rfl (by simp [go_sem] <;> rfl) call58 ((c_Is d sFn (fun h => (hd.1 h).1)) _ (by exact hgl)) (by simp [go_sem] <;> rfl) (by simp [go_sem, eFn]) rfl rfl ?_
   refine aL 1 (by simp [go_sem] <;> rfl) ?_
   refine al_nil ?_
   refine awp_cond (by first | rfl | (simp [go_sem] <;> rfl)) (fun h2 => ?_) (fun h2 => ?_)
   ·refine awp_seq ?_
    refine awp_regDC tyOk tySz 2 (by kernel_rfl) (by decide) ?_
    refine ul_fn (by first | (intro _ _ hh; exact hh) | simp [go_sem]) rfl rfl rfl rfl (by simp [go_sem] <;> rfl) call60 ((c_flat_Sym sLift) _ (by exact hgl)) (by simp [go_sem] <;> rfl) (by simp [go_sem, eLift]) rfl rfl ?_
    refine ul_run 1 (by simp [go_sem] <;> rfl) ?_
    refine ul_nil ?_
    refine aL 1 (by simp [go_sem] <;> rfl) ?_
    refine aF call59 ((c_flat_List [dsym sLift, d]) _ (by exact hgl)) (by simp [go_sem] <;> rfl) (by simp [go_sem]) ?_
    refine aL 1 (by simp [go_sem] <;> rfl) ?_
    refine al_nil ?_
    refine awp_ret ?_
    refine then_ret ?_
    refine ends_ret (by simp [go_sem] <;> rfl) (by simp [go_sem]) ?_
    exact ⟨by simp only [liftF, h0, h1, h2, bA, bB, bC, bD, bE, bF, bG, bH, bI, bJ, Bool.false_eq_true, if_true, if_false]; simp [go_sem], by simp [go_sem]⟩
   ·refine awp_skip ?_
    refine awp_seq (aR (by simp [go_sem] <;> rfl) ?_)
    refine awp_ret ?_
    refine ends_ret (by simp [go_sem] <;> rfl) (by simp [go_sem]) ?_
    exact ⟨by simp only [liftF, h0, h1, h2, bA, bB, bC, bD, bE, bF, bG, bH, bI, bJ, Bool.false_eq_true, if_true, if_false]; simp [go_sem], by simp [go_sem]⟩

set_option maxHeartbeats 1000000 in
theorem c_mLifted (d : D) (hd : d.size ≤ 100000000) : Pur Tryz.prog (GL kr) 16 [.pv (enc d)] (.tuple [.pv (enc (mlifted d).1), .pv (.int .i64 (mlifted d).2)]) := by
 refine pur_of fun σ hgl => ?_
 refine acalls_of tyOk Tryz.func16 rfl (by simp [Tryz.f16]) ?_
 refine awp_seq (aR (by simp [go_sem] <;> rfl) ?_)
 refine awp_seq (awp_seq (awp_reg ?_))
 refine aL 1 (by simp [go_sem] <;> rfl) ?_
 refine aF call21 ((c_mCheck d (by omega)) _ (by exact hgl)) (by simp [go_sem] <;> rfl) (by simp [go_sem]) ?_
 refine aL 1 (by simp [go_sem] <;> rfl) ?_
 refine al_nil ?_
 refine awp_seq (aR (by simp [go_sem] <;> rfl) ?_)
 refine awp_cond (by first | rfl | (simp [go_sem] <;> rfl)) (fun h0 => ?_) (fun h0 => ?_)
 ·refine awp_seq ?_
  refine aR (by simp [go_sem] <;> rfl) ?_
  refine awp_ret ?_
  refine then_ret ?_
  have hM : mlifted d = (dnone, mcheck d) := by unfold mlifted; rw [if_pos h0]
  refine ends_ret (by simp [go_sem] <;> rfl) (by simp [go_sem]) ?_
  exact ⟨by simp [go_sem, hM, enc_none], by simp [go_sem, setS_new]⟩
 ·have hz : mcheck d = 0 := by simpa using h0
  have hg := mcheck_good hz
  refine awp_skip ?_
  refine awp_seq (awp_seq (awp_reg ?_))
  refine aL 1 (by simp [go_sem] <;> rfl) ?_
  refine aF call54 ((c_one d hg (by omega)) _ (by exact hgl)) (by simp [go_sem] <;> rfl) (by simp [go_sem]) ?_
  refine aL 1 (by simp [go_sem] <;> rfl) ?_
  refine al_nil ?_
  refine awp_cond (by first | rfl | (simp [go_sem] <;> rfl)) (fun h1 => ?_) (fun h1 => ?_)
  ·refine awp_seq ?_
   refine aR (by simp [go_sem] <;> rfl) ?_
   refine awp_ret ?_
   refine then_ret ?_
   have hM : mlifted d = (dnone, 13) := by unfold mlifted; rw [if_neg (by rw [h0]; decide), if_pos h1]
   refine ends_ret (by simp [go_sem] <;> rfl) (by simp [go_sem]) ?_
   exact ⟨by simp [go_sem, hM, enc_none], by simp [go_sem, setS_new]⟩
  ·refine awp_skip ?_
   refine awp_seq (awp_reg ?_)
   refine aL 1 (by simp [go_sem] <;> rfl) ?_
   refine aF call56 (c_mapped d hg (by omega) 57 call57 liftF σ hgl (fun x τ hτ hx => c_Lifted_1 x hx τ hτ)) (by simp [go_sem] <;> rfl) (by simp [go_sem]) ?_
   refine aF call55 ((c_flat_Own (mmap liftF d) (by have := mlifted_size hg; omega)) _ (by exact hgl)) (by simp [go_sem] <;> rfl) (by simp [go_sem]) ?_
   refine aL 2 (by simp [go_sem] <;> rfl) ?_
   refine al_nil ?_
   refine awp_seq (awp_seq (awp_reg ?_))
   refine aL 1 (by simp [go_sem] <;> rfl) ?_
   refine aF call61 ((c_datum_Check (mmap liftF d) (by have := mlifted_size hg; omega)) _ (by exact hgl)) (by simp [go_sem] <;> rfl) (by simp [go_sem]) ?_
   refine aL 1 (by simp [go_sem] <;> rfl) ?_
   refine al_nil ?_
   refine awp_cond (by first | rfl | (simp [go_sem] <;> rfl)) (fun h2 => ?_) (fun h2 => ?_)
   ·refine awp_seq ?_
    refine aR (by simp [go_sem] <;> rfl) ?_
    refine awp_ret ?_
    refine then_ret ?_
    have hM : mlifted d = (dnone, 3) := by unfold mlifted; rw [if_neg (by rw [h0]; decide), if_neg (by rw [h1]; decide), if_pos h2]
    refine ends_ret (by simp [go_sem] <;> rfl) (by simp [go_sem]) ?_
    exact ⟨by simp [go_sem, hM, enc_none], by simp [go_sem, setS_new]⟩
   ·refine awp_skip ?_
    refine awp_seq (aR (by simp [go_sem] <;> rfl) ?_)
    refine awp_ret ?_
    have hM : mlifted d = (mmap liftF d, 0) := by unfold mlifted; rw [if_neg (by rw [h0]; decide), if_neg (by rw [h1]; decide), if_neg (by rw [h2]; decide)]
    refine ends_ret (by simp [go_sem] <;> rfl) (by simp [go_sem]) ?_
    exact ⟨by simp [go_sem, hM, enc_none], by simp [go_sem, setS_new]⟩

end Go.Proofs.YtmpofjiokpeegaaGreatDoor

/- The specification: data, names, primitives. -/
namespace Go.Proofs.YtmpofjiokpeegaaGreatDoor
open Go Go.Aw
variable {kr : KR}
set_option maxHeartbeats 1000000 in
theorem c_words  : Pur Tryz.prog (GL kr) 222 [] (.pv (.slice (words7.map .str))) := by
 refine pur_of fun σ hgl => ?_
 refine acalls_of tyOk Tryz.func222 rfl (by simp [Tryz.f222]) ?_
 refine awp_seq (aR (by simp [go_sem] <;> rfl) ?_)
 refine awp_seq (aR (by simp [go_sem] <;> rfl) ?_)
 refine awp_ret ?_
 refine ends_ret (by simp [go_sem] <;> rfl) (by simp [go_sem]) ?_
 exact ⟨by simp [go_sem, words7], by simp [go_sem]⟩

set_option maxHeartbeats 1000000 in
theorem c_Reserved (s : ByteArray) : Pur Tryz.prog (GL kr) 211 [.pv (.str s)] (.pv (.int .i64 (reserved s))) := by
 have h7 : words7.length = 7 := rfl
 refine pur_of fun σ hgl => ?_
 refine acalls_of tyOk Tryz.func211 rfl (by simp [Tryz.f211]) ?_
 refine awp_seq (aR (by simp [go_sem] <;> rfl) ?_)
 refine awp_seq (awp_reg ?_)
 refine aF call222 ((c_words) _ (by exact hgl)) (by simp [go_sem] <;> rfl) (by simp [go_sem]) ?_
 refine aL 1 (by simp [go_sem] <;> rfl) ?_
 refine al_nil ?_
 refine awp_seq (awp_seq (aR (by simp [go_sem] <;> rfl) ?_))
 refine awp_block ?_
 refine awp_loop_headK σ.objs.length σ.toks.length 0 [0, 2, 3] (fun k : Nat => [(4, .pv (.int .i64 ↑k))]) (fun k => σ) (fun k => k ≤ words7.length ∧ NotYet (fun w => decide (w = s)) words7 k) (fun k => words7.length - k) 0 (⟨Nat.zero_le _, .zero⟩) ⟨by simp [go_sem], rfl, by simp, by simp, by simp [go_sem], fun ob h => .inl (by simpa [go_sem] using h), by simp [go_sem]⟩ ?_
 rintro k ⟨hk, hn⟩
 refine awp_seq (awp_seq (aR (by simp [go_sem] <;> rfl) ?_))
 refine awp_cond (by first | rfl | (simp [go_sem] <;> rfl)) (fun h0 => ?_) (fun h0 => ?_)
 ·have hlt : k < words7.length := by simp at h0; omega
  have hw : IntKind.i64.wrap (↑k + 1) = (k : Int) + 1 := wrap_succ (by omega)
  obtain ⟨x, hx, hxm⟩ := get_lt hlt
  have hw3 : IntKind.i64.wrap (3 + (k : Int)) = 3 + k := wrap_id (by omega) (by omega)
  refine awp_skip ?_
  refine awp_seq (awp_block ?_)
  refine awp_seq (aR (by simp [go_sem, hx, hw3] <;> rfl) ?_)
  refine awp_cond (by first | rfl | (simp [go_sem, hx, hw3] <;> rfl)) (fun h1 => ?_) (fun h1 => ?_)
  ·refine awp_seq ?_
   refine aR (by simp [go_sem, hx, hw3] <;> rfl) ?_
   refine awp_ret ?_
   refine inBlock_ret ?_
   refine then_ret ?_
   refine then_ret ?_
   refine inBlock_ret ?_
   refine then_ret ?_
   refine ends_ret (by simp [go_sem] <;> rfl) (by simp [go_sem]) ?_
   have hs : reserved s = 3 + (k : Int) := by have e : resI s = k := idxOf_found hn hx h1; unfold reserved; rw [e, if_neg (by omega)]
   exact ⟨by simp [go_sem, hs], by simp [go_sem]⟩
  ·refine awp_skip ?_
   refine aR (by simp [go_sem, hx, hw3] <;> rfl) ?_
   exact next_intro (k + 1) σ.objs.length σ.toks.length 0 (⟨hlt, hn.succ hx h1⟩) (by omega) ⟨by simp [go_sem, hx, hw3, hw], rfl, by simp, by simp, by simp [go_sem, hx, hw3, hw], fun ob h => .inl (by simpa [go_sem, hx, hw3, hw] using h), by simp [go_sem]⟩
 ·have hke : k = words7.length := by simp at h0; omega
  subst hke
  refine awp_exit ?_
  refine then_exit ?_
  refine then_exit ?_
  refine inBlock_hit ?_
  refine awp_seq (aR (by simp [go_sem] <;> rfl) ?_)
  refine awp_ret ?_
  refine ends_ret (by simp [go_sem] <;> rfl) (by simp [go_sem]) ?_
  have hs : reserved s = 0 := by have e : resI s = -1 := idxOf_none hn; unfold reserved; rw [e]; rfl
  exact ⟨by simp [go_sem, hs], by simp [go_sem]⟩

set_option maxHeartbeats 1000000 in
theorem c_Name04 (s : ByteArray) : Pur Tryz.prog (GL kr) 187 [.pv (.str s)] (.pv (.bool (name04 s))) := by
 refine pur_of fun σ hgl => ?_
 refine acalls_of tyOk Tryz.func187 rfl (by simp [Tryz.f187]) ?_
 refine awp_seq (aR (by simp [go_sem] <;> rfl) ?_)
 refine awp_seq (awp_reg ?_)
 refine aL 1 (by simp [go_sem] <;> rfl) ?_
 refine aF call139 ((c_pagodaref01_Symbol s) _ (by exact hgl)) (by simp [go_sem] <;> rfl) (by simp [go_sem]) ?_
 refine aL 1 (by simp [go_sem] <;> rfl) ?_
 refine al_splitT 5 (by first | rfl | (simp [go_sem] <;> rfl)) (fun h0 => ?_) (fun h0 => ?_)
 ·refine aLG 1 5 true (by simp [go_sem] <;> rfl) ?_
  refine al_fnG 5 true true (by simp [go_sem]) rfl (by simp [go_sem]) rfl rfl (by simp [go_sem] <;> rfl) call211 ((c_Reserved s) _ (by exact hgl)) (by simp [go_sem] <;> rfl) (by simp [go_sem]) rfl rfl ?_
  refine aLG 1 5 true (by simp [go_sem] <;> rfl) ?_
  refine aL 2 (by simp [go_sem] <;> rfl) ?_
  refine al_nil ?_
  refine awp_ret ?_
  refine ends_ret (by simp [go_sem] <;> rfl) (by simp [go_sem]) ?_
  exact ⟨by simp only [name04, h0, bA, bB, bC, bD, bE, bF, bG, bH, bI, bJ, Bool.false_eq_true, if_true, if_false]; simp [go_sem], by simp [go_sem]⟩
 ·refine aK 3 5 true ?_
  refine aL 2 (by simp [go_sem] <;> rfl) ?_
  refine al_nil ?_
  refine awp_ret ?_
  refine ends_ret (by simp [go_sem] <;> rfl) (by simp [go_sem]) ?_
  exact ⟨by simp only [name04, h0, bA, bB, bC, bD, bE, bF, bG, bH, bI, bJ, Bool.false_eq_true, if_true, if_false]; simp [go_sem], by simp [go_sem]⟩

set_option maxHeartbeats 1000000 in
theorem c_Arity07 (s : ByteArray) : Pur Tryz.prog (GL kr) 101 [.pv (.str s)] (.tuple [.pv (.int .i64 (arity s).1), .pv (.bool (arity s).2)]) := by
 rw [← arityR_eq]
 refine pur_of fun σ hgl => ?_
 refine acalls_of tyOk Tryz.func101 rfl (by simp [Tryz.f101]) ?_
 refine awp_seq (aR (by simp [go_sem] <;> rfl) ?_)
 refine awp_seq (awp_seq (aR (by simp [go_sem] <;> rfl) ?_))
 refine awp_block ?_
 refine awp_seq (awp_seq (aR (by simp [go_sem] <;> rfl) ?_))
 refine awp_cond (by first | rfl | (simp [go_sem] <;> rfl)) (fun h0 => ?_) (fun h0 => ?_)
 ·refine awp_skip ?_
  refine awp_cond (b := true) (by simp [go_sem, h0]) (fun h => ?_) (fun h => ?_)
  rotate_left
  ·cases h
  refine awp_seq (aR (by simp [go_sem] <;> rfl) ?_)
  refine awp_ret ?_
  refine inBlock_ret ?_
  refine then_ret ?_
  refine ends_ret (by simp [go_sem] <;> rfl) (by simp [go_sem]) ?_
  exact ⟨by simp only [arityR, ar2, ar1, List.any_cons, List.any_nil, h0, bA, bB, bC, bD, bE, bF, bG, bH, bI, bJ, Bool.false_eq_true, if_true, if_false]; simp [go_sem], by simp [go_sem]⟩
 ·refine awp_seq ?_
  refine aR (by simp [go_sem] <;> rfl) ?_
  refine awp_cond (by first | rfl | (simp [go_sem] <;> rfl)) (fun h1 => ?_) (fun h1 => ?_)
  ·refine awp_skip ?_
   refine awp_cond (b := true) (by simp [go_sem, h0, h1]) (fun h => ?_) (fun h => ?_)
   rotate_left
   ·cases h
   refine awp_seq (aR (by simp [go_sem] <;> rfl) ?_)
   refine awp_ret ?_
   refine inBlock_ret ?_
   refine then_ret ?_
   refine ends_ret (by simp [go_sem] <;> rfl) (by simp [go_sem]) ?_
   exact ⟨by simp only [arityR, ar2, ar1, List.any_cons, List.any_nil, h0, h1, bA, bB, bC, bD, bE, bF, bG, bH, bI, bJ, Bool.false_eq_true, if_true, if_false]; simp [go_sem], by simp [go_sem]⟩
  ·refine awp_seq ?_
   refine aR (by simp [go_sem] <;> rfl) ?_
   refine awp_cond (by first | rfl | (simp [go_sem] <;> rfl)) (fun h2 => ?_) (fun h2 => ?_)
   ·refine awp_skip ?_
    refine awp_cond (b := true) (by simp [go_sem, h0, h1, h2]) (fun h => ?_) (fun h => ?_)
    rotate_left
    ·cases h
    refine awp_seq (aR (by simp [go_sem] <;> rfl) ?_)
    refine awp_ret ?_
    refine inBlock_ret ?_
    refine then_ret ?_
    refine ends_ret (by simp [go_sem] <;> rfl) (by simp [go_sem]) ?_
    exact ⟨by simp only [arityR, ar2, ar1, List.any_cons, List.any_nil, h0, h1, h2, bA, bB, bC, bD, bE, bF, bG, bH, bI, bJ, Bool.false_eq_true, if_true, if_false]; simp [go_sem], by simp [go_sem]⟩
   ·refine awp_seq ?_
    refine aR (by simp [go_sem] <;> rfl) ?_
    refine awp_cond (by first | rfl | (simp [go_sem] <;> rfl)) (fun h3 => ?_) (fun h3 => ?_)
    ·refine awp_skip ?_
     refine awp_cond (b := true) (by simp [go_sem, h0, h1, h2, h3]) (fun h => ?_) (fun h => ?_)
     rotate_left
     ·cases h
     refine awp_seq (aR (by simp [go_sem] <;> rfl) ?_)
     refine awp_ret ?_
     refine inBlock_ret ?_
     refine then_ret ?_
     refine ends_ret (by simp [go_sem] <;> rfl) (by simp [go_sem]) ?_
     exact ⟨by simp only [arityR, ar2, ar1, List.any_cons, List.any_nil, h0, h1, h2, h3, bA, bB, bC, bD, bE, bF, bG, bH, bI, bJ, Bool.false_eq_true, if_true, if_false]; simp [go_sem], by simp [go_sem]⟩
    ·refine awp_seq ?_
     refine aR (by simp [go_sem] <;> rfl) ?_
     refine awp_cond (by first | rfl | (simp [go_sem] <;> rfl)) (fun h4 => ?_) (fun h4 => ?_)
     ·refine awp_skip ?_
      refine awp_cond (b := true) (by simp [go_sem, h0, h1, h2, h3, h4]) (fun h => ?_) (fun h => ?_)
      rotate_left
      ·cases h
      refine awp_seq (aR (by simp [go_sem] <;> rfl) ?_)
      refine awp_ret ?_
      refine inBlock_ret ?_
      refine then_ret ?_
      refine ends_ret (by simp [go_sem] <;> rfl) (by simp [go_sem]) ?_
      exact ⟨by simp only [arityR, ar2, ar1, List.any_cons, List.any_nil, h0, h1, h2, h3, h4, bA, bB, bC, bD, bE, bF, bG, bH, bI, bJ, Bool.false_eq_true, if_true, if_false]; simp [go_sem], by simp [go_sem]⟩
     ·refine awp_seq ?_
      refine aR (by simp [go_sem] <;> rfl) ?_
      refine awp_cond (by first | rfl | (simp [go_sem] <;> rfl)) (fun h5 => ?_) (fun h5 => ?_)
      ·refine awp_skip ?_
       refine awp_cond (b := true) (by simp [go_sem, h0, h1, h2, h3, h4, h5]) (fun h => ?_) (fun h => ?_)
       rotate_left
       ·cases h
       refine awp_seq (aR (by simp [go_sem] <;> rfl) ?_)
       refine awp_ret ?_
       refine inBlock_ret ?_
       refine then_ret ?_
       refine ends_ret (by simp [go_sem] <;> rfl) (by simp [go_sem]) ?_
       exact ⟨by simp only [arityR, ar2, ar1, List.any_cons, List.any_nil, h0, h1, h2, h3, h4, h5, bA, bB, bC, bD, bE, bF, bG, bH, bI, bJ, Bool.false_eq_true, if_true, if_false]; simp [go_sem], by simp [go_sem]⟩
      ·refine awp_seq ?_
       refine aR (by simp [go_sem] <;> rfl) ?_
       refine awp_cond (by first | rfl | (simp [go_sem] <;> rfl)) (fun h6 => ?_) (fun h6 => ?_)
       ·refine awp_skip ?_
        refine awp_cond (b := true) (by simp [go_sem, h0, h1, h2, h3, h4, h5, h6]) (fun h => ?_) (fun h => ?_)
        rotate_left
        ·cases h
        refine awp_seq (aR (by simp [go_sem] <;> rfl) ?_)
        refine awp_ret ?_
        refine inBlock_ret ?_
        refine then_ret ?_
        refine ends_ret (by simp [go_sem] <;> rfl) (by simp [go_sem]) ?_
        exact ⟨by simp only [arityR, ar2, ar1, List.any_cons, List.any_nil, h0, h1, h2, h3, h4, h5, h6, bA, bB, bC, bD, bE, bF, bG, bH, bI, bJ, Bool.false_eq_true, if_true, if_false]; simp [go_sem], by simp [go_sem]⟩
       ·refine awp_seq ?_
        refine aR (by simp [go_sem] <;> rfl) ?_
        refine awp_cond (by first | rfl | (simp [go_sem] <;> rfl)) (fun h7 => ?_) (fun h7 => ?_)
        ·refine awp_skip ?_
         refine awp_cond (b := true) (by simp [go_sem, h0, h1, h2, h3, h4, h5, h6, h7]) (fun h => ?_) (fun h => ?_)
         rotate_left
         ·cases h
         refine awp_seq (aR (by simp [go_sem] <;> rfl) ?_)
         refine awp_ret ?_
         refine inBlock_ret ?_
         refine then_ret ?_
         refine ends_ret (by simp [go_sem] <;> rfl) (by simp [go_sem]) ?_
         exact ⟨by simp only [arityR, ar2, ar1, List.any_cons, List.any_nil, h0, h1, h2, h3, h4, h5, h6, h7, bA, bB, bC, bD, bE, bF, bG, bH, bI, bJ, Bool.false_eq_true, if_true, if_false]; simp [go_sem], by simp [go_sem]⟩
        ·refine aR (by simp [go_sem] <;> rfl) ?_
         refine awp_cond (by first | rfl | (simp [go_sem] <;> rfl)) (fun h8 => ?_) (fun h8 => ?_)
         ·refine awp_seq ?_
          refine aR (by simp [go_sem] <;> rfl) ?_
          refine awp_ret ?_
          refine inBlock_ret ?_
          refine then_ret ?_
          refine ends_ret (by simp [go_sem] <;> rfl) (by simp [go_sem]) ?_
          exact ⟨by simp only [arityR, ar2, ar1, List.any_cons, List.any_nil, h0, h1, h2, h3, h4, h5, h6, h7, h8, bA, bB, bC, bD, bE, bF, bG, bH, bI, bJ, Bool.false_eq_true, if_true, if_false]; simp [go_sem], by simp [go_sem]⟩
         ·refine awp_seq ?_
          refine awp_seq (aR (by simp [go_sem] <;> rfl) ?_)
          refine awp_cond (by first | rfl | (simp [go_sem] <;> rfl)) (fun h9 => ?_) (fun h9 => ?_)
          ·refine awp_skip ?_
           refine awp_cond (b := true) (by simp [go_sem, h0, h1, h2, h3, h4, h5, h6, h7, h8, h9]) (fun h => ?_) (fun h => ?_)
           rotate_left
           ·cases h
           refine awp_seq (aR (by simp [go_sem] <;> rfl) ?_)
           refine awp_ret ?_
           refine inBlock_ret ?_
           refine then_ret ?_
           refine ends_ret (by simp [go_sem] <;> rfl) (by simp [go_sem]) ?_
           exact ⟨by simp only [arityR, ar2, ar1, List.any_cons, List.any_nil, h0, h1, h2, h3, h4, h5, h6, h7, h8, h9, bA, bB, bC, bD, bE, bF, bG, bH, bI, bJ, Bool.false_eq_true, if_true, if_false]; simp [go_sem], by simp [go_sem]⟩
          ·refine awp_seq ?_
           refine aR (by simp [go_sem] <;> rfl) ?_
           refine awp_cond (by first | rfl | (simp [go_sem] <;> rfl)) (fun h10 => ?_) (fun h10 => ?_)
           ·refine awp_skip ?_
            refine awp_cond (b := true) (by simp [go_sem, h0, h1, h2, h3, h4, h5, h6, h7, h8, h9, h10]) (fun h => ?_) (fun h => ?_)
            rotate_left
            ·cases h
            refine awp_seq (aR (by simp [go_sem] <;> rfl) ?_)
            refine awp_ret ?_
            refine inBlock_ret ?_
            refine then_ret ?_
            refine ends_ret (by simp [go_sem] <;> rfl) (by simp [go_sem]) ?_
            exact ⟨by simp only [arityR, ar2, ar1, List.any_cons, List.any_nil, h0, h1, h2, h3, h4, h5, h6, h7, h8, h9, h10, bA, bB, bC, bD, bE, bF, bG, bH, bI, bJ, Bool.false_eq_true, if_true, if_false]; simp [go_sem], by simp [go_sem]⟩
           ·refine awp_seq ?_
            refine aR (by simp [go_sem] <;> rfl) ?_
            refine awp_cond (by first | rfl | (simp [go_sem] <;> rfl)) (fun h11 => ?_) (fun h11 => ?_)
            ·refine awp_skip ?_
             refine awp_cond (b := true) (by simp [go_sem, h0, h1, h2, h3, h4, h5, h6, h7, h8, h9, h10, h11]) (fun h => ?_) (fun h => ?_)
             rotate_left
             ·cases h
             refine awp_seq (aR (by simp [go_sem] <;> rfl) ?_)
             refine awp_ret ?_
             refine inBlock_ret ?_
             refine then_ret ?_
             refine ends_ret (by simp [go_sem] <;> rfl) (by simp [go_sem]) ?_
             exact ⟨by simp only [arityR, ar2, ar1, List.any_cons, List.any_nil, h0, h1, h2, h3, h4, h5, h6, h7, h8, h9, h10, h11, bA, bB, bC, bD, bE, bF, bG, bH, bI, bJ, Bool.false_eq_true, if_true, if_false]; simp [go_sem], by simp [go_sem]⟩
            ·refine awp_seq ?_
             refine aR (by simp [go_sem] <;> rfl) ?_
             refine awp_cond (by first | rfl | (simp [go_sem] <;> rfl)) (fun h12 => ?_) (fun h12 => ?_)
             ·refine awp_skip ?_
              refine awp_cond (b := true) (by simp [go_sem, h0, h1, h2, h3, h4, h5, h6, h7, h8, h9, h10, h11, h12]) (fun h => ?_) (fun h => ?_)
              rotate_left
              ·cases h
              refine awp_seq (aR (by simp [go_sem] <;> rfl) ?_)
              refine awp_ret ?_
              refine inBlock_ret ?_
              refine then_ret ?_
              refine ends_ret (by simp [go_sem] <;> rfl) (by simp [go_sem]) ?_
              exact ⟨by simp only [arityR, ar2, ar1, List.any_cons, List.any_nil, h0, h1, h2, h3, h4, h5, h6, h7, h8, h9, h10, h11, h12, bA, bB, bC, bD, bE, bF, bG, bH, bI, bJ, Bool.false_eq_true, if_true, if_false]; simp [go_sem], by simp [go_sem]⟩
             ·refine awp_seq ?_
              refine aR (by simp [go_sem] <;> rfl) ?_
              refine awp_cond (by first | rfl | (simp [go_sem] <;> rfl)) (fun h13 => ?_) (fun h13 => ?_)
              ·refine awp_skip ?_
               refine awp_cond (b := true) (by simp [go_sem, h0, h1, h2, h3, h4, h5, h6, h7, h8, h9, h10, h11, h12, h13]) (fun h => ?_) (fun h => ?_)
               rotate_left
               ·cases h
               refine awp_seq (aR (by simp [go_sem] <;> rfl) ?_)
               refine awp_ret ?_
               refine inBlock_ret ?_
               refine then_ret ?_
               refine ends_ret (by simp [go_sem] <;> rfl) (by simp [go_sem]) ?_
               exact ⟨by simp only [arityR, ar2, ar1, List.any_cons, List.any_nil, h0, h1, h2, h3, h4, h5, h6, h7, h8, h9, h10, h11, h12, h13, bA, bB, bC, bD, bE, bF, bG, bH, bI, bJ, Bool.false_eq_true, if_true, if_false]; simp [go_sem], by simp [go_sem]⟩
              ·refine awp_seq ?_
               refine aR (by simp [go_sem] <;> rfl) ?_
               refine awp_cond (by first | rfl | (simp [go_sem] <;> rfl)) (fun h14 => ?_) (fun h14 => ?_)
               ·refine awp_skip ?_
                refine awp_cond (b := true) (by simp [go_sem, h0, h1, h2, h3, h4, h5, h6, h7, h8, h9, h10, h11, h12, h13, h14]) (fun h => ?_) (fun h => ?_)
                rotate_left
                ·cases h
                refine awp_seq (aR (by simp [go_sem] <;> rfl) ?_)
                refine awp_ret ?_
                refine inBlock_ret ?_
                refine then_ret ?_
                refine ends_ret (by simp [go_sem] <;> rfl) (by simp [go_sem]) ?_
                exact ⟨by simp only [arityR, ar2, ar1, List.any_cons, List.any_nil, h0, h1, h2, h3, h4, h5, h6, h7, h8, h9, h10, h11, h12, h13, h14, bA, bB, bC, bD, bE, bF, bG, bH, bI, bJ, Bool.false_eq_true, if_true, if_false]; simp [go_sem], by simp [go_sem]⟩
               ·refine aR (by simp [go_sem] <;> rfl) ?_
                refine awp_cond (by first | rfl | (simp [go_sem] <;> rfl)) (fun h15 => ?_) (fun h15 => ?_)
                ·refine awp_seq ?_
                 refine aR (by simp [go_sem] <;> rfl) ?_
                 refine awp_ret ?_
                 refine inBlock_ret ?_
                 refine then_ret ?_
                 refine ends_ret (by simp [go_sem] <;> rfl) (by simp [go_sem]) ?_
                 exact ⟨by simp only [arityR, ar2, ar1, List.any_cons, List.any_nil, h0, h1, h2, h3, h4, h5, h6, h7, h8, h9, h10, h11, h12, h13, h14, h15, bA, bB, bC, bD, bE, bF, bG, bH, bI, bJ, Bool.false_eq_true, if_true, if_false]; simp [go_sem], by simp [go_sem]⟩
                ·refine awp_skip ?_
                 refine awp_seq (aR (by simp [go_sem] <;> rfl) ?_)
                 refine awp_ret ?_
                 refine ends_ret (by simp [go_sem] <;> rfl) (by simp [go_sem]) ?_
                 exact ⟨by simp only [arityR, ar2, ar1, List.any_cons, List.any_nil, h0, h1, h2, h3, h4, h5, h6, h7, h8, h9, h10, h11, h12, h13, h14, h15, bA, bB, bC, bD, bE, bF, bG, bH, bI, bJ, Bool.false_eq_true, if_true, if_false]; simp [go_sem], by simp [go_sem]⟩

set_option maxHeartbeats 1000000 in
theorem c_cut (d : D) : ∀ (oc lf : Nat) (dp : Int) (σ : Store), σ.gl = (GL kr) → σ.objs[oc]? = some (.box [.pv (.int .i64 lf)]) → 0 < lf → lf ≤ 3000 → 1 ≤ dp → dp ≤ 2000 → ACalls Tryz.prog 96 [.ptr oc 0, .pv (enc d), .pv (.int .i64 dp)] σ (CutR oc lf σ) := by
 induction d using D.ind with
 | _ kind num text kids ih =>
 generalize hD : D.mk kind num text kids = d at *
 have hk : d.kids = kids := by rw [← hD]; rfl
 clear hD
 subst hk
 intro oc lf dp σ hgl hoc hlf0 hlf hdp hdp2
 have hol := (List.getElem?_eq_some_iff.1 hoc).1
 obtain ⟨tx, htx⟩ : ∃ tx : ByteArray, tx = d.text.extract 0 (if (42 : Int) < d.text.size then (42 : Int) else d.text.size).toNat := ⟨_, rfl⟩
 have hm1 : (0 : Int) ≤ (if (42 : Int) < d.text.size then (42 : Int) else d.text.size) := by split <;> omega
 have hm2 : (if (42 : Int) < d.text.size then (42 : Int) else d.text.size) ≤ d.text.size := by split <;> omega
 have hw1 : IntKind.i64.wrap ((lf : Int) - 1) = ((lf - 1 : Nat) : Int) := by rw [wrap_id (by omega) (by omega)]; omega
 refine cut_less (k := d.kind) (n := d.num) (tx := tx) ?_
 refine acalls_of tyOk Tryz.func96 rfl (by simp [Tryz.f96]) ?_
 refine awp_seq (aR (by simp [go_sem, hoc, hm1, hm2, hw1] <;> rfl) ?_)
 refine awp_seq (aR (by simp [go_sem, hoc, hm1, hm2, hw1] <;> rfl) ?_)
 refine awp_seq (awp_regDP tyOk tySz 13 (by kernel_rfl) (by decide) ?_)
 refine ul_run 13 (by simp [go_sem, hoc, hm1, hm2, hw1] <;> rfl) ?_
 refine ul_nil ?_
 refine aL 1 (by simp [go_sem, hoc, hm1, hm2, hw1] <;> rfl) ?_
 refine al_nil ?_
 refine awp_seq (awp_seq (aR (by simp [go_sem, hoc, hm1, hm2, hw1] <;> rfl) ?_))
 refine awp_adoptL' 2 3 24 4 (by simp [go_sem] <;> rfl) ?_
 refine awp_block ?_
 refine awp_loop_headKL σ.objs.length (σ.toks.length + 1) 3 [0, 2, 4, 6, 7] (fun i : List D × Nat => [(8, .pv (.int .i64 ↑i.1.length))]) (fun i : List D × Nat => [[.pv (.int .i64 d.kind), .pv (.int .i64 d.num), .pv (.str d.text), .pv (.slice (d.kids.map enc))], [.pv (.int .i64 0), .pv (.int .i64 0), .pv (.str ⟨#[]⟩), .pv .nils], [.pv (.int .i64 d.kind), .pv (.int .i64 d.num), .pv (.str tx), .acc (i.1.map enc) σ.toks.length]]) (fun i => { setC σ oc (i.2 : Int) with toks := σ.toks ++ [⟨i.1.length, 24, 4⟩] }) (fun i => D.sizes i.1 + i.2 + 1 ≤ lf ∧ i.1.length ≤ d.kids.length) (fun i => d.kids.length - i.1.length) ([], lf - 1) (⟨by simp [D.sizes]; omega, Nat.zero_le _⟩) ⟨by show ({ setC σ oc _ with toks := _ } : Store) = _; simp [setC, go_sem, List.take_of_length_le], by simp [go_sem, hoc, hm1, hm2, hw1, htx, hol], by simp, by simp, by simp [go_sem, hoc, hm1, hm2, hw1, htx, hol], fun ob h => setC_mem h _ _ _, by simp [go_sem]⟩ ?_
 rintro i ⟨hsz, hil⟩
 have hgc := setC_get (v := (i.2 : Int)) hoc
 have hll := D.length_le_sizes i.1
 refine awp_seq (awp_seq (awp_reg ?_))
 refine aL 6 (by simp [go_sem, hoc, hm1, hm2, hw1, hgc] <;> rfl) ?_
 refine al_splitT 33 (by first | rfl | (simp [go_sem, hoc, hm1, hm2, hw1, hgc] <;> rfl)) (fun h0 => ?_) (fun h0 => ?_)
 ·refine aLG 2 33 true (by simp [go_sem, hoc, hm1, hm2, hw1, hgc] <;> rfl) ?_
  refine aL 2 (by simp [go_sem, hoc, hm1, hm2, hw1, hgc] <;> rfl) ?_
  refine al_splitT 37 (by first | rfl | (simp [go_sem, hoc, hm1, hm2, hw1, hgc] <;> rfl)) (fun h1 => ?_) (fun h1 => ?_)
  ·refine aLG 5 37 true (by simp [go_sem, hoc, hm1, hm2, hw1, hgc] <;> rfl) ?_
   refine aL 1 (by simp [go_sem, hoc, hm1, hm2, hw1, hgc] <;> rfl) ?_
   refine al_nil ?_
   refine awp_cond (by first | rfl | (simp [go_sem, hoc, hm1, hm2, hw1, hgc] <;> rfl)) (fun h2 => ?_) (fun h2 => ?_)
   ·have hlt : i.1.length < d.kids.length := by simpa using h0
    have hlv : 0 < i.2 := by have := h2; simp at this; omega
    have hd1 : (1 : Int) < dp := by have := h1; simp at this; omega
    obtain ⟨x, hx, hxm⟩ := get_lt hlt
    have hwd : IntKind.i64.wrap (dp - 1) = dp - 1 := wrap_id (by omega) (by omega)
    have hbb : (i.1.length + 1) * 56 ≤ 140737488355328 := by omega
    have hw : IntKind.i64.wrap ((i.1.length : Int) + 1) = (i.1.length : Int) + 1 := wrap_succ (by omega)
    refine awp_skip ?_
    refine awp_seq (awp_block ?_)
    refine awp_regDC tyOk tySz 12 (by kernel_rfl) (by decide) ?_
    refine ul_run 10 (by simp [go_sem, hoc, hm1, hm2, hw1, hgc, hx, hwd, hbb, setC_with, setC_toks] <;> rfl) ?_
    refine ul_callW (by simp [go_sem]) rfl rfl rfl rfl (by simp [go_sem, hoc, hm1, hm2, hw1, hgc, hx, hwd, hbb, setC_with, setC_toks] <;> rfl) call96 (ih x hxm oc i.2 (dp - 1) _ (by exact hgl) (setC_get hoc) hlv (by omega) (by omega) (by omega)) (by simp [go_sem, hoc, hm1, hm2, hw1, hgc, hx, hwd, hbb, setC_with, setC_toks] <;> rfl) (by simp [go_sem, hoc, hm1, hm2, hw1, hgc, hx, hwd, hbb, setC_with, setC_toks]) rfl rfl (cutR_some hlv) ?_
    rintro r σ' ⟨d', lv', rfl, rfl, hsz'⟩
    refine ul_run 1 (by simp [go_sem, hoc, hm1, hm2, hw1, hgc, hx, hwd, hbb, setC_with, setC_toks] <;> rfl) ?_
    refine ul_nil ?_
    refine aL 3 (by simp [go_sem, hoc, hm1, hm2, hw1, hgc, hx, hwd, hbb, setC_with, setC_toks] <;> rfl) ?_
    refine al_nil ?_
    refine aR (by simp [go_sem, hoc, hm1, hm2, hw1, hgc, hx, hwd, hbb, setC_with, setC_toks] <;> rfl) ?_
    exact next_intro ((i.1 ++ [d'], lv')) σ.objs.length (σ.toks.length + 1) 3 (⟨by simp [sizes_append, D.sizes]; omega, by simp; omega⟩) (by simp; omega) ⟨by show ({ setC σ oc _ with toks := _ } : Store) = _; simp [setC, go_sem, List.take_of_length_le], by simp [go_sem, hoc, hm1, hm2, hw1, hgc, hx, hwd, hbb, setC_with, setC_toks, hw, hol], by simp, by simp, by simp [go_sem, hoc, hm1, hm2, hw1, hgc, hx, hwd, hbb, setC_with, setC_toks, hw, hol], fun ob h => setC_mem h _ _ _, by simp [go_sem]⟩
   ·refine awp_exit ?_
    refine then_exit ?_
    refine then_exit ?_
    refine inBlock_hit ?_
    refine awp_seq (aR (by simp [go_sem, hoc, hm1, hm2, hw1, hgc] <;> rfl) ?_)
    refine awp_ret ?_
    refine ends_ret (by simp [go_sem] <;> rfl) (by simp [go_sem]) ?_
    exact ⟨i.1, i.2, by simp [go_sem, enc_mk], by simp [setC, go_sem, List.take_of_length_le], by omega⟩
  ·refine aK 5 37 true ?_
   refine aL 1 (by simp [go_sem, hoc, hm1, hm2, hw1, hgc] <;> rfl) ?_
   refine al_nil ?_
   refine awp_cond (b := false) (by simp [go_sem, hoc, hm1, hm2, hw1, hgc, h0, h1]) (fun h => ?_) (fun h => ?_)
   ·cases h
   refine awp_exit ?_
   refine then_exit ?_
   refine then_exit ?_
   refine inBlock_hit ?_
   refine awp_seq (aR (by simp [go_sem, hoc, hm1, hm2, hw1, hgc] <;> rfl) ?_)
   refine awp_ret ?_
   refine ends_ret (by simp [go_sem] <;> rfl) (by simp [go_sem]) ?_
   exact ⟨i.1, i.2, by simp [go_sem, enc_mk], by simp [setC, go_sem, List.take_of_length_le], by omega⟩
 ·refine aK 2 33 true ?_
  refine aL 2 (by simp [go_sem, hoc, hm1, hm2, hw1, hgc] <;> rfl) ?_
  refine aK 5 37 true ?_
  refine aL 1 (by simp [go_sem, hoc, hm1, hm2, hw1, hgc] <;> rfl) ?_
  refine al_nil ?_
  refine awp_cond (b := false) (by simp [go_sem, hoc, hm1, hm2, hw1, hgc, h0]) (fun h => ?_) (fun h => ?_)
  ·cases h
  refine awp_exit ?_
  refine then_exit ?_
  refine then_exit ?_
  refine inBlock_hit ?_
  refine awp_seq (aR (by simp [go_sem, hoc, hm1, hm2, hw1, hgc] <;> rfl) ?_)
  refine awp_ret ?_
  refine ends_ret (by simp [go_sem] <;> rfl) (by simp [go_sem]) ?_
  exact ⟨i.1, i.2, by simp [go_sem, enc_mk], by simp [setC, go_sem, List.take_of_length_le], by omega⟩

set_option maxHeartbeats 1000000 in
theorem c_Same (d : D) (hd : d.size ≤ 1000000000) : ∀ e : D, Pur Tryz.prog (GL kr) 35 [.pv (enc d), .pv (enc e)] (.pv (.bool (deq d e))) := by
 induction d using D.ind with
 | _ kind num text kids ih =>
 generalize hD : D.mk kind num text kids = d at *
 have hk : d.kids = kids := by rw [← hD]; rfl
 clear hD
 subst hk
 have hkl := D.kids_length_lt d
 intro e
 refine pur_of fun σ hgl => ?_
 refine acalls_of tyOk Tryz.func35 rfl (by simp [Tryz.f35]) ?_
 refine awp_seq (aR (by simp [go_sem] <;> rfl) ?_)
 refine awp_seq (awp_seq (awp_reg ?_))
 refine aL 6 (by simp [go_sem] <;> rfl) ?_
 refine al_splitT 11 (by first | rfl | (simp [go_sem] <;> rfl)) (fun h0 => ?_) (fun h0 => ?_)
 ·refine aK 5 11 false ?_
  refine aL 2 (by simp [go_sem] <;> rfl) ?_
  refine aK 5 18 false ?_
  refine aL 2 (by simp [go_sem] <;> rfl) ?_
  refine aK 7 25 false ?_
  refine aL 1 (by simp [go_sem] <;> rfl) ?_
  refine al_nil ?_
  refine awp_cond (b := true) (by simp [go_sem, h0]) (fun h => ?_) (fun h => ?_)
  rotate_left
  ·cases h
  refine awp_seq (aR (by simp [go_sem] <;> rfl) ?_)
  refine awp_ret ?_
  refine then_ret ?_
  refine ends_ret (by simp [go_sem] <;> rfl) (by simp [go_sem]) ?_
  have hs : deq d e = false := by
    cases hq : deq d e with
    | false => rfl
    | true => have := deq_of hq; subst this; simp at h0
  exact ⟨by simp [go_sem, hs], by simp [go_sem]⟩
 ·refine aLG 5 11 false (by simp [go_sem] <;> rfl) ?_
  refine aL 2 (by simp [go_sem] <;> rfl) ?_
  refine al_splitT 18 (by first | rfl | (simp [go_sem] <;> rfl)) (fun h1 => ?_) (fun h1 => ?_)
  ·refine aK 5 18 false ?_
   refine aL 2 (by simp [go_sem] <;> rfl) ?_
   refine aK 7 25 false ?_
   refine aL 1 (by simp [go_sem] <;> rfl) ?_
   refine al_nil ?_
   refine awp_cond (b := true) (by simp [go_sem, h0, h1]) (fun h => ?_) (fun h => ?_)
   rotate_left
   ·cases h
   refine awp_seq (aR (by simp [go_sem] <;> rfl) ?_)
   refine awp_ret ?_
   refine then_ret ?_
   refine ends_ret (by simp [go_sem] <;> rfl) (by simp [go_sem]) ?_
   have hs : deq d e = false := by
     cases hq : deq d e with
     | false => rfl
     | true => have := deq_of hq; subst this; simp at h1
   exact ⟨by simp [go_sem, hs], by simp [go_sem]⟩
  ·refine aLG 5 18 false (by simp [go_sem] <;> rfl) ?_
   refine aL 2 (by simp [go_sem] <;> rfl) ?_
   refine al_splitT 25 (by first | rfl | (simp [go_sem] <;> rfl)) (fun h2 => ?_) (fun h2 => ?_)
   ·refine aK 7 25 false ?_
    refine aL 1 (by simp [go_sem] <;> rfl) ?_
    refine al_nil ?_
    refine awp_cond (b := true) (by simp [go_sem, h0, h1, h2]) (fun h => ?_) (fun h => ?_)
    rotate_left
    ·cases h
    refine awp_seq (aR (by simp [go_sem] <;> rfl) ?_)
    refine awp_ret ?_
    refine then_ret ?_
    refine ends_ret (by simp [go_sem] <;> rfl) (by simp [go_sem]) ?_
    have hs : deq d e = false := by
      cases hq : deq d e with
      | false => rfl
      | true => have := deq_of hq; subst this; simp at h2
    exact ⟨by simp [go_sem, hs], by simp [go_sem]⟩
   ·refine aLG 7 25 false (by simp [go_sem] <;> rfl) ?_
    refine aL 1 (by simp [go_sem] <;> rfl) ?_
    refine al_nil ?_
    refine awp_cond (by first | rfl | (simp [go_sem] <;> rfl)) (fun h3 => ?_) (fun h3 => ?_)
    ·refine awp_seq ?_
     refine aR (by simp [go_sem] <;> rfl) ?_
     refine awp_ret ?_
     refine then_ret ?_
     refine ends_ret (by simp [go_sem] <;> rfl) (by simp [go_sem]) ?_
     have hs : deq d e = false := by
       cases hq : deq d e with
       | false => rfl
       | true => have := deq_of hq; subst this; simp at h3
     exact ⟨by simp [go_sem, hs], by simp [go_sem]⟩
    ·have hlen : d.kids.length = e.kids.length := by have := h3; simp only [bne_eq_false_iff_eq] at this; omega
     have hzl : (d.kids.zip e.kids).length = d.kids.length := by simp; omega
     refine awp_skip ?_
     refine awp_seq (awp_seq (aR (by simp [go_sem] <;> rfl) ?_))
     refine awp_block ?_
     refine awp_loop_headK σ.objs.length σ.toks.length 2 [2, 3, 4] (fun k : Nat => [(5, .pv (.int .i64 ↑k))]) (fun k => σ) (fun k => k ≤ d.kids.length ∧ NotYet (fun x => !deq x.1 x.2) (d.kids.zip e.kids) k) (fun k => d.kids.length - k) 0 (⟨Nat.zero_le _, .zero⟩) ⟨by simp [go_sem], rfl, by simp, by simp, by simp [go_sem], fun ob h => .inl (by simpa [go_sem] using h), by simp [go_sem]⟩ ?_
     rintro k ⟨hk, hn⟩
     refine awp_seq (awp_seq (aR (by simp [go_sem] <;> rfl) ?_))
     refine awp_cond (by first | rfl | (simp [go_sem] <;> rfl)) (fun h4 => ?_) (fun h4 => ?_)
     ·have hlt : k < d.kids.length := by simp at h4; omega
      have hw : IntKind.i64.wrap (↑k + 1) = (k : Int) + 1 := wrap_succ (by omega)
      obtain ⟨x, hx, hxm⟩ := get_lt hlt
      obtain ⟨y, hy, hym⟩ := get_lt (l := e.kids) (k := k) (by omega)
      refine awp_skip ?_
      refine awp_seq (awp_block ?_)
      refine awp_seq (awp_regDP tyOk tySz 10 (by kernel_rfl) (by decide) ?_)
      refine ul_run 10 (by simp [go_sem, hx, hy] <;> rfl) ?_
      refine ul_nil ?_
      refine aF call35 ((ih x hxm (by have := D.size_kid_lt hxm; omega) y) _ (by exact hgl)) (by simp [go_sem, hx, hy] <;> rfl) (by simp [go_sem, hx, hy]) ?_
      refine aL 1 (by simp [go_sem, hx, hy] <;> rfl) ?_
      refine al_nil ?_
      refine awp_cond (by first | rfl | (simp [go_sem, hx, hy] <;> rfl)) (fun h5 => ?_) (fun h5 => ?_)
      ·refine awp_seq ?_
       refine aR (by simp [go_sem, hx, hy] <;> rfl) ?_
       refine awp_ret ?_
       refine inBlock_ret ?_
       refine then_ret ?_
       refine then_ret ?_
       refine inBlock_ret ?_
       refine then_ret ?_
       refine ends_ret (by simp [go_sem] <;> rfl) (by simp [go_sem]) ?_
       have hall : (d.kids.zip e.kids).all (fun x => deq x.1 x.2) = false := by rw [List.all_eq_false]; exact ⟨(x, y), List.mem_of_getElem? (zip_get hx hy), by simpa using h5⟩
       have hs : deq d e = false := by rw [deq_eq]; unfold eqf; rw [hall]; simp
       exact ⟨by simp [go_sem, hs], by simp [go_sem]⟩
      ·refine awp_skip ?_
       refine aR (by simp [go_sem, hx, hy] <;> rfl) ?_
       exact next_intro (k + 1) σ.objs.length σ.toks.length 2 (⟨hlt, hn.succ (zip_get hx hy) (by simpa using h5)⟩) (by omega) ⟨by simp [go_sem, hx, hy, hw], rfl, by simp, by simp, by simp [go_sem, hx, hy, hw], fun ob h => .inl (by simpa [go_sem, hx, hy, hw] using h), by simp [go_sem]⟩
     ·have hke : k = d.kids.length := by simp at h4; omega
      subst hke
      have hall : (d.kids.zip e.kids).all (fun x => deq x.1 x.2) = true := by have := (hzl ▸ hn : NotYet _ (d.kids.zip e.kids) (d.kids.zip e.kids).length).all; rw [List.all_eq_true]; intro z hz; simpa using this z hz
      refine awp_exit ?_
      refine then_exit ?_
      refine then_exit ?_
      refine inBlock_hit ?_
      refine awp_seq (aR (by simp [go_sem] <;> rfl) ?_)
      refine awp_ret ?_
      refine ends_ret (by simp [go_sem] <;> rfl) (by simp [go_sem]) ?_
      have hs : deq d e = true := by
        have e0 : d.kind = e.kind := by simpa using h0
        have e1 : d.num = e.num := by simpa using h1
        have e2 : d.text = e.text := by simpa using h2
        rw [deq_eq]; unfold eqf; rw [hall]; simp [e0, e1, e2, hlen]
      exact ⟨by simp [go_sem, hs], by simp [go_sem]⟩

set_option maxHeartbeats 1000000 in
theorem c_formed01 (d : D) (hd : d.size ≤ 1000000000) : Pur Tryz.prog (GL kr) 97 [.pv (enc d)] (.pv (.bool (formed d))) := by
 induction d using D.ind with
 | _ kind num text kids ih =>
 generalize hD : D.mk kind num text kids = d at *
 have hk : d.kids = kids := by rw [← hD]; rfl
 clear hD
 subst hk
 have hkl := D.kids_length_lt d
 refine pur_of fun σ hgl => ?_
 refine acalls_of tyOk Tryz.func97 rfl (by simp [Tryz.f97]) ?_
 refine awp_seq (aR (by simp [go_sem] <;> rfl) ?_)
 refine awp_seq (awp_seq (aR (by simp [go_sem] <;> rfl) ?_))
 refine awp_block ?_
 refine awp_seq (aR (by simp [go_sem] <;> rfl) ?_)
 refine awp_cond (by first | rfl | (simp [go_sem] <;> rfl)) (fun h0 => ?_) (fun h0 => ?_)
 ·refine awp_seq ?_
  refine awp_reg ?_
  refine aL 4 (by simp [go_sem] <;> rfl) ?_
  refine al_splitT 11 (by first | rfl | (simp [go_sem] <;> rfl)) (fun h1 => ?_) (fun h1 => ?_)
  ·refine aLG 4 11 true (by simp [go_sem] <;> rfl) ?_
   refine aL 2 (by simp [go_sem] <;> rfl) ?_
   refine al_nil ?_
   refine awp_ret ?_
   refine inBlock_ret ?_
   refine then_ret ?_
   refine ends_ret (by simp [go_sem] <;> rfl) (by simp [go_sem]) ?_
   exact ⟨by rw [formed_eq]; simp only [Bool.not_true, h0, h1, bA, bB, bC, bD, bE, bF, bG, bH, bI, bJ, Bool.false_eq_true, if_true, if_false, Bool.and_comm, Bool.and_left_comm]; first | (simp [go_sem]; done) | (simp [go_sem, Bool.and_comm, Bool.and_left_comm]; done), by simp [go_sem]⟩
  ·refine aK 4 11 true ?_
   refine aL 2 (by simp [go_sem] <;> rfl) ?_
   refine al_nil ?_
   refine awp_ret ?_
   refine inBlock_ret ?_
   refine then_ret ?_
   refine ends_ret (by simp [go_sem] <;> rfl) (by simp [go_sem]) ?_
   exact ⟨by rw [formed_eq]; simp only [Bool.not_true, h0, h1, bA, bB, bC, bD, bE, bF, bG, bH, bI, bJ, Bool.false_eq_true, if_true, if_false, Bool.and_comm, Bool.and_left_comm]; first | (simp [go_sem]; done) | (simp [go_sem, Bool.and_comm, Bool.and_left_comm]; done), by simp [go_sem]⟩
 ·refine awp_seq ?_
  refine aR (by simp [go_sem] <;> rfl) ?_
  refine awp_cond (by first | rfl | (simp [go_sem] <;> rfl)) (fun h2 => ?_) (fun h2 => ?_)
  ·refine awp_seq ?_
   refine awp_reg ?_
   refine aL 4 (by simp [go_sem] <;> rfl) ?_
   refine al_splitT 22 (by first | rfl | (simp [go_sem] <;> rfl)) (fun h3 => ?_) (fun h3 => ?_)
   ·refine aLG 2 22 true (by simp [go_sem] <;> rfl) ?_
    refine al_fnG 22 true true (by simp [go_sem]) rfl (by simp [go_sem]) rfl rfl (by simp [go_sem] <;> rfl) call139 ((c_pagodaref01_Symbol d.text) _ (by exact hgl)) (by simp [go_sem] <;> rfl) (by simp [go_sem]) rfl rfl ?_
    refine aL 2 (by simp [go_sem, isSym_letter] <;> rfl) ?_
    refine al_splitT 27 (by first | rfl | (simp [go_sem, isSym_letter] <;> rfl)) (fun h4 => ?_) (fun h4 => ?_)
    ·refine aLG 4 27 true (by simp [go_sem, isSym_letter] <;> rfl) ?_
     refine aL 2 (by simp [go_sem, isSym_letter] <;> rfl) ?_
     refine al_nil ?_
     refine awp_ret ?_
     refine inBlock_ret ?_
     refine then_ret ?_
     refine ends_ret (by simp [go_sem, isSym_letter] <;> rfl) (by simp [go_sem]) ?_
     exact ⟨by rw [formed_eq]; simp only [Bool.not_true, isSym_letter, h0, h2, h3, h4, bA, bB, bC, bD, bE, bF, bG, bH, bI, bJ, Bool.false_eq_true, if_true, if_false, Bool.and_comm, Bool.and_left_comm]; first | (simp [go_sem]; done) | (simp [go_sem, Bool.and_comm, Bool.and_left_comm]; done), by simp [go_sem]⟩
    ·refine aK 4 27 true ?_
     refine aL 2 (by simp [go_sem, isSym_letter] <;> rfl) ?_
     refine al_nil ?_
     refine awp_ret ?_
     refine inBlock_ret ?_
     refine then_ret ?_
     refine ends_ret (by simp [go_sem, isSym_letter] <;> rfl) (by simp [go_sem]) ?_
     exact ⟨by rw [formed_eq]; simp only [Bool.not_true, isSym_letter, h0, h2, h3, h4, bA, bB, bC, bD, bE, bF, bG, bH, bI, bJ, Bool.false_eq_true, if_true, if_false, Bool.and_comm, Bool.and_left_comm]; first | (simp [go_sem]; done) | (simp [go_sem, Bool.and_comm, Bool.and_left_comm]; done), by simp [go_sem]⟩
   ·refine aK 3 22 true ?_
    refine aL 2 (by simp [go_sem] <;> rfl) ?_
    refine aK 4 27 true ?_
    refine aL 2 (by simp [go_sem] <;> rfl) ?_
    refine al_nil ?_
    refine awp_ret ?_
    refine inBlock_ret ?_
    refine then_ret ?_
    refine ends_ret (by simp [go_sem] <;> rfl) (by simp [go_sem]) ?_
    exact ⟨by rw [formed_eq]; simp only [Bool.not_true, h0, h2, h3, bA, bB, bC, bD, bE, bF, bG, bH, bI, bJ, Bool.false_eq_true, if_true, if_false, Bool.and_comm, Bool.and_left_comm]; first | (simp [go_sem]; done) | (simp [go_sem, Bool.and_comm, Bool.and_left_comm]; done), by simp [go_sem]⟩
  ·refine awp_seq ?_
   refine aR (by simp [go_sem] <;> rfl) ?_
   refine awp_cond (by first | rfl | (simp [go_sem] <;> rfl)) (fun h5 => ?_) (fun h5 => ?_)
   ·refine awp_seq ?_
    refine awp_seq (aR (by simp [go_sem] <;> rfl) ?_)
    refine awp_block ?_
    refine awp_loop_headK σ.objs.length σ.toks.length 1 [1, 2] (fun k : Nat => [(3, .pv (.int .i64 ↑k))]) (fun k => σ) (fun k => k ≤ d.kids.length ∧ NotYet (fun d => !formed d) d.kids k) (fun k => d.kids.length - k) 0 (⟨Nat.zero_le _, .zero⟩) ⟨by simp [go_sem], rfl, by simp, by simp, by simp [go_sem], fun ob h => .inl (by simpa [go_sem] using h), by simp [go_sem]⟩ ?_
    rintro k ⟨hk, hn⟩
    refine awp_seq (awp_seq (aR (by simp [go_sem] <;> rfl) ?_))
    refine awp_cond (by first | rfl | (simp [go_sem] <;> rfl)) (fun h6 => ?_) (fun h6 => ?_)
    ·have hlt : k < d.kids.length := by simp at h6; omega
     have hw : IntKind.i64.wrap (↑k + 1) = (k : Int) + 1 := wrap_succ (by omega)
     obtain ⟨x, hx, hxm⟩ := get_lt hlt
     refine awp_skip ?_
     refine awp_seq (awp_block ?_)
     refine awp_seq (awp_reg ?_)
     refine aL 5 (by simp [go_sem, hx] <;> rfl) ?_
     refine aF call97 ((ih x hxm (by have := D.size_kid_lt hxm; omega)) _ (by exact hgl)) (by simp [go_sem, hx] <;> rfl) (by simp [go_sem, hx]) ?_
     refine aL 1 (by simp [go_sem, hx] <;> rfl) ?_
     refine al_nil ?_
     refine awp_cond (by first | rfl | (simp [go_sem, hx] <;> rfl)) (fun h7 => ?_) (fun h7 => ?_)
     ·have hany : (d.kids.any fun d => !formed d) = true := any_found (p := fun d => !formed d) hx h7
      refine awp_seq (aR (by simp [go_sem, hx] <;> rfl) ?_)
      refine awp_ret ?_
      refine inBlock_ret ?_
      refine then_ret ?_
      refine then_ret ?_
      refine inBlock_ret ?_
      refine then_ret ?_
      refine inBlock_ret ?_
      refine then_ret ?_
      refine ends_ret (by simp [go_sem, hx] <;> rfl) (by simp [go_sem]) ?_
      exact ⟨by rw [formed_eq]; simp only [Bool.not_true, hx, h0, h2, h5, h6, h7, hany, bA, bB, bC, bD, bE, bF, bG, bH, bI, bJ, Bool.false_eq_true, if_true, if_false, Bool.and_comm, Bool.and_left_comm]; first | (simp [go_sem]; done) | (simp [go_sem, Bool.and_comm, Bool.and_left_comm]; done), by simp [go_sem]⟩
     ·refine awp_skip ?_
      refine aR (by simp [go_sem, hx] <;> rfl) ?_
      exact next_intro (k + 1) σ.objs.length σ.toks.length 1 (⟨hlt, hn.succ hx h7⟩) (by omega) ⟨by simp [go_sem, hx, hw], rfl, by simp, by simp, by simp [go_sem, hx, hw], fun ob h => .inl (by simpa [go_sem, hx, hw] using h), by simp [go_sem]⟩
    ·have hke : k = d.kids.length := by simp at h6; omega
     subst hke
     have hany := hn.any
     refine awp_exit ?_
     refine then_exit ?_
     refine then_exit ?_
     refine inBlock_hit ?_
     refine awp_seq (awp_reg ?_)
     refine aL 4 (by simp [go_sem, hany] <;> rfl) ?_
     refine al_splitT 52 (by first | rfl | (simp [go_sem, hany] <;> rfl)) (fun h8 => ?_) (fun h8 => ?_)
     ·refine aLG 3 52 true (by simp [go_sem, hany] <;> rfl) ?_
      refine aL 2 (by simp [go_sem, hany] <;> rfl) ?_
      refine al_nil ?_
      refine awp_ret ?_
      refine inBlock_ret ?_
      refine then_ret ?_
      refine ends_ret (by simp [go_sem, hany] <;> rfl) (by simp [go_sem]) ?_
      exact ⟨by rw [formed_eq]; simp only [Bool.not_true, hany, h0, h2, h5, h8, bA, bB, bC, bD, bE, bF, bG, bH, bI, bJ, Bool.false_eq_true, if_true, if_false, Bool.and_comm, Bool.and_left_comm]; first | (simp [go_sem]; done) | (simp [go_sem, Bool.and_comm, Bool.and_left_comm]; done), by simp [go_sem]⟩
     ·refine aK 3 52 true ?_
      refine aL 2 (by simp [go_sem, hany] <;> rfl) ?_
      refine al_nil ?_
      refine awp_ret ?_
      refine inBlock_ret ?_
      refine then_ret ?_
      refine ends_ret (by simp [go_sem, hany] <;> rfl) (by simp [go_sem]) ?_
      exact ⟨by rw [formed_eq]; simp only [Bool.not_true, hany, h0, h2, h5, h8, bA, bB, bC, bD, bE, bF, bG, bH, bI, bJ, Bool.false_eq_true, if_true, if_false, Bool.and_comm, Bool.and_left_comm]; first | (simp [go_sem]; done) | (simp [go_sem, Bool.and_comm, Bool.and_left_comm]; done), by simp [go_sem]⟩
   ·refine awp_skip ?_
    refine awp_seq (aR (by simp [go_sem] <;> rfl) ?_)
    refine awp_ret ?_
    refine ends_ret (by simp [go_sem] <;> rfl) (by simp [go_sem]) ?_
    exact ⟨by rw [formed_eq]; simp only [Bool.not_true, h0, h2, h5, bA, bB, bC, bD, bE, bF, bG, bH, bI, bJ, Bool.false_eq_true, if_true, if_false, Bool.and_comm, Bool.and_left_comm]; first | (simp [go_sem]; done) | (simp [go_sem, Bool.and_comm, Bool.and_left_comm]; done), by simp [go_sem]⟩

set_option maxHeartbeats 1000000 in
theorem c_Parts01 (d : D) (hd : d.size ≤ 1000000000) : Pur Tryz.prog (GL kr) 98 [.pv (enc d)] (.pv (.int .i64 d.size)) := by
 induction d using D.ind with
 | _ kind num text kids ih =>
 generalize hD : D.mk kind num text kids = d at *
 have hk : d.kids = kids := by rw [← hD]; rfl
 clear hD
 subst hk
 have hkl := D.kids_length_lt d
 have hds := size_sum d
 rw [sumTo_all] at hds
 refine pur_of fun σ hgl => ?_
 refine acalls_of tyOk Tryz.func98 rfl (by simp [Tryz.f98]) ?_
 refine awp_seq (aR (by simp [go_sem] <;> rfl) ?_)
 refine awp_seq (aR (by simp [go_sem] <;> rfl) ?_)
 refine awp_seq (awp_seq (aR (by simp [go_sem] <;> rfl) ?_))
 refine awp_block ?_
 refine awp_loop_headK σ.objs.length σ.toks.length 1 [1, 2] (fun k : Nat => [(3, .pv (.int .i64 (1 + ((sumTo D.size d.kids k : Nat) : Int)))), (4, .pv (.int .i64 ↑k))]) (fun k => σ) (fun k => k ≤ d.kids.length) (fun k => d.kids.length - k) 0 (Nat.zero_le _) ⟨by simp [go_sem, sumTo_zero], rfl, by simp, by simp, by simp [go_sem, sumTo_zero], fun ob h => .inl (by simpa [go_sem, sumTo_zero] using h), by simp [go_sem]⟩ ?_
 intro k hk
 refine awp_seq (awp_seq (aR (by simp [go_sem] <;> rfl) ?_))
 refine awp_cond (by first | rfl | (simp [go_sem] <;> rfl)) (fun h0 => ?_) (fun h0 => ?_)
 ·have hlt : k < d.kids.length := by simp at h0; omega
  have hw : IntKind.i64.wrap (↑k + 1) = (k : Int) + 1 := wrap_succ (by omega)
  obtain ⟨x, hx, hxm⟩ := get_lt hlt
  have hsn := sumTo_next (f := D.size) hx
  have hs2 := sumTo_le (f := D.size) (l := d.kids) (k := k + 1) (fun x _ => Nat.le_refl _)
  have hsk := D.size_kids d
  have hwa : IntKind.i64.wrap (1 + ((sumTo D.size d.kids k : Nat) : Int) + (x.size : Int)) = 1 + ((sumTo D.size d.kids (k + 1) : Nat) : Int) := by rw [wrap_id (by omega) (by omega)]; omega
  refine awp_skip ?_
  refine awp_seq (awp_block ?_)
  refine awp_reg ?_
  refine aL 6 (by simp [go_sem, hx, hwa] <;> rfl) ?_
  refine aF call98 ((ih x hxm (by have := D.size_kid_lt hxm; omega)) _ (by exact hgl)) (by simp [go_sem, hx, hwa] <;> rfl) (by simp [go_sem, hx, hwa]) ?_
  refine aL 2 (by simp [go_sem, hx, hwa] <;> rfl) ?_
  refine al_nil ?_
  refine aR (by simp [go_sem, hx, hwa] <;> rfl) ?_
  exact next_intro (k + 1) σ.objs.length σ.toks.length 1 (hlt) (by omega) ⟨by simp [go_sem, hx, hwa, hw], rfl, by simp, by simp, by simp [go_sem, hx, hwa, hw], fun ob h => .inl (by simpa [go_sem, hx, hwa, hw] using h), by simp [go_sem]⟩
 ·have hke : k = d.kids.length := by simp at h0; omega
  subst hke
  refine awp_exit ?_
  refine then_exit ?_
  refine then_exit ?_
  refine inBlock_hit ?_
  refine awp_seq (aR (by simp [go_sem] <;> rfl) ?_)
  refine awp_ret ?_
  refine ends_ret (by simp [go_sem] <;> rfl) (by simp [go_sem]) ?_
  have hds := size_sum d
  exact ⟨by rw [hds]; simp [go_sem], by simp [go_sem]⟩

set_option maxHeartbeats 1000000 in
theorem c_Deep01 (d : D) (hd : d.size ≤ 1000000000) : Pur Tryz.prog (GL kr) 99 [.pv (enc d)] (.pv (.int .i64 d.deep)) := by
 induction d using D.ind with
 | _ kind num text kids ih =>
 generalize hD : D.mk kind num text kids = d at *
 have hk : d.kids = kids := by rw [← hD]; rfl
 clear hD
 subst hk
 have hkl := D.kids_length_lt d
 have hdd := D.deep_le_size d
 have hdk := deep_kids d
 refine pur_of fun σ hgl => ?_
 refine acalls_of tyOk Tryz.func99 rfl (by simp [Tryz.f99]) ?_
 refine awp_seq (aR (by simp [go_sem] <;> rfl) ?_)
 refine awp_seq (aR (by simp [go_sem] <;> rfl) ?_)
 refine awp_seq (awp_seq (aR (by simp [go_sem] <;> rfl) ?_))
 refine awp_block ?_
 refine awp_loop_headK σ.objs.length σ.toks.length 1 [1, 2] (fun k : Nat => [(3, .pv (.int .i64 ((D.deeps (d.kids.take k) : Nat) : Int))), (4, .pv (.int .i64 ↑k))]) (fun k => σ) (fun k => k ≤ d.kids.length) (fun k => d.kids.length - k) 0 (Nat.zero_le _) ⟨by simp [go_sem, List.take_zero, D.deeps], rfl, by simp, by simp, by simp [go_sem, List.take_zero, D.deeps], fun ob h => .inl (by simpa [go_sem, List.take_zero, D.deeps] using h), by simp [go_sem]⟩ ?_
 intro k hk
 refine awp_seq (awp_seq (aR (by simp [go_sem] <;> rfl) ?_))
 refine awp_cond (by first | rfl | (simp [go_sem] <;> rfl)) (fun h0 => ?_) (fun h0 => ?_)
 ·have hlt : k < d.kids.length := by simp at h0; omega
  have hw : IntKind.i64.wrap (↑k + 1) = (k : Int) + 1 := wrap_succ (by omega)
  obtain ⟨x, hx, hxm⟩ := get_lt hlt
  have hdn := deeps_next hx
  refine awp_skip ?_
  refine awp_seq (awp_block ?_)
  refine awp_reg ?_
  refine aL 6 (by simp [go_sem, hx, hdn] <;> rfl) ?_
  refine aF call99 ((ih x hxm (by have := D.size_kid_lt hxm; omega)) _ (by exact hgl)) (by simp [go_sem, hx, hdn] <;> rfl) (by simp [go_sem, hx, hdn]) ?_
  refine aL 2 (by simp [go_sem, hx, hdn] <;> rfl) ?_
  refine al_nil ?_
  refine aR (by simp [go_sem, hx, hdn] <;> rfl) ?_
  exact next_intro (k + 1) σ.objs.length σ.toks.length 1 (hlt) (by omega) ⟨by simp [go_sem, hx, hdn, hw], rfl, by simp, by simp, by simp [go_sem, hx, hdn, hw], fun ob h => .inl (by simpa [go_sem, hx, hdn, hw] using h), by simp [go_sem]⟩
 ·have hke : k = d.kids.length := by simp at h0; omega
  subst hke
  have hta : d.kids.take d.kids.length = d.kids := List.take_length
  have hwd : IntKind.i64.wrap (((D.deeps d.kids : Nat) : Int) + 1) = ((D.deeps d.kids : Nat) : Int) + 1 := wrap_id (by omega) (by omega)
  refine awp_exit ?_
  refine then_exit ?_
  refine then_exit ?_
  refine inBlock_hit ?_
  refine awp_seq (aR (by simp [go_sem, hta, hwd] <;> rfl) ?_)
  refine awp_ret ?_
  refine ends_ret (by simp [go_sem] <;> rfl) (by simp [go_sem]) ?_
  exact ⟨by rw [hdk]; simp [go_sem, Int.add_comm], by simp [go_sem]⟩

set_option maxHeartbeats 1000000 in
theorem c_Check01 (d : D) (hd : d.size ≤ 1000000000) : Pur Tryz.prog (GL kr) 47 [.pv (enc d)] (.pv (.int .i64 (dcheck d))) := by
 refine pur_of fun σ hgl => ?_
 refine acalls_of tyOk Tryz.func47 rfl (by simp [Tryz.f47]) ?_
 refine awp_seq (aR (by simp [go_sem] <;> rfl) ?_)
 refine awp_seq (awp_seq (awp_reg ?_))
 refine aL 1 (by simp [go_sem] <;> rfl) ?_
 refine aF call97 ((c_formed01 d hd) _ (by exact hgl)) (by simp [go_sem] <;> rfl) (by simp [go_sem]) ?_
 refine aL 1 (by simp [go_sem] <;> rfl) ?_
 refine al_nil ?_
 refine awp_cond (by first | rfl | (simp [go_sem] <;> rfl)) (fun h0 => ?_) (fun h0 => ?_)
 ·refine awp_seq ?_
  refine aR (by simp [go_sem] <;> rfl) ?_
  refine awp_ret ?_
  refine then_ret ?_
  refine ends_ret (by simp [go_sem] <;> rfl) (by simp [go_sem]) ?_
  exact ⟨by simp only [dcheck, h0, bA, bB, bC, bD, bE, bF, bG, bH, bI, bJ, Bool.false_eq_true, if_true, if_false]; simp [go_sem], by simp [go_sem]⟩
 ·refine awp_skip ?_
  refine awp_seq (awp_seq (awp_reg ?_))
  refine aL 1 (by simp [go_sem] <;> rfl) ?_
  refine aF call98 ((c_Parts01 d hd) _ (by exact hgl)) (by simp [go_sem] <;> rfl) (by simp [go_sem]) ?_
  refine aL 2 (by simp [go_sem] <;> rfl) ?_
  refine al_splitT 9 (by first | rfl | (simp [go_sem] <;> rfl)) (fun h1 => ?_) (fun h1 => ?_)
  ·refine aK 3 9 false ?_
   refine aL 1 (by simp [go_sem] <;> rfl) ?_
   refine al_nil ?_
   refine awp_cond (b := true) (by simp [go_sem, h0, h1]) (fun h => ?_) (fun h => ?_)
   rotate_left
   ·cases h
   refine awp_seq (aR (by simp [go_sem] <;> rfl) ?_)
   refine awp_ret ?_
   refine then_ret ?_
   refine ends_ret (by simp [go_sem] <;> rfl) (by simp [go_sem]) ?_
   exact ⟨by simp only [dcheck, h0, h1, bA, bB, bC, bD, bE, bF, bG, bH, bI, bJ, Bool.false_eq_true, if_true, if_false]; simp [go_sem], by simp [go_sem]⟩
  ·refine aLG 1 9 false (by simp [go_sem] <;> rfl) ?_
   refine al_fnG 9 false false (by simp [go_sem]) rfl (by simp [go_sem]) rfl rfl (by simp [go_sem] <;> rfl) call99 ((c_Deep01 d hd) _ (by exact hgl)) (by simp [go_sem] <;> rfl) (by simp [go_sem]) rfl rfl ?_
   refine aLG 1 9 false (by simp [go_sem] <;> rfl) ?_
   refine aL 1 (by simp [go_sem] <;> rfl) ?_
   refine al_nil ?_
   refine awp_cond (by first | rfl | (simp [go_sem] <;> rfl)) (fun h2 => ?_) (fun h2 => ?_)
   ·refine awp_seq ?_
    refine aR (by simp [go_sem] <;> rfl) ?_
    refine awp_ret ?_
    refine then_ret ?_
    refine ends_ret (by simp [go_sem] <;> rfl) (by simp [go_sem]) ?_
    exact ⟨by simp only [dcheck, h0, h1, h2, bA, bB, bC, bD, bE, bF, bG, bH, bI, bJ, Bool.false_eq_true, if_true, if_false]; simp [go_sem], by simp [go_sem]⟩
   ·refine awp_skip ?_
    refine awp_seq (aR (by simp [go_sem] <;> rfl) ?_)
    refine awp_ret ?_
    refine ends_ret (by simp [go_sem] <;> rfl) (by simp [go_sem]) ?_
    exact ⟨by simp only [dcheck, h0, h1, h2, bA, bB, bC, bD, bE, bF, bG, bH, bI, bJ, Bool.false_eq_true, if_true, if_false]; simp [go_sem], by simp [go_sem]⟩

set_option maxHeartbeats 1000000 in
theorem c_Sym01 (s : ByteArray) : Pur Tryz.prog (GL kr) 88 [.pv (.str s)] (.pv (enc (dsym s))) := by
 refine pur_of fun σ hgl => ?_
 refine acalls_of tyOk Tryz.func88 rfl (by simp [Tryz.f88]) ?_
 refine awp_seq (aR (by simp [go_sem] <;> rfl) ?_)
 refine awp_seq (aR (by simp [go_sem] <;> rfl) ?_)
 refine awp_ret ?_
 refine ends_ret (by simp [go_sem] <;> rfl) (by simp [go_sem]) ?_
 exact ⟨by simp [go_sem, enc_sym], by simp [go_sem]⟩

set_option maxHeartbeats 1000000 in
theorem c_List01 (l : List D) (hl : l.length ≤ 1000000000) : Pur Tryz.prog (GL kr) 90 [.pv (.slice (l.map enc))] (.pv (enc (dlist l))) := by
 have h56 : l.length * 56 ≤ 140737488355328 := by omega
 refine pur_of fun σ hgl => ?_
 refine acalls_of tyOk Tryz.func90 rfl (by simp [Tryz.f90]) ?_
 refine awp_seq (aR (by simp [go_sem, h56] <;> rfl) ?_)
 refine awp_seq (aR (by simp [go_sem, h56] <;> rfl) ?_)
 refine awp_ret ?_
 refine ends_ret (by simp [go_sem, h56] <;> rfl) (by simp [go_sem]) ?_
 exact ⟨by simp [go_sem, h56, enc_list], by simp [go_sem]⟩

set_option maxHeartbeats 1000000 in
theorem c_Cut (d : D) (σ : Store) (hgl : σ.gl = (GL kr)) : ACalls Tryz.prog 46 [.pv (enc d), .pv (.int .i64 2000), .pv (.int .i64 1005)] σ (fun r σ' => ∃ d' : D, r = .pv (enc d') ∧ σ' = σ ∧ d'.size ≤ 2000) := by
 refine ACalls.less (R := fun r σ' => ∃ d' : D, WVt σ.objs.length σ.toks.length 0 r (.pv (enc d')) ∧ σ'.cut σ.objs.length σ.toks.length = σ ∧ d'.size ≤ 2000) ?_ (fun r σ' ⟨d', h1, h2, h3⟩ => ⟨_, _, _, h1, Nat.le_refl _, Nat.le_refl _, fun ob hob => .inl (by rw [← h2]; exact hob), ⟨d', rfl, h2, h3⟩⟩)
 refine acalls_of tyOk Tryz.func46 rfl (by simp [Tryz.f46]) ?_
 refine awp_seq (aR (by simp [go_sem] <;> rfl) ?_)
 refine awp_seq (awp_region_run (sh := [10]) tyOk (by simp [go_sem] <;> rfl) ?_)
 refine awp_seq (awp_reg ?_)
 refine aL 3 (by simp [go_sem] <;> rfl) ?_
 refine al_callW rfl rfl rfl (by simp [go_sem] <;> rfl) call96 (c_cut d σ.objs.length 2000 1005 _ (by exact hgl) (by simp [go_sem]) (by decide) (by decide) (by decide) (by decide)) (by simp [go_sem] <;> rfl) (by simp [go_sem]) rfl rfl ?_
 rintro r σ' ⟨d', lv', rfl, rfl, hsz'⟩
 refine aL 1 (by simp [go_sem] <;> rfl) ?_
 refine al_nil ?_
 refine awp_ret ?_
 refine ends_ret (by simp [go_sem] <;> rfl) (by simp [go_sem]) ?_
 exact ⟨d', by simp [go_sem], by simp [setC, go_sem], by omega⟩

set_option maxHeartbeats 1000000 in
theorem c_Cut25 (d : D) (σ : Store) (hgl : σ.gl = (GL kr)) : ACalls Tryz.prog 17 [.pv (enc d)] σ (fun r σ' => ∃ d' : D, r = .pv (enc d') ∧ σ' = σ ∧ d'.size ≤ 2000) := by
 refine ACalls.less (R := fun r σ' => ∃ d' : D, WVt σ.objs.length σ.toks.length 0 r (.pv (enc d')) ∧ σ'.cut σ.objs.length σ.toks.length = σ ∧ d'.size ≤ 2000) ?_ (fun r σ' ⟨d', h1, h2, h3⟩ => ⟨_, _, _, h1, Nat.le_refl _, Nat.le_refl _, fun ob hob => .inl (by rw [← h2]; exact hob), ⟨d', rfl, h2, h3⟩⟩)
 refine acalls_of tyOk Tryz.func17 rfl (by simp [Tryz.f17]) ?_
 refine awp_seq (aR (by simp [go_sem] <;> rfl) ?_)
 refine awp_seq (awp_reg ?_)
 refine aL 1 (by simp [go_sem] <;> rfl) ?_
 refine al_callW rfl rfl rfl (by simp [go_sem] <;> rfl) call46 (c_Cut d σ hgl) (by simp [go_sem] <;> rfl) (by simp [go_sem]) rfl rfl ?_
 rintro r σ' ⟨d', rfl, rfl, hsz'⟩
 refine aL 1 (by simp [go_sem] <;> rfl) ?_
 refine al_nil ?_
 refine awp_ret ?_
 refine ends_ret (by simp [go_sem] <;> rfl) (by simp [go_sem]) ?_
 exact ⟨d', by simp [go_sem], by simp [go_sem], hsz'⟩

end Go.Proofs.YtmpofjiokpeegaaGreatDoor

/- The specification: terms, Check, Free, All, Count. -/
namespace Go.Proofs.YtmpofjiokpeegaaGreatDoor
open Go Go.Aw
variable {kr : KR}
set_option maxHeartbeats 1000000 in
theorem c_Word (d : D) : Pur Tryz.prog (GL kr) 70 [.pv (enc d)] (.pv (.str (word d))) := by
 refine pur_of fun σ hgl => ?_
 refine acalls_of tyOk Tryz.func70 rfl (by simp [Tryz.f70]) ?_
 refine awp_seq (aR (by simp [go_sem] <;> rfl) ?_)
 refine awp_seq (awp_seq (awp_reg ?_))
 refine aL 4 (by simp [go_sem] <;> rfl) ?_
 refine al_splitT 6 (by first | rfl | (simp [go_sem] <;> rfl)) (fun h0 => ?_) (fun h0 => ?_)
 ·refine aK 4 6 false ?_
  refine aL 2 (by simp [go_sem] <;> rfl) ?_
  refine aK 6 12 false ?_
  refine aL 1 (by simp [go_sem] <;> rfl) ?_
  refine al_nil ?_
  refine awp_cond (b := true) (by simp [go_sem, h0]) (fun h => ?_) (fun h => ?_)
  rotate_left
  ·cases h
  refine awp_seq (aR (by simp [go_sem] <;> rfl) ?_)
  refine awp_ret ?_
  refine then_ret ?_
  refine ends_ret (by simp [go_sem] <;> rfl) (by simp [go_sem]) ?_
  exact ⟨by simp only [word, h0, bA, bB, bC, bD, bE, bF, bG, bH, bI, bJ, Bool.false_eq_true, if_true, if_false]; simp [go_sem], by simp [go_sem]⟩
 ·refine aLG 4 6 false (by simp [go_sem] <;> rfl) ?_
  refine aL 2 (by simp [go_sem] <;> rfl) ?_
  refine al_splitT 12 (by first | rfl | (simp [go_sem] <;> rfl)) (fun h1 => ?_) (fun h1 => ?_)
  ·refine aK 6 12 false ?_
   refine aL 1 (by simp [go_sem] <;> rfl) ?_
   refine al_nil ?_
   refine awp_cond (b := true) (by simp [go_sem, h0, h1]) (fun h => ?_) (fun h => ?_)
   rotate_left
   ·cases h
   refine awp_seq (aR (by simp [go_sem] <;> rfl) ?_)
   refine awp_ret ?_
   refine then_ret ?_
   refine ends_ret (by simp [go_sem] <;> rfl) (by simp [go_sem]) ?_
   exact ⟨by simp only [word, h0, h1, bA, bB, bC, bD, bE, bF, bG, bH, bI, bJ, Bool.false_eq_true, if_true, if_false]; simp [go_sem], by simp [go_sem]⟩
  ·have hne : d.kids ≠ [] := by intro e; rw [e] at h1; exact absurd h1 (by decide)
   obtain ⟨x0, r, hx⟩ := kids_cons hne
   have hh : d.head = x0 := head_cons hx
   have hx0 : d.kids[0]? = some x0 := by rw [hx]; rfl
   refine aLG 6 12 false (by simp [go_sem, hx0] <;> rfl) ?_
   refine aL 1 (by simp [go_sem, hx0] <;> rfl) ?_
   refine al_nil ?_
   refine awp_cond (by first | rfl | (simp [go_sem, hx0] <;> rfl)) (fun h2 => ?_) (fun h2 => ?_)
   ·refine awp_seq ?_
    refine aR (by simp [go_sem, hx0] <;> rfl) ?_
    refine awp_ret ?_
    refine then_ret ?_
    refine ends_ret (by simp [go_sem, hx0] <;> rfl) (by simp [go_sem]) ?_
    exact ⟨by simp only [word, hx0, h0, h1, hh, h2, bA, bB, bC, bD, bE, bF, bG, bH, bI, bJ, Bool.false_eq_true, if_true, if_false]; simp [go_sem], by simp [go_sem]⟩
   ·refine awp_skip ?_
    refine awp_seq (aR (by simp [go_sem, hx0] <;> rfl) ?_)
    refine awp_ret ?_
    refine ends_ret (by simp [go_sem, hx0] <;> rfl) (by simp [go_sem]) ?_
    exact ⟨by simp only [word, hx0, h0, h1, hh, h2, bA, bB, bC, bD, bE, bF, bG, bH, bI, bJ, Bool.false_eq_true, if_true, if_false]; simp [go_sem], by simp [go_sem]⟩

set_option maxHeartbeats 1000000 in
theorem c_rname (d : D) : Pur Tryz.prog (GL kr) 140 [.pv (enc d)] (.pv (.bool (rName d))) := by
 refine pur_of fun σ hgl => ?_
 refine acalls_of tyOk Tryz.func140 rfl (by simp [Tryz.f140]) ?_
 refine awp_seq (aR (by simp [go_sem] <;> rfl) ?_)
 refine awp_seq (awp_reg ?_)
 refine aL 4 (by simp [go_sem] <;> rfl) ?_
 refine al_splitT 6 (by first | rfl | (simp [go_sem] <;> rfl)) (fun h0 => ?_) (fun h0 => ?_)
 ·refine aLG 2 6 true (by simp [go_sem] <;> rfl) ?_
  refine al_fnG 6 true true (by simp [go_sem]) rfl (by simp [go_sem]) rfl rfl (by simp [go_sem] <;> rfl) call187 ((c_Name04 d.text) _ (by exact hgl)) (by simp [go_sem] <;> rfl) (by simp [go_sem]) rfl rfl ?_
  refine aL 2 (by simp [go_sem] <;> rfl) ?_
  refine al_nil ?_
  refine awp_ret ?_
  refine ends_ret (by simp [go_sem] <;> rfl) (by simp [go_sem]) ?_
  exact ⟨by simp only [rName, h0, bA, bB, bC, bD, bE, bF, bG, bH, bI, bJ, Bool.false_eq_true, if_true, if_false]; simp [go_sem], by simp [go_sem]⟩
 ·refine aK 3 6 true ?_
  refine aL 2 (by simp [go_sem] <;> rfl) ?_
  refine al_nil ?_
  refine awp_ret ?_
  refine ends_ret (by simp [go_sem] <;> rfl) (by simp [go_sem]) ?_
  exact ⟨by simp only [rName, h0, bA, bB, bC, bD, bE, bF, bG, bH, bI, bJ, Bool.false_eq_true, if_true, if_false]; simp [go_sem], by simp [go_sem]⟩

set_option maxHeartbeats 1000000 in
theorem c_form (d : D) : Pur Tryz.prog (GL kr) 100 [.pv (enc d)] (.pv (.bool (mform d))) := by
 refine pur_of fun σ hgl => ?_
 refine acalls_of tyOk Tryz.func100 rfl (by simp [Tryz.f100]) ?_
 refine awp_seq (aR (by simp [go_sem] <;> rfl) ?_)
 refine awp_seq (aR (by simp [go_sem] <;> rfl) ?_)
 refine awp_seq (awp_seq (aR (by simp [go_sem] <;> rfl) ?_))
 refine awp_block ?_
 refine awp_seq (aR (by simp [go_sem] <;> rfl) ?_)
 refine awp_cond (by first | rfl | (simp [go_sem] <;> rfl)) (fun h0 => ?_) (fun h0 => ?_)
 ·refine awp_seq ?_
  refine aR (by simp [go_sem] <;> rfl) ?_
  refine awp_ret ?_
  refine inBlock_ret ?_
  refine then_ret ?_
  refine ends_ret (by simp [go_sem] <;> rfl) (by simp [go_sem]) ?_
  exact ⟨by simp only [mform, h0, bA, bB, bC, bD, bE, bF, bG, bH, bI, bJ, Bool.false_eq_true, if_true, if_false, eQuote, eSay, eLift, eApp, eRun, eIf, eLet, eFn]; simp [go_sem], by simp [go_sem]⟩
 ·refine awp_seq ?_
  refine aR (by simp [go_sem] <;> rfl) ?_
  refine awp_cond (by first | rfl | (simp [go_sem] <;> rfl)) (fun h1 => ?_) (fun h1 => ?_)
  ·refine awp_seq ?_
   refine awp_reg ?_
   refine aL 1 (by simp [go_sem] <;> rfl) ?_
   refine aF call140 ((c_rname d) _ (by exact hgl)) (by simp [go_sem] <;> rfl) (by simp [go_sem]) ?_
   refine aL 1 (by simp [go_sem] <;> rfl) ?_
   refine al_nil ?_
   refine awp_ret ?_
   refine inBlock_ret ?_
   refine then_ret ?_
   refine ends_ret (by simp [go_sem] <;> rfl) (by simp [go_sem]) ?_
   exact ⟨by simp only [mform, h0, h1, bA, bB, bC, bD, bE, bF, bG, bH, bI, bJ, Bool.false_eq_true, if_true, if_false, eQuote, eSay, eLift, eApp, eRun, eIf, eLet, eFn]; simp [go_sem], by simp [go_sem]⟩
  ·refine awp_skip ?_
   refine awp_seq (awp_seq (awp_reg ?_))
   refine aL 1 (by simp [go_sem] <;> rfl) ?_
   refine aF call70 ((c_Word d) _ (by exact hgl)) (by simp [go_sem] <;> rfl) (by simp [go_sem]) ?_
   refine al_nil ?_
   refine awp_block ?_
   refine awp_seq (awp_seq (aR (by simp [go_sem] <;> rfl) ?_))
   refine awp_cond (by first | rfl | (simp [go_sem] <;> rfl)) (fun h2 => ?_) (fun h2 => ?_)
   ·refine awp_skip ?_
    refine awp_cond (b := true) (by simp [go_sem, h0, h1, h2]) (fun h => ?_) (fun h => ?_)
    rotate_left
    ·cases h
    refine awp_seq (aR (by simp [go_sem] <;> rfl) ?_)
    refine awp_ret ?_
    refine inBlock_ret ?_
    refine then_ret ?_
    refine ends_ret (by simp [go_sem] <;> rfl) (by simp [go_sem]) ?_
    exact ⟨by simp only [mform, h0, h1, h2, bA, bB, bC, bD, bE, bF, bG, bH, bI, bJ, Bool.false_eq_true, if_true, if_false, eQuote, eSay, eLift, eApp, eRun, eIf, eLet, eFn]; simp [go_sem], by simp [go_sem]⟩
   ·refine awp_seq ?_
    refine aR (by simp [go_sem] <;> rfl) ?_
    refine awp_cond (by first | rfl | (simp [go_sem] <;> rfl)) (fun h3 => ?_) (fun h3 => ?_)
    ·refine awp_skip ?_
     refine awp_cond (b := true) (by simp [go_sem, h0, h1, h2, h3]) (fun h => ?_) (fun h => ?_)
     rotate_left
     ·cases h
     refine awp_seq (aR (by simp [go_sem] <;> rfl) ?_)
     refine awp_ret ?_
     refine inBlock_ret ?_
     refine then_ret ?_
     refine ends_ret (by simp [go_sem] <;> rfl) (by simp [go_sem]) ?_
     exact ⟨by simp only [mform, h0, h1, h2, h3, bA, bB, bC, bD, bE, bF, bG, bH, bI, bJ, Bool.false_eq_true, if_true, if_false, eQuote, eSay, eLift, eApp, eRun, eIf, eLet, eFn]; simp [go_sem], by simp [go_sem]⟩
    ·refine aR (by simp [go_sem] <;> rfl) ?_
     refine awp_cond (by first | rfl | (simp [go_sem] <;> rfl)) (fun h4 => ?_) (fun h4 => ?_)
     ·refine awp_seq ?_
      refine aR (by simp [go_sem] <;> rfl) ?_
      refine awp_ret ?_
      refine inBlock_ret ?_
      refine then_ret ?_
      refine ends_ret (by simp [go_sem] <;> rfl) (by simp [go_sem]) ?_
      exact ⟨by simp only [mform, h0, h1, h2, h3, h4, bA, bB, bC, bD, bE, bF, bG, bH, bI, bJ, Bool.false_eq_true, if_true, if_false, eQuote, eSay, eLift, eApp, eRun, eIf, eLet, eFn]; simp [go_sem], by simp [go_sem]⟩
     ·refine awp_seq ?_
      refine awp_seq (aR (by simp [go_sem] <;> rfl) ?_)
      refine awp_cond (by first | rfl | (simp [go_sem] <;> rfl)) (fun h5 => ?_) (fun h5 => ?_)
      ·refine awp_skip ?_
       refine awp_cond (b := true) (by simp [go_sem, h0, h1, h2, h3, h4, h5]) (fun h => ?_) (fun h => ?_)
       rotate_left
       ·cases h
       refine awp_seq (aR (by simp [go_sem] <;> rfl) ?_)
       refine awp_ret ?_
       refine inBlock_ret ?_
       refine then_ret ?_
       refine ends_ret (by simp [go_sem] <;> rfl) (by simp [go_sem]) ?_
       exact ⟨by simp only [mform, h0, h1, h2, h3, h4, h5, bA, bB, bC, bD, bE, bF, bG, bH, bI, bJ, Bool.false_eq_true, if_true, if_false, eQuote, eSay, eLift, eApp, eRun, eIf, eLet, eFn]; simp [go_sem], by simp [go_sem]⟩
      ·refine aR (by simp [go_sem] <;> rfl) ?_
       refine awp_cond (by first | rfl | (simp [go_sem] <;> rfl)) (fun h6 => ?_) (fun h6 => ?_)
       ·refine awp_seq ?_
        refine aR (by simp [go_sem] <;> rfl) ?_
        refine awp_ret ?_
        refine inBlock_ret ?_
        refine then_ret ?_
        refine ends_ret (by simp [go_sem] <;> rfl) (by simp [go_sem]) ?_
        exact ⟨by simp only [mform, h0, h1, h2, h3, h4, h5, h6, bA, bB, bC, bD, bE, bF, bG, bH, bI, bJ, Bool.false_eq_true, if_true, if_false, eQuote, eSay, eLift, eApp, eRun, eIf, eLet, eFn]; simp [go_sem], by simp [go_sem]⟩
       ·refine awp_seq ?_
        refine aR (by simp [go_sem] <;> rfl) ?_
        refine awp_cond (by first | rfl | (simp [go_sem] <;> rfl)) (fun h7 => ?_) (fun h7 => ?_)
        ·refine awp_seq ?_
         refine aR (by simp [go_sem] <;> rfl) ?_
         refine awp_ret ?_
         refine inBlock_ret ?_
         refine then_ret ?_
         refine ends_ret (by simp [go_sem] <;> rfl) (by simp [go_sem]) ?_
         exact ⟨by simp only [mform, h0, h1, h2, h3, h4, h5, h6, h7, bA, bB, bC, bD, bE, bF, bG, bH, bI, bJ, Bool.false_eq_true, if_true, if_false, eQuote, eSay, eLift, eApp, eRun, eIf, eLet, eFn]; simp [go_sem], by simp [go_sem]⟩
        ·refine awp_seq ?_
         refine aR (by simp [go_sem] <;> rfl) ?_
         refine awp_cond (by first | rfl | (simp [go_sem] <;> rfl)) (fun h8 => ?_) (fun h8 => ?_)
         ·refine awp_seq ?_
          refine awp_reg ?_
          refine aL 3 (by simp [go_sem] <;> rfl) ?_
          refine al_splitT 38 (by first | rfl | (simp [go_sem] <;> rfl)) (fun h9 => ?_) (fun h9 => ?_)
          ·have h4l := h9
           obtain ⟨x1, hx1, hx1m⟩ := get_lt (l := d.kids) (k := 1) (by simp at h4l; omega)
           have hd1 : d1 d.kids = x1 := getD_of hx1
           refine aLG 4 38 true (by simp [go_sem, hx1] <;> rfl) ?_
           refine al_fnG 38 true true (by simp [go_sem]) rfl (by simp [go_sem]) rfl rfl (by simp [go_sem, hx1] <;> rfl) call140 ((c_rname x1) _ (by exact hgl)) (by simp [go_sem, hx1] <;> rfl) (by simp [go_sem, hx1]) rfl rfl ?_
           refine aL 2 (by simp [go_sem, hx1] <;> rfl) ?_
           refine al_nil ?_
           refine awp_ret ?_
           refine inBlock_ret ?_
           refine then_ret ?_
           refine ends_ret (by simp [go_sem, hx1] <;> rfl) (by simp [go_sem]) ?_
           exact ⟨by simp only [mform, hx1, h0, h1, h2, h3, h4, h5, h6, h7, h8, h9, hd1, bA, bB, bC, bD, bE, bF, bG, bH, bI, bJ, Bool.false_eq_true, if_true, if_false, eQuote, eSay, eLift, eApp, eRun, eIf, eLet, eFn]; simp [go_sem], by simp [go_sem]⟩
          ·refine aK 5 38 true ?_
           refine aL 2 (by simp [go_sem] <;> rfl) ?_
           refine al_nil ?_
           refine awp_ret ?_
           refine inBlock_ret ?_
           refine then_ret ?_
           refine ends_ret (by simp [go_sem] <;> rfl) (by simp [go_sem]) ?_
           exact ⟨by simp only [mform, h0, h1, h2, h3, h4, h5, h6, h7, h8, h9, bA, bB, bC, bD, bE, bF, bG, bH, bI, bJ, Bool.false_eq_true, if_true, if_false, eQuote, eSay, eLift, eApp, eRun, eIf, eLet, eFn]; simp [go_sem], by simp [go_sem]⟩
         ·refine awp_seq ?_
          refine aR (by simp [go_sem] <;> rfl) ?_
          refine awp_cond (by first | rfl | (simp [go_sem] <;> rfl)) (fun h10 => ?_) (fun h10 => ?_)
          ·refine awp_seq ?_
           refine awp_reg ?_
           refine aL 3 (by simp [go_sem] <;> rfl) ?_
           refine al_splitT 49 (by first | rfl | (simp [go_sem] <;> rfl)) (fun h11 => ?_) (fun h11 => ?_)
           ·have h4l := h11
            obtain ⟨x1, hx1, hx1m⟩ := get_lt (l := d.kids) (k := 1) (by simp at h4l; omega)
            have hd1 : d1 d.kids = x1 := getD_of hx1
            obtain ⟨x2, hx2, hx2m⟩ := get_lt (l := d.kids) (k := 2) (by simp at h4l; omega)
            have hd2 : d2 d.kids = x2 := getD_of hx2
            refine aLG 4 49 true (by simp [go_sem, hx1, hx2] <;> rfl) ?_
            refine al_fnG 49 true true (by simp [go_sem]) rfl (by simp [go_sem]) rfl rfl (by simp [go_sem, hx1, hx2] <;> rfl) call140 ((c_rname x1) _ (by exact hgl)) (by simp [go_sem, hx1, hx2] <;> rfl) (by simp [go_sem, hx1, hx2]) rfl rfl ?_
            refine aL 2 (by simp [go_sem, hx1, hx2] <;> rfl) ?_
            refine al_splitT 56 (by first | rfl | (simp [go_sem, hx1, hx2] <;> rfl)) (fun h12 => ?_) (fun h12 => ?_)
            ·refine aLG 4 56 true (by simp [go_sem, hx1, hx2] <;> rfl) ?_
             refine al_fnG 56 true true (by simp [go_sem]) rfl (by simp [go_sem]) rfl rfl (by simp [go_sem, hx1, hx2] <;> rfl) call140 ((c_rname x2) _ (by exact hgl)) (by simp [go_sem, hx1, hx2] <;> rfl) (by simp [go_sem, hx1, hx2]) rfl rfl ?_
             refine aL 2 (by simp [go_sem, hx1, hx2] <;> rfl) ?_
             refine al_nil ?_
             refine awp_ret ?_
             refine inBlock_ret ?_
             refine then_ret ?_
             refine ends_ret (by simp [go_sem, hx1, hx2] <;> rfl) (by simp [go_sem]) ?_
             exact ⟨by simp only [mform, hx1, hx2, h0, h1, h2, h3, h4, h5, h6, h7, h8, h10, h11, hd1, hd2, h12, bA, bB, bC, bD, bE, bF, bG, bH, bI, bJ, Bool.false_eq_true, if_true, if_false, eQuote, eSay, eLift, eApp, eRun, eIf, eLet, eFn]; simp [go_sem], by simp [go_sem]⟩
            ·refine aK 5 56 true ?_
             refine aL 2 (by simp [go_sem, hx1, hx2] <;> rfl) ?_
             refine al_nil ?_
             refine awp_ret ?_
             refine inBlock_ret ?_
             refine then_ret ?_
             refine ends_ret (by simp [go_sem, hx1, hx2] <;> rfl) (by simp [go_sem]) ?_
             exact ⟨by simp only [mform, hx1, hx2, h0, h1, h2, h3, h4, h5, h6, h7, h8, h10, h11, hd1, hd2, h12, bA, bB, bC, bD, bE, bF, bG, bH, bI, bJ, Bool.false_eq_true, if_true, if_false, eQuote, eSay, eLift, eApp, eRun, eIf, eLet, eFn]; simp [go_sem], by simp [go_sem]⟩
           ·refine aK 5 49 true ?_
            refine aL 2 (by simp [go_sem] <;> rfl) ?_
            refine aK 5 56 true ?_
            refine aL 2 (by simp [go_sem] <;> rfl) ?_
            refine al_nil ?_
            refine awp_ret ?_
            refine inBlock_ret ?_
            refine then_ret ?_
            refine ends_ret (by simp [go_sem] <;> rfl) (by simp [go_sem]) ?_
            exact ⟨by simp only [mform, h0, h1, h2, h3, h4, h5, h6, h7, h8, h10, h11, bA, bB, bC, bD, bE, bF, bG, bH, bI, bJ, Bool.false_eq_true, if_true, if_false, eQuote, eSay, eLift, eApp, eRun, eIf, eLet, eFn]; simp [go_sem], by simp [go_sem]⟩
          ·refine awp_skip ?_
           refine awp_seq (awp_reg ?_)
           refine aL 1 (by simp [go_sem] <;> rfl) ?_
           refine aF call70 ((c_Word d) _ (by exact hgl)) (by simp [go_sem] <;> rfl) (by simp [go_sem]) ?_
           refine aF call101 ((c_Arity07 (word d)) _ (by exact hgl)) (by simp [go_sem] <;> rfl) (by simp [go_sem]) ?_
           refine aL 5 (by simp [go_sem] <;> rfl) ?_
           refine al_nil ?_
           refine awp_seq (aR (by simp [go_sem] <;> rfl) ?_)
           refine awp_ret ?_
           refine ends_ret (by simp [go_sem] <;> rfl) (by simp [go_sem]) ?_
           exact ⟨by simp only [mform, h0, h1, h2, h3, h4, h5, h6, h7, h8, h10, bA, bB, bC, bD, bE, bF, bG, bH, bI, bJ, Bool.false_eq_true, if_true, if_false, eQuote, eSay, eLift, eApp, eRun, eIf, eLet, eFn]; simp [go_sem], by simp [go_sem]⟩

set_option maxHeartbeats 1000000 in
theorem c_Kids (d : D) (hf : mform d = true) : Pur Tryz.prog (GL kr) 69 [.pv (enc d)] (.pv (.slice ((kidsM d).map enc))) := by
 refine pur_of fun σ hgl => ?_
 refine acalls_of tyOk Tryz.func69 rfl (by simp [Tryz.f69]) ?_
 refine awp_seq (aR (by simp [go_sem] <;> rfl) ?_)
 refine awp_seq (awp_seq (awp_reg ?_))
 refine aL 1 (by simp [go_sem] <;> rfl) ?_
 refine aF call70 ((c_Word d) _ (by exact hgl)) (by simp [go_sem] <;> rfl) (by simp [go_sem]) ?_
 refine al_nil ?_
 refine awp_block ?_
 refine awp_seq (awp_seq (aR (by simp [go_sem] <;> rfl) ?_))
 refine awp_cond (by first | rfl | (simp [go_sem] <;> rfl)) (fun h0 => ?_) (fun h0 => ?_)
 ·refine awp_skip ?_
  refine awp_cond (b := true) (by simp [go_sem, h0]) (fun h => ?_) (fun h => ?_)
  rotate_left
  ·cases h
  refine awp_seq (aR (by simp [go_sem] <;> rfl) ?_)
  refine awp_ret ?_
  refine inBlock_ret ?_
  refine then_ret ?_
  refine ends_ret (by simp [go_sem] <;> rfl) (by simp [go_sem]) ?_
  exact ⟨by simp only [kidsM, kdrop, h0, bA, bB, bC, bD, bE, bF, bG, bH, bI, bJ, Bool.false_eq_true, if_true, if_false, eQuote, eLet, eFn, List.drop_length, List.map_nil, List.map_drop]; simp [go_sem], by simp [go_sem]⟩
 ·refine aR (by simp [go_sem] <;> rfl) ?_
  refine awp_cond (by first | rfl | (simp [go_sem] <;> rfl)) (fun h1 => ?_) (fun h1 => ?_)
  ·refine awp_seq ?_
   refine aR (by simp [go_sem] <;> rfl) ?_
   refine awp_ret ?_
   refine inBlock_ret ?_
   refine then_ret ?_
   refine ends_ret (by simp [go_sem] <;> rfl) (by simp [go_sem]) ?_
   exact ⟨by simp only [kidsM, kdrop, h0, h1, bA, bB, bC, bD, bE, bF, bG, bH, bI, bJ, Bool.false_eq_true, if_true, if_false, eQuote, eLet, eFn, List.drop_length, List.map_nil, List.map_drop]; simp [go_sem], by simp [go_sem]⟩
  ·refine awp_seq ?_
   refine aR (by simp [go_sem] <;> rfl) ?_
   refine awp_cond (by first | rfl | (simp [go_sem] <;> rfl)) (fun h2 => ?_) (fun h2 => ?_)
   ·have h3l := mform_fn hf (of_decide_eq_true h2)
    have h3i : (3 : Int) ≤ d.kids.length := by omega
    refine awp_seq (aR (by simp [go_sem, h3i] <;> rfl) ?_)
    refine awp_ret ?_
    refine inBlock_ret ?_
    refine then_ret ?_
    refine ends_ret (by simp [go_sem, h3i] <;> rfl) (by simp [go_sem]) ?_
    exact ⟨by simp only [kidsM, kdrop, h3i, h0, h1, h2, bA, bB, bC, bD, bE, bF, bG, bH, bI, bJ, Bool.false_eq_true, if_true, if_false, eQuote, eLet, eFn, List.drop_length, List.map_nil, List.map_drop]; simp [go_sem], by simp [go_sem]⟩
   ·refine awp_seq ?_
    refine aR (by simp [go_sem] <;> rfl) ?_
    refine awp_cond (by first | rfl | (simp [go_sem] <;> rfl)) (fun h3 => ?_) (fun h3 => ?_)
    ·have h2l := mform_let hf (of_decide_eq_true h3)
     have h2i : (2 : Int) ≤ d.kids.length := by omega
     refine awp_seq (aR (by simp [go_sem, h2i] <;> rfl) ?_)
     refine awp_ret ?_
     refine inBlock_ret ?_
     refine then_ret ?_
     refine ends_ret (by simp [go_sem, h2i] <;> rfl) (by simp [go_sem]) ?_
     exact ⟨by simp only [kidsM, kdrop, h2i, h0, h1, h2, h3, bA, bB, bC, bD, bE, bF, bG, bH, bI, bJ, Bool.false_eq_true, if_true, if_false, eQuote, eLet, eFn, List.drop_length, List.map_nil, List.map_drop]; simp [go_sem], by simp [go_sem]⟩
    ·have h1i := (word_ne (d := d) (by assumption)).2.2.2.2
     refine awp_skip ?_
     refine awp_seq (aR (by simp [go_sem, h1i] <;> rfl) ?_)
     refine awp_ret ?_
     refine ends_ret (by simp [go_sem, h1i] <;> rfl) (by simp [go_sem]) ?_
     exact ⟨by simp only [kidsM, kdrop, h1i, h0, h1, h2, h3, bA, bB, bC, bD, bE, bF, bG, bH, bI, bJ, Bool.false_eq_true, if_true, if_false, eQuote, eLet, eFn, List.drop_length, List.map_nil, List.map_drop]; simp [go_sem], by simp [go_sem]⟩

set_option maxHeartbeats 1000000 in
theorem c_In (d : D) (hd : GoodM d) (i : Nat) (hi : i ≤ 1000000000) : Pur Tryz.prog (GL kr) 102 [.pv (enc d), .pv (.int .i64 i)] (.pv (.slice ((bnd d i).map .str))) := by
 have hwf := hd.word_is (w := sFn) (by decide)
 have hwl := hd.word_is (w := sLet) (by decide)
 refine pur_of fun σ hgl => ?_
 refine acalls_of tyOk Tryz.func102 rfl (by simp [Tryz.f102]) ?_
 refine awp_seq (aR (by simp [go_sem] <;> rfl) ?_)
 refine awp_seq (awp_block ?_)
 refine awp_seq (awp_reg ?_)
 refine aL 1 (by simp [go_sem] <;> rfl) ?_
 refine aF call70 ((c_Word d) _ (by exact hgl)) (by simp [go_sem] <;> rfl) (by simp [go_sem]) ?_
 refine aL 2 (by simp [go_sem] <;> rfl) ?_
 refine al_nil ?_
 refine awp_cond (by first | rfl | (simp [go_sem] <;> rfl)) (fun h0 => ?_) (fun h0 => ?_)
 ·obtain ⟨f, x, b, hk1, hk2, hks, hd1, hd2, hin, hmf, hmx, hk3, hht⟩ := hd.fn (by rw [← hd.word_is (by decide)]; exact h0)
  refine awp_seq (awp_regDP tyOk tySz 10 (by kernel_rfl) (by decide) ?_)
  refine ul_run 10 (by simp [go_sem, hk1, hk2] <;> rfl) ?_
  refine ul_nil ?_
  refine aL 2 (by simp [go_sem, hk1, hk2] <;> rfl) ?_
  refine al_nil ?_
  refine awp_ret ?_
  refine inBlock_ret ?_
  refine then_ret ?_
  have hM : bnd d i = [(d1 d.kids).text, (d2 d.kids).text] := by unfold bnd; rw [if_pos (by rw [← hwf]; exact h0)]
  refine ends_ret (by simp [go_sem] <;> rfl) (by simp [go_sem]) ?_
  exact ⟨by simp [go_sem, hM, hd1, hd2], by simp [go_sem]⟩
 ·refine awp_seq ?_
  refine awp_reg ?_
  refine aL 1 (by simp [go_sem] <;> rfl) ?_
  refine aF call70 ((c_Word d) _ (by exact hgl)) (by simp [go_sem] <;> rfl) (by simp [go_sem]) ?_
  refine aL 2 (by simp [go_sem] <;> rfl) ?_
  refine al_splitT 24 (by first | rfl | (simp [go_sem] <;> rfl)) (fun h1 => ?_) (fun h1 => ?_)
  ·obtain ⟨x, a, b, hk1, hks, hd1, hin, hmx, hk3, hht⟩ := hd.lett (by rw [← hd.word_is (by decide)]; exact h1)
   refine aLG 2 24 true (by simp [go_sem, hk1] <;> rfl) ?_
   refine aL 2 (by simp [go_sem, hk1] <;> rfl) ?_
   refine al_nil ?_
   refine awp_cond (by first | rfl | (simp [go_sem, hk1] <;> rfl)) (fun h2 => ?_) (fun h2 => ?_)
   ·refine awp_seq ?_
    refine aR (by simp [go_sem, hk1] <;> rfl) ?_
    refine awp_ret ?_
    refine inBlock_ret ?_
    refine then_ret ?_
    have hM : bnd d i = [(d1 d.kids).text] := by unfold bnd; rw [if_neg (by rw [← hwf]; exact Bool.not_eq_true _ ▸ h0), if_pos (by rw [← hwl, show decide (word d = sLet) = true from h1, h2]; rfl)]
    refine ends_ret (by simp [go_sem] <;> rfl) (by simp [go_sem]) ?_
    exact ⟨by simp [go_sem, hM, hd1], by simp [go_sem]⟩
   ·refine awp_skip ?_
    refine awp_seq (aR (by simp [go_sem, hk1] <;> rfl) ?_)
    refine awp_ret ?_
    have hM : bnd d i = [] := by unfold bnd; rw [if_neg (by rw [← hwf]; exact Bool.not_eq_true _ ▸ h0), if_neg (by simp at h2 ⊢; intro _; exact h2)]
    refine ends_ret (by simp [go_sem] <;> rfl) (by simp [go_sem]) ?_
    exact ⟨by simp [go_sem, hM], by simp [go_sem]⟩
  ·refine aK 2 24 true ?_
   refine aL 2 (by simp [go_sem] <;> rfl) ?_
   refine al_nil ?_
   refine awp_cond (b := false) (by simp [go_sem, h0, h1]) (fun h => ?_) (fun h => ?_)
   ·cases h
   refine awp_skip ?_
   refine awp_seq (aR (by simp [go_sem] <;> rfl) ?_)
   refine awp_ret ?_
   have hM : bnd d i = [] := by unfold bnd; rw [if_neg (by rw [← hwf]; exact Bool.not_eq_true _ ▸ h0), if_neg (by rw [← hwl, show decide (word d = sLet) = false from h1]; simp)]
   refine ends_ret (by simp [go_sem] <;> rfl) (by simp [go_sem]) ?_
   exact ⟨by simp [go_sem, hM], by simp [go_sem]⟩

set_option maxHeartbeats 1000000 in
theorem c_body (d : D) (hd : d.size ≤ 1000000000) : Pur Tryz.prog (GL kr) 48 [.pv (enc d)] (.pv (.int .i64 (mbody d))) := by
 induction d using D.ind with
 | _ kind num text kids ih =>
 generalize hD : D.mk kind num text kids = d at *
 have hk : d.kids = kids := by rw [← hD]; rfl
 clear hD
 subst hk
 have hkl := D.kids_length_lt d
 have hil := inner_len d
 have hkl2 := kidsM_len d
 have hwl : IntKind.i64.wrap ((d.kids.length : Int) - 1) = (d.kids.length : Int) - 1 := wrap_id (by omega) (by omega)
 refine pur_of fun σ hgl => ?_
 refine acalls_of tyOk Tryz.func48 rfl (by simp [Tryz.f48]) ?_
 refine awp_seq (aR (by simp [go_sem, hwl] <;> rfl) ?_)
 refine awp_seq (awp_seq (awp_reg ?_))
 refine aL 1 (by simp [go_sem, hwl] <;> rfl) ?_
 refine aF call100 ((c_form d) _ (by exact hgl)) (by simp [go_sem, hwl] <;> rfl) (by simp [go_sem, hwl]) ?_
 refine aL 1 (by simp [go_sem, hwl] <;> rfl) ?_
 refine al_nil ?_
 refine awp_cond (by first | rfl | (simp [go_sem, hwl] <;> rfl)) (fun h0 => ?_) (fun h0 => ?_)
 ·refine awp_seq ?_
  refine aR (by simp [go_sem, hwl] <;> rfl) ?_
  refine awp_ret ?_
  refine then_ret ?_
  have hM : mbody d = 4 := by rw [mbody_eq, if_pos h0]
  refine ends_ret (by simp [go_sem] <;> rfl) (by simp [go_sem]) ?_
  exact ⟨by simp [go_sem, hM], by simp [go_sem]⟩
 ·refine awp_skip ?_
  refine awp_seq (awp_seq (awp_reg ?_))
  refine aL 1 (by simp [go_sem, hwl] <;> rfl) ?_
  refine aF call70 ((c_Word d) _ (by exact hgl)) (by simp [go_sem, hwl] <;> rfl) (by simp [go_sem, hwl]) ?_
  refine aF call101 ((c_Arity07 (word d)) _ (by exact hgl)) (by simp [go_sem, hwl] <;> rfl) (by simp [go_sem, hwl]) ?_
  refine aL 5 (by simp [go_sem, hwl] <;> rfl) ?_
  refine al_nil ?_
  refine awp_seq (awp_reg ?_)
  refine aL 2 (by simp [go_sem, hwl] <;> rfl) ?_
  refine al_splitT 18 (by first | rfl | (simp [go_sem, hwl] <;> rfl)) (fun h1 => ?_) (fun h1 => ?_)
  ·refine aLG 6 18 true (by simp [go_sem, hwl] <;> rfl) ?_
   refine aL 1 (by simp [go_sem, hwl] <;> rfl) ?_
   refine al_nil ?_
   refine awp_cond (by first | rfl | (simp [go_sem, hwl] <;> rfl)) (fun h2 => ?_) (fun h2 => ?_)
   ·refine awp_seq ?_
    refine aR (by simp [go_sem, hwl] <;> rfl) ?_
    refine awp_ret ?_
    refine then_ret ?_
    have hM : mbody d = 11 := by rw [mbody_eq, if_neg (by rw [h0]; decide), if_pos (by rw [h1, h2]; rfl)]
    refine ends_ret (by simp [go_sem] <;> rfl) (by simp [go_sem]) ?_
    exact ⟨by simp [go_sem, hM], by simp [go_sem]⟩
   ·refine awp_skip ?_
    refine awp_seq (awp_reg ?_)
    refine aL 1 (by simp [go_sem, hwl] <;> rfl) ?_
    refine aF call69 ((c_Kids d (by simpa using h0)) _ (by exact hgl)) (by simp [go_sem, hwl] <;> rfl) (by simp [go_sem, hwl]) ?_
    refine aL 1 (by simp [go_sem, hwl] <;> rfl) ?_
    refine al_nil ?_
    refine awp_seq (awp_seq (aR (by simp [go_sem, hwl] <;> rfl) ?_))
    refine awp_block ?_
    refine awp_loop_headK σ.objs.length σ.toks.length 1 [2, 5] (fun k : Nat => [(6, .pv (.int .i64 ↑k))]) (fun k => σ) (fun k => k ≤ (kidsM d).length ∧ NotYet (fun x => mbody x != 0) (kidsM d) k) (fun k => (kidsM d).length - k) 0 (⟨Nat.zero_le _, .zero⟩) ⟨by simp [go_sem, hwl], rfl, by simp, by simp, by simp [go_sem, hwl], fun ob h => .inl (by simpa [go_sem, hwl] using h), by simp [go_sem]⟩ ?_
    rintro k ⟨hk, hn⟩
    refine awp_seq (awp_seq (aR (by simp [go_sem, hwl] <;> rfl) ?_))
    refine awp_cond (by first | rfl | (simp [go_sem, hwl] <;> rfl)) (fun h3 => ?_) (fun h3 => ?_)
    ·have hlt : k < (kidsM d).length := by simp at h3; omega
     have hw : IntKind.i64.wrap (↑k + 1) = (k : Int) + 1 := wrap_succ (by omega)
     obtain ⟨x, hx, hxm⟩ := get_lt hlt
     refine awp_skip ?_
     refine awp_seq (awp_block ?_)
     refine awp_seq (awp_reg ?_)
     refine aL 4 (by simp [go_sem, hwl, hx] <;> rfl) ?_
     refine aF call48 ((ih x (kidsM_mem hxm) (by have := D.size_kid_lt (kidsM_mem hxm); omega)) _ (by exact hgl)) (by simp [go_sem, hwl, hx] <;> rfl) (by simp [go_sem, hwl, hx]) ?_
     refine aL 1 (by simp [go_sem, hwl, hx] <;> rfl) ?_
     refine al_nil ?_
     refine awp_seq (aR (by simp [go_sem, hwl, hx] <;> rfl) ?_)
     refine awp_cond (by first | rfl | (simp [go_sem, hwl, hx] <;> rfl)) (fun h4 => ?_) (fun h4 => ?_)
     ·refine awp_seq ?_
      refine aR (by simp [go_sem, hwl, hx] <;> rfl) ?_
      refine awp_ret ?_
      refine inBlock_ret ?_
      refine then_ret ?_
      refine then_ret ?_
      refine inBlock_ret ?_
      refine then_ret ?_
      have hM : mbody d = mbody x := by rw [mbody_eq, if_neg (by rw [h0]; decide), if_neg (by rw [h1, h2]; decide)]; exact mbodyL_at hn hx h4
      refine ends_ret (by simp [go_sem] <;> rfl) (by simp [go_sem]) ?_
      exact ⟨by simp [go_sem, hM], by simp [go_sem]⟩
     ·refine awp_skip ?_
      refine aR (by simp [go_sem, hwl, hx] <;> rfl) ?_
      exact next_intro (k + 1) σ.objs.length σ.toks.length 1 (⟨hlt, hn.succ hx (by simpa using h4)⟩) (by omega) ⟨by simp [go_sem, hwl, hx, hw], rfl, by simp, by simp, by simp [go_sem, hwl, hx, hw], fun ob h => .inl (by simpa [go_sem, hwl, hx, hw] using h), by simp [go_sem]⟩
    ·have hke : k = (kidsM d).length := by simp at h3; omega
     subst hke
     refine awp_exit ?_
     refine then_exit ?_
     refine then_exit ?_
     refine inBlock_hit ?_
     refine awp_seq (aR (by simp [go_sem, hwl] <;> rfl) ?_)
     refine awp_ret ?_
     have hM : mbody d = 0 := by rw [mbody_eq, if_neg (by rw [h0]; decide), if_neg (by rw [h1, h2]; decide)]; exact mbodyL_none hn
     refine ends_ret (by simp [go_sem] <;> rfl) (by simp [go_sem]) ?_
     exact ⟨by simp [go_sem, hM], by simp [go_sem]⟩
  ·refine aK 6 18 true ?_
   refine aL 1 (by simp [go_sem, hwl] <;> rfl) ?_
   refine al_nil ?_
   refine awp_cond (b := false) (by simp [go_sem, hwl, h0, h1]) (fun h => ?_) (fun h => ?_)
   ·cases h
   refine awp_skip ?_
   refine awp_seq (awp_reg ?_)
   refine aL 1 (by simp [go_sem, hwl] <;> rfl) ?_
   refine aF call69 ((c_Kids d (by simpa using h0)) _ (by exact hgl)) (by simp [go_sem, hwl] <;> rfl) (by simp [go_sem, hwl]) ?_
   refine aL 1 (by simp [go_sem, hwl] <;> rfl) ?_
   refine al_nil ?_
   refine awp_seq (awp_seq (aR (by simp [go_sem, hwl] <;> rfl) ?_))
   refine awp_block ?_
   refine awp_loop_headK σ.objs.length σ.toks.length 1 [2, 5] (fun k : Nat => [(6, .pv (.int .i64 ↑k))]) (fun k => σ) (fun k => k ≤ (kidsM d).length ∧ NotYet (fun x => mbody x != 0) (kidsM d) k) (fun k => (kidsM d).length - k) 0 (⟨Nat.zero_le _, .zero⟩) ⟨by simp [go_sem, hwl], rfl, by simp, by simp, by simp [go_sem, hwl], fun ob h => .inl (by simpa [go_sem, hwl] using h), by simp [go_sem]⟩ ?_
   rintro k ⟨hk, hn⟩
   refine awp_seq (awp_seq (aR (by simp [go_sem, hwl] <;> rfl) ?_))
   refine awp_cond (by first | rfl | (simp [go_sem, hwl] <;> rfl)) (fun h5 => ?_) (fun h5 => ?_)
   ·have hlt : k < (kidsM d).length := by simp at h5; omega
    have hw : IntKind.i64.wrap (↑k + 1) = (k : Int) + 1 := wrap_succ (by omega)
    obtain ⟨x, hx, hxm⟩ := get_lt hlt
    refine awp_skip ?_
    refine awp_seq (awp_block ?_)
    refine awp_seq (awp_reg ?_)
    refine aL 4 (by simp [go_sem, hwl, hx] <;> rfl) ?_
    refine aF call48 ((ih x (kidsM_mem hxm) (by have := D.size_kid_lt (kidsM_mem hxm); omega)) _ (by exact hgl)) (by simp [go_sem, hwl, hx] <;> rfl) (by simp [go_sem, hwl, hx]) ?_
    refine aL 1 (by simp [go_sem, hwl, hx] <;> rfl) ?_
    refine al_nil ?_
    refine awp_seq (aR (by simp [go_sem, hwl, hx] <;> rfl) ?_)
    refine awp_cond (by first | rfl | (simp [go_sem, hwl, hx] <;> rfl)) (fun h6 => ?_) (fun h6 => ?_)
    ·refine awp_seq ?_
     refine aR (by simp [go_sem, hwl, hx] <;> rfl) ?_
     refine awp_ret ?_
     refine inBlock_ret ?_
     refine then_ret ?_
     refine then_ret ?_
     refine inBlock_ret ?_
     refine then_ret ?_
     have hM : mbody d = mbody x := by rw [mbody_eq, if_neg (by rw [h0]; decide), if_neg (by rw [h1]; simp)]; exact mbodyL_at hn hx h6
     refine ends_ret (by simp [go_sem] <;> rfl) (by simp [go_sem]) ?_
     exact ⟨by simp [go_sem, hM], by simp [go_sem]⟩
    ·refine awp_skip ?_
     refine aR (by simp [go_sem, hwl, hx] <;> rfl) ?_
     exact next_intro (k + 1) σ.objs.length σ.toks.length 1 (⟨hlt, hn.succ hx (by simpa using h6)⟩) (by omega) ⟨by simp [go_sem, hwl, hx, hw], rfl, by simp, by simp, by simp [go_sem, hwl, hx, hw], fun ob h => .inl (by simpa [go_sem, hwl, hx, hw] using h), by simp [go_sem]⟩
   ·have hke : k = (kidsM d).length := by simp at h5; omega
    subst hke
    refine awp_exit ?_
    refine then_exit ?_
    refine then_exit ?_
    refine inBlock_hit ?_
    refine awp_seq (aR (by simp [go_sem, hwl] <;> rfl) ?_)
    refine awp_ret ?_
    have hM : mbody d = 0 := by rw [mbody_eq, if_neg (by rw [h0]; decide), if_neg (by rw [h1]; simp)]; exact mbodyL_none hn
    refine ends_ret (by simp [go_sem] <;> rfl) (by simp [go_sem]) ?_
    exact ⟨by simp [go_sem, hM], by simp [go_sem]⟩

set_option maxHeartbeats 1000000 in
theorem c_rCheck (d : D) (hd : d.size ≤ 1000000000) : Pur Tryz.prog (GL kr) 11 [.pv (enc d)] (.pv (.int .i64 (mcheck d))) := by
 rw [← rcheckM_eq]
 refine pur_of fun σ hgl => ?_
 refine acalls_of tyOk Tryz.func11 rfl (by simp [Tryz.f11]) ?_
 refine awp_seq (aR (by simp [go_sem] <;> rfl) ?_)
 refine awp_seq (awp_seq (awp_reg ?_))
 refine aL 1 (by simp [go_sem] <;> rfl) ?_
 refine aF call47 ((c_Check01 d hd) _ (by exact hgl)) (by simp [go_sem] <;> rfl) (by simp [go_sem]) ?_
 refine aL 1 (by simp [go_sem] <;> rfl) ?_
 refine al_nil ?_
 refine awp_seq (aR (by simp [go_sem] <;> rfl) ?_)
 refine awp_cond (by first | rfl | (simp [go_sem] <;> rfl)) (fun h0 => ?_) (fun h0 => ?_)
 ·refine awp_seq ?_
  refine aR (by simp [go_sem] <;> rfl) ?_
  refine awp_ret ?_
  refine then_ret ?_
  refine ends_ret (by simp [go_sem] <;> rfl) (by simp [go_sem]) ?_
  exact ⟨by simp only [rcheckM, h0, bA, bB, bC, bD, bE, bF, bG, bH, bI, bJ, Bool.false_eq_true, if_true, if_false]; simp [go_sem], by simp [go_sem]⟩
 ·refine awp_skip ?_
  refine awp_seq (awp_reg ?_)
  refine aL 1 (by simp [go_sem] <;> rfl) ?_
  refine aF call48 ((c_body d hd) _ (by exact hgl)) (by simp [go_sem] <;> rfl) (by simp [go_sem]) ?_
  refine aL 1 (by simp [go_sem] <;> rfl) ?_
  refine al_nil ?_
  refine awp_ret ?_
  refine ends_ret (by simp [go_sem] <;> rfl) (by simp [go_sem]) ?_
  exact ⟨by simp only [rcheckM, h0, bA, bB, bC, bD, bE, bF, bG, bH, bI, bJ, Bool.false_eq_true, if_true, if_false]; simp [go_sem], by simp [go_sem]⟩

end Go.Proofs.YtmpofjiokpeegaaGreatDoor

/- The specification: Free, All, Count. -/
namespace Go.Proofs.YtmpofjiokpeegaaGreatDoor
open Go Go.Aw
variable {kr : KR}
set_option maxHeartbeats 1000000 in
theorem c_among (l : List ByteArray) (hl : l.length ≤ 1000000000) (s : ByteArray) : Pur Tryz.prog (GL kr) 86 [.pv (.slice (l.map .str)), .pv (.str s)] (.pv (.bool (memB l s))) := by
 rw [show memB l s = l.any fun y => decide (y = s) from by unfold memB; congr 1; funext y; simp [eq_comm]]
 refine pur_of fun σ hgl => ?_
 refine acalls_of tyOk Tryz.func86 rfl (by simp [Tryz.f86]) ?_
 refine awp_seq (aR (by simp [go_sem] <;> rfl) ?_)
 refine awp_seq (awp_seq (aR (by simp [go_sem] <;> rfl) ?_))
 refine awp_block ?_
 refine awp_loop_headK σ.objs.length σ.toks.length 0 [0, 1, 4] (fun k : Nat => [(5, .pv (.int .i64 ↑k))]) (fun k => σ) (fun k => k ≤ l.length ∧ NotYet (fun y => decide (y = s)) l k) (fun k => l.length - k) 0 (⟨Nat.zero_le _, .zero⟩) ⟨by simp [go_sem], rfl, by simp, by simp, by simp [go_sem], fun ob h => .inl (by simpa [go_sem] using h), by simp [go_sem]⟩ ?_
 rintro k ⟨hk, hn⟩
 refine awp_seq (awp_seq (aR (by simp [go_sem] <;> rfl) ?_))
 refine awp_cond (by first | rfl | (simp [go_sem] <;> rfl)) (fun h0 => ?_) (fun h0 => ?_)
 ·have hlt : k < l.length := by simp at h0; omega
  have hw : IntKind.i64.wrap (↑k + 1) = (k : Int) + 1 := wrap_succ (by omega)
  obtain ⟨x, hx, hxm⟩ := get_lt hlt
  refine awp_skip ?_
  refine awp_seq (awp_block ?_)
  refine awp_seq (aR (by simp [go_sem, hx] <;> rfl) ?_)
  refine awp_cond (by first | rfl | (simp [go_sem, hx] <;> rfl)) (fun h1 => ?_) (fun h1 => ?_)
  ·refine awp_seq ?_
   refine aR (by simp [go_sem, hx] <;> rfl) ?_
   refine awp_ret ?_
   refine inBlock_ret ?_
   refine then_ret ?_
   refine then_ret ?_
   refine inBlock_ret ?_
   refine then_ret ?_
   refine ends_ret (by simp [go_sem] <;> rfl) (by simp [go_sem]) ?_
   have hany : (l.any fun y => decide (y = s)) = true := any_found (p := fun y => decide (y = s)) hx h1
   exact ⟨by simp only [hany]; simp [go_sem], by simp [go_sem]⟩
  ·refine awp_skip ?_
   refine aR (by simp [go_sem, hx] <;> rfl) ?_
   exact next_intro (k + 1) σ.objs.length σ.toks.length 0 (⟨hlt, hn.succ hx h1⟩) (by omega) ⟨by simp [go_sem, hx, hw], rfl, by simp, by simp, by simp [go_sem, hx, hw], fun ob h => .inl (by simpa [go_sem, hx, hw] using h), by simp [go_sem]⟩
 ·have hke : k = l.length := by simp at h0; omega
  subst hke
  have hany := hn.any
  refine awp_exit ?_
  refine then_exit ?_
  refine then_exit ?_
  refine inBlock_hit ?_
  refine awp_seq (aR (by simp [go_sem, hany] <;> rfl) ?_)
  refine awp_ret ?_
  refine ends_ret (by simp [go_sem] <;> rfl) (by simp [go_sem]) ?_
  exact ⟨by simp only [hany]; simp [go_sem], by simp [go_sem]⟩

set_option maxHeartbeats 1000000 in
theorem c_rfree (d : D) : ∀ (l out : List ByteArray) (σ : Store) (kt : Nat) (hgl : σ.gl = (GL kr)) (hg : GoodM d) (hb : l.length + out.length + 3 * d.size ≤ 1000000000) (htk : σ.toks[kt]? = some ⟨out.length, 9, 1⟩), ACalls Tryz.prog 49 [.pv (enc d), .pv (.slice (l.map .str)), .acc (out.map .str) kt] σ (fun r σ' => r = .acc ((mfree d l out).map .str) kt ∧ σ' = σ.tok kt (mfree d l out).length) := by
 induction d using D.ind with
 | _ kind num text kids ih =>
 generalize hD : D.mk kind num text kids = d at *
 have hk : d.kids = kids := by rw [← hD]; rfl
 clear hD
 subst hk
 have hkl := D.kids_length_lt d
 have hil := inner_len d
 intro l out σ kt hgl hg hb htk
 have hkt := (List.getElem?_eq_some_iff.1 htk).1
 have hbb : (out.length + 1) * 16 ≤ 140737488355328 := by omega
 have hki := hg.kids_inner
 refine acalls_of tyOk Tryz.func49 rfl (by simp [Tryz.f49]) ?_
 refine awp_seq (aR (by simp [go_sem, htk, hbb] <;> rfl) ?_)
 refine awp_seq (aR (by simp [go_sem, htk, hbb] <;> rfl) ?_)
 refine awp_seq (awp_seq (awp_reg ?_))
 refine aL 4 (by simp [go_sem, htk, hbb] <;> rfl) ?_
 refine al_splitT 14 (by first | rfl | (simp [go_sem, htk, hbb] <;> rfl)) (fun h0 => ?_) (fun h0 => ?_)
 ·refine aLG 3 14 true (by simp [go_sem, htk, hbb] <;> rfl) ?_
  refine al_fnG 14 true true (by simp [go_sem]) rfl (by simp [go_sem]) rfl rfl (by simp [go_sem, htk, hbb] <;> rfl) call86 ((c_among l (by omega) d.text) _ (by exact hgl)) (by simp [go_sem, htk, hbb] <;> rfl) (by simp [go_sem, htk, hbb]) rfl rfl ?_
  refine aLG 1 14 true (by simp [go_sem, htk, hbb] <;> rfl) ?_
  refine aL 2 (by simp [go_sem, htk, hbb] <;> rfl) ?_
  refine al_splitT 21 (by first | rfl | (simp [go_sem, htk, hbb] <;> rfl)) (fun h1 => ?_) (fun h1 => ?_)
  ·refine aLG 3 21 true (by simp [go_sem, htk, hbb] <;> rfl) ?_
   refine al_fnG 21 true true (by simp [go_sem]) rfl (by simp [go_sem]) rfl rfl (by simp [go_sem, htk, hbb] <;> rfl) call86 ((c_among out (by omega) d.text) _ (by exact hgl)) (by simp [go_sem, htk, hbb] <;> rfl) (by simp [go_sem, htk, hbb]) rfl rfl ?_
   refine aLG 1 21 true (by simp [go_sem, htk, hbb] <;> rfl) ?_
   refine aL 1 (by simp [go_sem, htk, hbb] <;> rfl) ?_
   refine al_nil ?_
   refine awp_cond (by first | rfl | (simp [go_sem, htk, hbb] <;> rfl)) (fun h2 => ?_) (fun h2 => ?_)
   ·obtain ⟨ob, hob⟩ : ∃ ob, ob = out ++ [d.text] := ⟨_, rfl⟩
    have hobm : out.map PV.str ++ [PV.str d.text] = ob.map .str := by rw [hob]; simp
    have hobl : out.length + 1 = ob.length := by rw [hob]; simp
    have hin0 : inner d = [] := inner_none (by have := h0; simp at this; omega)
    have hfin : mfreeK d l ob (inner d).length = mfree d l out := by rw [mfree_eq, if_pos (by rw [h0, h1, h2]; rfl), hin0, hob]; rfl
    have hm0 := mfreeK_zero (d := d) (l := l) (out := ob)
    have htb : (σ.tok kt ob.length).toks[kt]? = some ⟨ob.length, 9, 1⟩ := by simp [Store.tok, htk]
    have hol : ob.length ≤ out.length + 1 := by rw [hob]; simp
    have hd1 := D.size_pos d
    have hbo : ob.length * 16 ≤ 140737488355328 := by omega
    have hob1 : ob.length + D.sizes (inner d) ≤ out.length + d.size := by rw [hin0]; simp [D.sizes]; omega
    refine aR (by simp [go_sem, htk, hbb, hobm, hobl, hbo] <;> rfl) ?_
    refine awp_seq (awp_reg ?_)
    refine aL 1 (by simp [go_sem, htk, hbb, hobm, hobl, hbo] <;> rfl) ?_
    refine aF call69 ((c_Kids d hg.form_ok) _ (by exact hgl)) (by simp [go_sem, htk, hbb, hobm, hobl, hbo] <;> rfl) (by simp [go_sem, htk, hbb, hobm, hobl, hbo]) ?_
    refine aL 1 (by simp [go_sem, htk, hbb, hobm, hobl, hbo, hki] <;> rfl) ?_
    refine al_nil ?_
    refine awp_seq (awp_seq (aR (by simp [go_sem, htk, hbb, hobm, hobl, hbo, hki] <;> rfl) ?_))
    refine awp_block ?_
    refine awp_loop_headK σ.objs.length σ.toks.length 1 [1, 3, 6, 8] (fun k : Nat => [(7, .acc ((mfreeK d l ob k).map .str) kt), (9, .pv (.int .i64 ↑k))]) (fun k => σ.tok kt (mfreeK d l ob k).length) (fun k => k ≤ (inner d).length) (fun k => (inner d).length - k) 0 (Nat.zero_le _) ⟨by show σ.tok kt (mfreeK d l ob 0).length = _; rw [hm0]; first | (rw [tok_self htk rfl]; exact (cut_full σ).symm) | (show σ.tok kt ob.length = Store.cut _ _ _; simp [Store.cut, Store.tok, List.take_of_length_le]), rfl, by simp, by simp, by simp [go_sem, htk, hbb, hobm, hobl, hbo, hki, hkt, hm0], fun ob h => .inl (by simpa [go_sem, htk, hbb, hobm, hobl, hbo, hki, hkt, hm0] using h), by simp [go_sem]⟩ ?_
    intro k hk
    refine awp_seq (awp_seq (aR (by simp [go_sem, htk, hbb, hobm, hobl, hbo, hki] <;> rfl) ?_))
    refine awp_cond (by first | rfl | (simp [go_sem, htk, hbb, hobm, hobl, hbo, hki] <;> rfl)) (fun h3 => ?_) (fun h3 => ?_)
    ·have hlt : k < (inner d).length := by simp at h3; omega
     have hw : IntKind.i64.wrap (↑k + 1) = (k : Int) + 1 := wrap_succ (by omega)
     obtain ⟨x, hx, hxm⟩ := get_lt hlt
     have hcn := mfreeK_next (l := l) (out := ob) hx
     have hbl := bnd_len d k
     have hxs := D.size_kid_lt (inner_mem hxm)
     have hbb2 : (l.length + (bnd d k).length) * 16 ≤ 140737488355328 := by omega
     have hbb3 : l.length * 16 ≤ 140737488355328 := by omega
     have hfl := mfreeK_len (d := d) (l := l) (out := ob) (k := k)
     refine awp_skip ?_
     refine awp_seq (awp_block ?_)
     refine awp_regDC tyOk tySz 12 (by kernel_rfl) (by decide) ?_
     refine ul_run 9 (by simp [go_sem, htk, hbb, hobm, hobl, hbo, hki, hx, hbb2, hbb3, allSz_str, modify_last] <;> rfl) ?_
     refine ul_fn (by first | (intro _ _ hh; exact hh) | simp [go_sem]) rfl rfl rfl rfl (by simp [go_sem, htk, hbb, hobm, hobl, hbo, hki, hx, hbb2, hbb3, allSz_str, modify_last] <;> rfl) call102 ((c_In d hg k (by omega)) _ (by exact hgl)) (by simp [go_sem, htk, hbb, hobm, hobl, hbo, hki, hx, hbb2, hbb3, allSz_str, modify_last] <;> rfl) (by simp [go_sem, htk, hbb, hobm, hobl, hbo, hki, hx, hbb2, hbb3, allSz_str, modify_last]) rfl rfl ?_
     refine ul_run 2 (by simp [go_sem, htk, hbb, hobm, hobl, hbo, hki, hx, hbb2, hbb3, allSz_str, modify_last] <;> rfl) ?_
     refine ul_nil ?_
     refine al_callW rfl rfl rfl (by simp [go_sem, htk, hbb, hobm, hobl, hbo, hki, hx, hbb2, hbb3, allSz_str, modify_last] <;> rfl) call49 (ih x (inner_mem hxm) (l ++ bnd d k) (mfreeK d l ob k) _ kt (by exact hgl) (hg.part hxm) (by have := sizes_take hx; have := inner_sizes d; have := D.size_kids d; simp; omega) (by exact tok_get_app htk)) (by simp [go_sem, htk, hbb, hobm, hobl, hbo, hki, hx, hbb2, hbb3, allSz_str, modify_last] <;> rfl) (by simp [go_sem, htk, hbb, hobm, hobl, hbo, hki, hx, hbb2, hbb3, allSz_str, modify_last]) rfl rfl ?_
     rintro r σ' ⟨rfl, rfl⟩
     refine aL 1 (by simp [go_sem, htk, hbb, hobm, hobl, hbo, hki, hx, hbb2, hbb3, allSz_str, modify_last] <;> rfl) ?_
     refine al_nil ?_
     refine aR (by simp [go_sem, htk, hbb, hobm, hobl, hbo, hki, hx, hbb2, hbb3, allSz_str, modify_last] <;> rfl) ?_
     exact next_intro (k + 1) σ.objs.length σ.toks.length 1 (hlt) (by omega) ⟨by show σ.tok kt (mfreeK d l ob (k + 1)).length = Store.cut _ _ _; rw [hcn]; exact (tok_cutA hkt).symm, rfl, by simp, by simp, by simp [go_sem, htk, hbb, hobm, hobl, hbo, hki, hx, hbb2, hbb3, allSz_str, modify_last, hw, hcn, hkt], fun ob h => .inl (by simpa [go_sem, htk, hbb, hobm, hobl, hbo, hki, hx, hbb2, hbb3, allSz_str, modify_last, hw, hcn, hkt] using h), by simp [go_sem]⟩
    ·have hke : k = (inner d).length := by simp at h3; omega
     subst hke
     refine awp_exit ?_
     refine then_exit ?_
     refine then_exit ?_
     refine inBlock_hit ?_
     refine awp_seq (aR (by simp [go_sem, htk, hbb, hobm, hobl, hbo, hki, hfin] <;> rfl) ?_)
     refine awp_ret ?_
     refine ends_ret (by simp [go_sem] <;> rfl) (by simp [go_sem]) ?_
     exact ⟨by simp [go_sem, hfin], by simp [go_sem, hfin]⟩
   ·obtain ⟨ob, hob⟩ : ∃ ob, ob = out := ⟨_, rfl⟩
    subst hob
    have hfin := mfreeK_all (d := d) (l := l) (out := ob) (by simp only [h0, h1, h2]; rfl)
    have hm0 := mfreeK_zero (d := d) (l := l) (out := ob)
    have htb : (σ.tok kt ob.length).toks[kt]? = some ⟨ob.length, 9, 1⟩ := by simp [Store.tok, htk]
    have hts := tok_self htk rfl
    have hob1 : ob.length + D.sizes (inner d) ≤ ob.length + d.size := by have := inner_sizes d; have := D.size_kids d; omega
    refine awp_skip ?_
    refine awp_seq (awp_reg ?_)
    refine aL 1 (by simp [go_sem, htk, hbb] <;> rfl) ?_
    refine aF call69 ((c_Kids d hg.form_ok) _ (by exact hgl)) (by simp [go_sem, htk, hbb] <;> rfl) (by simp [go_sem, htk, hbb]) ?_
    refine aL 1 (by simp [go_sem, htk, hbb, hki] <;> rfl) ?_
    refine al_nil ?_
    refine awp_seq (awp_seq (aR (by simp [go_sem, htk, hbb, hki] <;> rfl) ?_))
    refine awp_block ?_
    refine awp_loop_headK σ.objs.length σ.toks.length 1 [1, 3, 6, 8] (fun k : Nat => [(7, .acc ((mfreeK d l ob k).map .str) kt), (9, .pv (.int .i64 ↑k))]) (fun k => σ.tok kt (mfreeK d l ob k).length) (fun k => k ≤ (inner d).length) (fun k => (inner d).length - k) 0 (Nat.zero_le _) ⟨by show σ.tok kt (mfreeK d l ob 0).length = _; rw [hm0]; first | (rw [tok_self htk rfl]; exact (cut_full σ).symm) | (show σ.tok kt ob.length = Store.cut _ _ _; simp [Store.cut, Store.tok, List.take_of_length_le]), rfl, by simp, by simp, by simp [go_sem, htk, hbb, hki, hkt, hm0], fun ob h => .inl (by simpa [go_sem, htk, hbb, hki, hkt, hm0] using h), by simp [go_sem]⟩ ?_
    intro k hk
    refine awp_seq (awp_seq (aR (by simp [go_sem, htk, hbb, hki] <;> rfl) ?_))
    refine awp_cond (by first | rfl | (simp [go_sem, htk, hbb, hki] <;> rfl)) (fun h4 => ?_) (fun h4 => ?_)
    ·have hlt : k < (inner d).length := by simp at h4; omega
     have hw : IntKind.i64.wrap (↑k + 1) = (k : Int) + 1 := wrap_succ (by omega)
     obtain ⟨x, hx, hxm⟩ := get_lt hlt
     have hcn := mfreeK_next (l := l) (out := ob) hx
     have hbl := bnd_len d k
     have hxs := D.size_kid_lt (inner_mem hxm)
     have hbb2 : (l.length + (bnd d k).length) * 16 ≤ 140737488355328 := by omega
     have hbb3 : l.length * 16 ≤ 140737488355328 := by omega
     have hfl := mfreeK_len (d := d) (l := l) (out := ob) (k := k)
     refine awp_skip ?_
     refine awp_seq (awp_block ?_)
     refine awp_regDC tyOk tySz 12 (by kernel_rfl) (by decide) ?_
     refine ul_run 9 (by simp [go_sem, htk, hbb, hki, hx, hbb2, hbb3, allSz_str, modify_last] <;> rfl) ?_
     refine ul_fn (by first | (intro _ _ hh; exact hh) | simp [go_sem]) rfl rfl rfl rfl (by simp [go_sem, htk, hbb, hki, hx, hbb2, hbb3, allSz_str, modify_last] <;> rfl) call102 ((c_In d hg k (by omega)) _ (by exact hgl)) (by simp [go_sem, htk, hbb, hki, hx, hbb2, hbb3, allSz_str, modify_last] <;> rfl) (by simp [go_sem, htk, hbb, hki, hx, hbb2, hbb3, allSz_str, modify_last]) rfl rfl ?_
     refine ul_run 2 (by simp [go_sem, htk, hbb, hki, hx, hbb2, hbb3, allSz_str, modify_last] <;> rfl) ?_
     refine ul_nil ?_
     refine al_callW rfl rfl rfl (by simp [go_sem, htk, hbb, hki, hx, hbb2, hbb3, allSz_str, modify_last] <;> rfl) call49 (ih x (inner_mem hxm) (l ++ bnd d k) (mfreeK d l ob k) _ kt (by exact hgl) (hg.part hxm) (by have := sizes_take hx; have := inner_sizes d; have := D.size_kids d; simp; omega) (by exact tok_get_app htk)) (by simp [go_sem, htk, hbb, hki, hx, hbb2, hbb3, allSz_str, modify_last] <;> rfl) (by simp [go_sem, htk, hbb, hki, hx, hbb2, hbb3, allSz_str, modify_last]) rfl rfl ?_
     rintro r σ' ⟨rfl, rfl⟩
     refine aL 1 (by simp [go_sem, htk, hbb, hki, hx, hbb2, hbb3, allSz_str, modify_last] <;> rfl) ?_
     refine al_nil ?_
     refine aR (by simp [go_sem, htk, hbb, hki, hx, hbb2, hbb3, allSz_str, modify_last] <;> rfl) ?_
     exact next_intro (k + 1) σ.objs.length σ.toks.length 1 (hlt) (by omega) ⟨by show σ.tok kt (mfreeK d l ob (k + 1)).length = Store.cut _ _ _; rw [hcn]; exact (tok_cutA hkt).symm, rfl, by simp, by simp, by simp [go_sem, htk, hbb, hki, hx, hbb2, hbb3, allSz_str, modify_last, hw, hcn, hkt], fun ob h => .inl (by simpa [go_sem, htk, hbb, hki, hx, hbb2, hbb3, allSz_str, modify_last, hw, hcn, hkt] using h), by simp [go_sem]⟩
    ·have hke : k = (inner d).length := by simp at h4; omega
     subst hke
     refine awp_exit ?_
     refine then_exit ?_
     refine then_exit ?_
     refine inBlock_hit ?_
     refine awp_seq (aR (by simp [go_sem, htk, hbb, hki, hfin] <;> rfl) ?_)
     refine awp_ret ?_
     refine ends_ret (by simp [go_sem] <;> rfl) (by simp [go_sem]) ?_
     exact ⟨by simp [go_sem, hfin], by simp [go_sem, hfin]⟩
  ·obtain ⟨ob, hob⟩ : ∃ ob, ob = out := ⟨_, rfl⟩
   subst hob
   have hfin := mfreeK_all (d := d) (l := l) (out := ob) (by simp only [h0, h1]; rfl)
   have hm0 := mfreeK_zero (d := d) (l := l) (out := ob)
   have htb : (σ.tok kt ob.length).toks[kt]? = some ⟨ob.length, 9, 1⟩ := by simp [Store.tok, htk]
   have hts := tok_self htk rfl
   have hob1 : ob.length + D.sizes (inner d) ≤ ob.length + d.size := by have := inner_sizes d; have := D.size_kids d; omega
   refine aK 5 21 true ?_
   refine aL 1 (by simp [go_sem, htk, hbb] <;> rfl) ?_
   refine al_nil ?_
   refine awp_cond (b := false) (by simp [go_sem, htk, hbb, h0, h1]) (fun h => ?_) (fun h => ?_)
   ·cases h
   refine awp_skip ?_
   refine awp_seq (awp_reg ?_)
   refine aL 1 (by simp [go_sem, htk, hbb] <;> rfl) ?_
   refine aF call69 ((c_Kids d hg.form_ok) _ (by exact hgl)) (by simp [go_sem, htk, hbb] <;> rfl) (by simp [go_sem, htk, hbb]) ?_
   refine aL 1 (by simp [go_sem, htk, hbb, hki] <;> rfl) ?_
   refine al_nil ?_
   refine awp_seq (awp_seq (aR (by simp [go_sem, htk, hbb, hki] <;> rfl) ?_))
   refine awp_block ?_
   refine awp_loop_headK σ.objs.length σ.toks.length 1 [1, 3, 6, 8] (fun k : Nat => [(7, .acc ((mfreeK d l ob k).map .str) kt), (9, .pv (.int .i64 ↑k))]) (fun k => σ.tok kt (mfreeK d l ob k).length) (fun k => k ≤ (inner d).length) (fun k => (inner d).length - k) 0 (Nat.zero_le _) ⟨by show σ.tok kt (mfreeK d l ob 0).length = _; rw [hm0]; first | (rw [tok_self htk rfl]; exact (cut_full σ).symm) | (show σ.tok kt ob.length = Store.cut _ _ _; simp [Store.cut, Store.tok, List.take_of_length_le]), rfl, by simp, by simp, by simp [go_sem, htk, hbb, hki, hkt, hm0], fun ob h => .inl (by simpa [go_sem, htk, hbb, hki, hkt, hm0] using h), by simp [go_sem]⟩ ?_
   intro k hk
   refine awp_seq (awp_seq (aR (by simp [go_sem, htk, hbb, hki] <;> rfl) ?_))
   refine awp_cond (by first | rfl | (simp [go_sem, htk, hbb, hki] <;> rfl)) (fun h5 => ?_) (fun h5 => ?_)
   ·have hlt : k < (inner d).length := by simp at h5; omega
    have hw : IntKind.i64.wrap (↑k + 1) = (k : Int) + 1 := wrap_succ (by omega)
    obtain ⟨x, hx, hxm⟩ := get_lt hlt
    have hcn := mfreeK_next (l := l) (out := ob) hx
    have hbl := bnd_len d k
    have hxs := D.size_kid_lt (inner_mem hxm)
    have hbb2 : (l.length + (bnd d k).length) * 16 ≤ 140737488355328 := by omega
    have hbb3 : l.length * 16 ≤ 140737488355328 := by omega
    have hfl := mfreeK_len (d := d) (l := l) (out := ob) (k := k)
    refine awp_skip ?_
    refine awp_seq (awp_block ?_)
    refine awp_regDC tyOk tySz 12 (by kernel_rfl) (by decide) ?_
    refine ul_run 9 (by simp [go_sem, htk, hbb, hki, hx, hbb2, hbb3, allSz_str, modify_last] <;> rfl) ?_
    refine ul_fn (by first | (intro _ _ hh; exact hh) | simp [go_sem]) rfl rfl rfl rfl (by simp [go_sem, htk, hbb, hki, hx, hbb2, hbb3, allSz_str, modify_last] <;> rfl) call102 ((c_In d hg k (by omega)) _ (by exact hgl)) (by simp [go_sem, htk, hbb, hki, hx, hbb2, hbb3, allSz_str, modify_last] <;> rfl) (by simp [go_sem, htk, hbb, hki, hx, hbb2, hbb3, allSz_str, modify_last]) rfl rfl ?_
    refine ul_run 2 (by simp [go_sem, htk, hbb, hki, hx, hbb2, hbb3, allSz_str, modify_last] <;> rfl) ?_
    refine ul_nil ?_
    refine al_callW rfl rfl rfl (by simp [go_sem, htk, hbb, hki, hx, hbb2, hbb3, allSz_str, modify_last] <;> rfl) call49 (ih x (inner_mem hxm) (l ++ bnd d k) (mfreeK d l ob k) _ kt (by exact hgl) (hg.part hxm) (by have := sizes_take hx; have := inner_sizes d; have := D.size_kids d; simp; omega) (by exact tok_get_app htk)) (by simp [go_sem, htk, hbb, hki, hx, hbb2, hbb3, allSz_str, modify_last] <;> rfl) (by simp [go_sem, htk, hbb, hki, hx, hbb2, hbb3, allSz_str, modify_last]) rfl rfl ?_
    rintro r σ' ⟨rfl, rfl⟩
    refine aL 1 (by simp [go_sem, htk, hbb, hki, hx, hbb2, hbb3, allSz_str, modify_last] <;> rfl) ?_
    refine al_nil ?_
    refine aR (by simp [go_sem, htk, hbb, hki, hx, hbb2, hbb3, allSz_str, modify_last] <;> rfl) ?_
    exact next_intro (k + 1) σ.objs.length σ.toks.length 1 (hlt) (by omega) ⟨by show σ.tok kt (mfreeK d l ob (k + 1)).length = Store.cut _ _ _; rw [hcn]; exact (tok_cutA hkt).symm, rfl, by simp, by simp, by simp [go_sem, htk, hbb, hki, hx, hbb2, hbb3, allSz_str, modify_last, hw, hcn, hkt], fun ob h => .inl (by simpa [go_sem, htk, hbb, hki, hx, hbb2, hbb3, allSz_str, modify_last, hw, hcn, hkt] using h), by simp [go_sem]⟩
   ·have hke : k = (inner d).length := by simp at h5; omega
    subst hke
    refine awp_exit ?_
    refine then_exit ?_
    refine then_exit ?_
    refine inBlock_hit ?_
    refine awp_seq (aR (by simp [go_sem, htk, hbb, hki, hfin] <;> rfl) ?_)
    refine awp_ret ?_
    refine ends_ret (by simp [go_sem] <;> rfl) (by simp [go_sem]) ?_
    exact ⟨by simp [go_sem, hfin], by simp [go_sem, hfin]⟩
 ·obtain ⟨ob, hob⟩ : ∃ ob, ob = out := ⟨_, rfl⟩
  subst hob
  have hfin := mfreeK_all (d := d) (l := l) (out := ob) (by simp only [h0]; rfl)
  have hm0 := mfreeK_zero (d := d) (l := l) (out := ob)
  have htb : (σ.tok kt ob.length).toks[kt]? = some ⟨ob.length, 9, 1⟩ := by simp [Store.tok, htk]
  have hts := tok_self htk rfl
  have hob1 : ob.length + D.sizes (inner d) ≤ ob.length + d.size := by have := inner_sizes d; have := D.size_kids d; omega
  refine aK 5 14 true ?_
  refine aL 2 (by simp [go_sem, htk, hbb] <;> rfl) ?_
  refine aK 5 21 true ?_
  refine aL 1 (by simp [go_sem, htk, hbb] <;> rfl) ?_
  refine al_nil ?_
  refine awp_cond (b := false) (by simp [go_sem, htk, hbb, h0]) (fun h => ?_) (fun h => ?_)
  ·cases h
  refine awp_skip ?_
  refine awp_seq (awp_reg ?_)
  refine aL 1 (by simp [go_sem, htk, hbb] <;> rfl) ?_
  refine aF call69 ((c_Kids d hg.form_ok) _ (by exact hgl)) (by simp [go_sem, htk, hbb] <;> rfl) (by simp [go_sem, htk, hbb]) ?_
  refine aL 1 (by simp [go_sem, htk, hbb, hki] <;> rfl) ?_
  refine al_nil ?_
  refine awp_seq (awp_seq (aR (by simp [go_sem, htk, hbb, hki] <;> rfl) ?_))
  refine awp_block ?_
  refine awp_loop_headK σ.objs.length σ.toks.length 1 [1, 3, 6, 8] (fun k : Nat => [(7, .acc ((mfreeK d l ob k).map .str) kt), (9, .pv (.int .i64 ↑k))]) (fun k => σ.tok kt (mfreeK d l ob k).length) (fun k => k ≤ (inner d).length) (fun k => (inner d).length - k) 0 (Nat.zero_le _) ⟨by show σ.tok kt (mfreeK d l ob 0).length = _; rw [hm0]; first | (rw [tok_self htk rfl]; exact (cut_full σ).symm) | (show σ.tok kt ob.length = Store.cut _ _ _; simp [Store.cut, Store.tok, List.take_of_length_le]), rfl, by simp, by simp, by simp [go_sem, htk, hbb, hki, hkt, hm0], fun ob h => .inl (by simpa [go_sem, htk, hbb, hki, hkt, hm0] using h), by simp [go_sem]⟩ ?_
  intro k hk
  refine awp_seq (awp_seq (aR (by simp [go_sem, htk, hbb, hki] <;> rfl) ?_))
  refine awp_cond (by first | rfl | (simp [go_sem, htk, hbb, hki] <;> rfl)) (fun h6 => ?_) (fun h6 => ?_)
  ·have hlt : k < (inner d).length := by simp at h6; omega
   have hw : IntKind.i64.wrap (↑k + 1) = (k : Int) + 1 := wrap_succ (by omega)
   obtain ⟨x, hx, hxm⟩ := get_lt hlt
   have hcn := mfreeK_next (l := l) (out := ob) hx
   have hbl := bnd_len d k
   have hxs := D.size_kid_lt (inner_mem hxm)
   have hbb2 : (l.length + (bnd d k).length) * 16 ≤ 140737488355328 := by omega
   have hbb3 : l.length * 16 ≤ 140737488355328 := by omega
   have hfl := mfreeK_len (d := d) (l := l) (out := ob) (k := k)
   refine awp_skip ?_
   refine awp_seq (awp_block ?_)
   refine awp_regDC tyOk tySz 12 (by kernel_rfl) (by decide) ?_
   refine ul_run 9 (by simp [go_sem, htk, hbb, hki, hx, hbb2, hbb3, allSz_str, modify_last] <;> rfl) ?_
   refine ul_fn (by first | (intro _ _ hh; exact hh) | simp [go_sem]) rfl rfl rfl rfl (by simp [go_sem, htk, hbb, hki, hx, hbb2, hbb3, allSz_str, modify_last] <;> rfl) call102 ((c_In d hg k (by omega)) _ (by exact hgl)) (by simp [go_sem, htk, hbb, hki, hx, hbb2, hbb3, allSz_str, modify_last] <;> rfl) (by simp [go_sem, htk, hbb, hki, hx, hbb2, hbb3, allSz_str, modify_last]) rfl rfl ?_
   refine ul_run 2 (by simp [go_sem, htk, hbb, hki, hx, hbb2, hbb3, allSz_str, modify_last] <;> rfl) ?_
   refine ul_nil ?_
   refine al_callW rfl rfl rfl (by simp [go_sem, htk, hbb, hki, hx, hbb2, hbb3, allSz_str, modify_last] <;> rfl) call49 (ih x (inner_mem hxm) (l ++ bnd d k) (mfreeK d l ob k) _ kt (by exact hgl) (hg.part hxm) (by have := sizes_take hx; have := inner_sizes d; have := D.size_kids d; simp; omega) (by exact tok_get_app htk)) (by simp [go_sem, htk, hbb, hki, hx, hbb2, hbb3, allSz_str, modify_last] <;> rfl) (by simp [go_sem, htk, hbb, hki, hx, hbb2, hbb3, allSz_str, modify_last]) rfl rfl ?_
   rintro r σ' ⟨rfl, rfl⟩
   refine aL 1 (by simp [go_sem, htk, hbb, hki, hx, hbb2, hbb3, allSz_str, modify_last] <;> rfl) ?_
   refine al_nil ?_
   refine aR (by simp [go_sem, htk, hbb, hki, hx, hbb2, hbb3, allSz_str, modify_last] <;> rfl) ?_
   exact next_intro (k + 1) σ.objs.length σ.toks.length 1 (hlt) (by omega) ⟨by show σ.tok kt (mfreeK d l ob (k + 1)).length = Store.cut _ _ _; rw [hcn]; exact (tok_cutA hkt).symm, rfl, by simp, by simp, by simp [go_sem, htk, hbb, hki, hx, hbb2, hbb3, allSz_str, modify_last, hw, hcn, hkt], fun ob h => .inl (by simpa [go_sem, htk, hbb, hki, hx, hbb2, hbb3, allSz_str, modify_last, hw, hcn, hkt] using h), by simp [go_sem]⟩
  ·have hke : k = (inner d).length := by simp at h6; omega
   subst hke
   refine awp_exit ?_
   refine then_exit ?_
   refine then_exit ?_
   refine inBlock_hit ?_
   refine awp_seq (aR (by simp [go_sem, htk, hbb, hki, hfin] <;> rfl) ?_)
   refine awp_ret ?_
   refine ends_ret (by simp [go_sem] <;> rfl) (by simp [go_sem]) ?_
   exact ⟨by simp [go_sem, hfin], by simp [go_sem, hfin]⟩

theorem rfree_adopt (d : D) (hg : GoodM d) (hd : d.size ≤ 100000000) (σ : Store) (hgl : σ.gl = (GL kr)) : ACalls Tryz.prog 49 [.pv (enc d), .pv (.slice []), .pv .nils] σ (fun r σ' => r = .acc ((mfree d [] []).map .str) σ.toks.length ∧ σ'.cut σ.objs.length σ.toks.length = σ) := by
  refine ACalls.adoptArg (pre := [.pv (enc d), .pv (.slice [])]) (post := []) (e := 9) (sz := 1) ?_
  refine (c_rfree (kr := kr) d [] [] { σ with toks := σ.toks ++ [⟨0, 9, 1⟩] } σ.toks.length (by exact hgl) hg (by simp; omega) (by simp)).mono ?_
  rintro r σ' ⟨rfl, rfl⟩
  refine ⟨rfl, ?_⟩
  simp only [Store.cut, Store.tok, List.take_length]
  congr 1
  apply List.ext_getElem?
  intro j
  rw [List.getElem?_take]
  split
  · rename_i hj
    have hne : σ.toks.length ≠ j := by omega
    rw [List.getElem?_modify, List.getElem?_append_left hj]
    simp [hne]
  · rename_i hj
    rw [List.getElem?_eq_none (by omega)]

set_option maxHeartbeats 1000000 in
theorem c_rFree (d : D) (hg : GoodM d) (hd : d.size ≤ 100000000) : Pur Tryz.prog (GL kr) 13 [.pv (enc d)] (.pv (.slice ((mfree d [] []).map .str))) := by
 refine pur_of fun σ hgl => ?_
 refine acalls_of tyOk Tryz.func13 rfl (by simp [Tryz.f13]) ?_
 refine awp_seq (aR (by simp [go_sem] <;> rfl) ?_)
 refine awp_seq (awp_reg ?_)
 refine aL 1 (by simp [go_sem] <;> rfl) ?_
 refine al_callW rfl rfl rfl (by simp [go_sem] <;> rfl) call49 (rfree_adopt d hg hd σ hgl) (by simp [go_sem] <;> rfl) (by simp [go_sem]) rfl rfl ?_
 rintro r σ' ⟨rfl, hcut⟩
 refine aL 1 (by simp [go_sem] <;> rfl) ?_
 refine al_nil ?_
 refine awp_ret ?_
 refine ends_ret (by simp [go_sem] <;> rfl) (by simp [go_sem]) ?_
 exact ⟨by simp [go_sem], hcut⟩

end Go.Proofs.YtmpofjiokpeegaaGreatDoor

/- The table for runs that are told whole; the examples, read. -/
namespace Go.Proofs.YtmpofjiokpeegaaGreatDoor
open Go Go.Aw
variable {kr : KR}
def dm : FuncId → Nat → Nat × List Nat × Bool
  | 141, 10 => (11, [], true)
  | 142, 5 => (9, [], false)
  | 188, 0 => (9, [], true)
  | 188, 1 => (8, [], true)
  | 188, 8 => (19, [], true)
  | 189, 3 => (9, [], true)
  | 189, 5 => (14, [], true)
  | 189, 16 => (9, [], false)
  | 189, 18 => (25, [], true)
  | 189, 19 => (7, [], false)
  | 212, 2 => (19, [], true)
  | 212, 4 => (9, [], true)
  | _, _ => (0, [], false)
def shT : FuncId → List Tmp
  | 141 => [13]
  | _ => []
def caL : List Nat := [68, 103, 139, 141, 142, 185, 186, 188, 189, 190, 212, 223]
theorem caOk : ∀ f, caL.contains f = true → Callable Tryz.prog f := by
  intro f h
  simp only [caL, List.contains_eq_mem, List.mem_cons, List.not_mem_nil, or_false, decide_eq_true_eq] at h
  rcases h with rfl | rfl | rfl | rfl | rfl | rfl | rfl | rfl | rfl | rfl | rfl | rfl
  · exact call68
  · exact call103
  · exact call139
  · exact call141
  · exact call142
  · exact call185
  · exact call186
  · exact call188
  · exact call189
  · exact call190
  · exact call212
  · exact call223
def orcT (f : FuncId) (args : List AV) : Option AV := match Nat.beq f 186, args with
  | true, [.pv (.int .u8 c)] => some (.pv (.bool (letter c)))
  | _, _ => none
theorem orcOk : ∀ f args r, orcT f args = some r → Pur Tryz.prog (GL kr) f args r := by
  intro f args r h
  unfold orcT at h
  split at h
  · rename_i c hf
    have := Nat.eq_of_beq_eq_true hf
    subst this
    cases h
    exact c_pagodaref01_Letter c
  · cases h
noncomputable def cfg : Cfg := ⟨Tryz.prog, ty, shT, dm, caL.contains, orcT⟩
theorem cfgOk : CfgOk cfg (GL kr) := ⟨tyOk, tySz, caOk, orcOk⟩
def ex1 : D := dlist [dsym ⟨#[102, 110]⟩, dsym ⟨#[102]⟩, dsym ⟨#[97]⟩, dlist [dsym ⟨#[108, 101, 116]⟩, dsym ⟨#[98]⟩, dlist [dsym ⟨#[43]⟩, dsym ⟨#[97]⟩, dnum 1], dlist [dsym ⟨#[97, 112, 112]⟩, dsym ⟨#[102]⟩, dsym ⟨#[98]⟩]]]
theorem c_read1 : PurAt Tryz.prog ⟨(GL kr), [], []⟩ 68 [.pv (.str ⟨#[40, 102, 110, 32, 102, 32, 97, 32, 40, 108, 101, 116, 32, 98, 32, 40, 43, 32, 97, 32, 49, 41, 32, 40, 97, 112, 112, 32, 102, 32, 98, 41, 41, 41]⟩)] (.pv (enc ex1)) := purAt_eval (n := 100000) cfgOk (by kernel_rfl)
def ex2 : D := dlist [dsym ⟨#[43]⟩, dnum 1, dnum 2]
theorem c_read2 : PurAt Tryz.prog ⟨(GL kr), [], []⟩ 68 [.pv (.str ⟨#[40, 43, 32, 49, 32, 50, 41]⟩)] (.pv (enc ex2)) := purAt_eval (n := 100000) cfgOk (by kernel_rfl)
def ex3 : D := dlist [dsym ⟨#[97, 112, 112]⟩, dlist [dsym ⟨#[102, 110]⟩, dsym ⟨#[102]⟩, dsym ⟨#[120]⟩, dsym ⟨#[120]⟩], dnum 1]
theorem c_read3 : PurAt Tryz.prog ⟨(GL kr), [], []⟩ 68 [.pv (.str ⟨#[40, 97, 112, 112, 32, 40, 102, 110, 32, 102, 32, 120, 32, 120, 41, 32, 49, 41]⟩)] (.pv (enc ex3)) := purAt_eval (n := 100000) cfgOk (by kernel_rfl)
def ex4 : D := dlist [dsym ⟨#[102, 110]⟩, dsym ⟨#[120, 46, 48]⟩, dsym ⟨#[120, 46, 49]⟩, dlist [dsym ⟨#[108, 101, 116]⟩, dsym ⟨#[120, 46, 50]⟩, dlist [dsym ⟨#[43]⟩, dsym ⟨#[120, 46, 49]⟩, dnum 1], dlist [dsym ⟨#[97, 112, 112]⟩, dsym ⟨#[120, 46, 48]⟩, dsym ⟨#[120, 46, 50]⟩]]]
theorem c_read4 : PurAt Tryz.prog ⟨(GL kr), [], []⟩ 68 [.pv (.str ⟨#[40, 102, 110, 32, 120, 46, 48, 32, 120, 46, 49, 32, 40, 108, 101, 116, 32, 120, 46, 50, 32, 40, 43, 32, 120, 46, 49, 32, 49, 41, 32, 40, 97, 112, 112, 32, 120, 46, 48, 32, 120, 46, 50, 41, 41, 41]⟩)] (.pv (enc ex4)) := purAt_eval (n := 100000) cfgOk (by kernel_rfl)
def ex5 : D := dlist [dsym ⟨#[43]⟩, dlist [dsym ⟨#[108, 105, 102, 116]⟩, dnum 1], dlist [dsym ⟨#[108, 105, 102, 116]⟩, dnum 2]]
theorem c_read5 : PurAt Tryz.prog ⟨(GL kr), [], []⟩ 68 [.pv (.str ⟨#[40, 43, 32, 40, 108, 105, 102, 116, 32, 49, 41, 32, 40, 108, 105, 102, 116, 32, 50, 41, 41]⟩)] (.pv (enc ex5)) := purAt_eval (n := 100000) cfgOk (by kernel_rfl)
def ex6 : D := dlist [dsym ⟨#[97, 112, 112]⟩, dnum 1]
theorem c_read6 : PurAt Tryz.prog ⟨(GL kr), [], []⟩ 68 [.pv (.str ⟨#[40, 97, 112, 112, 32, 49, 41]⟩)] (.pv (enc ex6)) := purAt_eval (n := 100000) cfgOk (by kernel_rfl)
theorem ex_plain : mplain ex1 = (ex4, 0) := by kernel_rfl
theorem ex_lifted : mlifted ex2 = (ex5, 0) := by kernel_rfl
theorem ex_check3 : mcheck ex3 = 0 := by kernel_rfl
theorem ex_size3 : mcount pSize ex3 = 4 := by kernel_rfl
theorem ex_check6 : mcheck ex6 = 4 := by kernel_rfl
theorem ex_sizes : ex1.size ≤ 100 ∧ ex2.size ≤ 100 ∧ ex3.size ≤ 100 ∧ ex4.size ≤ 100 ∧ ex5.size ≤ 100 ∧ ex6.size ≤ 100 := ⟨Nat.le_of_ble_eq_true (by kernel_rfl), Nat.le_of_ble_eq_true (by kernel_rfl), Nat.le_of_ble_eq_true (by kernel_rfl), Nat.le_of_ble_eq_true (by kernel_rfl), Nat.le_of_ble_eq_true (by kernel_rfl), Nat.le_of_ble_eq_true (by kernel_rfl)⟩
end Go.Proofs.YtmpofjiokpeegaaGreatDoor
