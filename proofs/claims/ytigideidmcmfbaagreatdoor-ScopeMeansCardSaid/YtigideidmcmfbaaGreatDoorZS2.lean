/- Part of the proof that the statement holds for every input that its row lets in: the contracts of the program's functions, printed by a program out of annotations; the statement itself stands at the end of the last part. -/
import Derived.Test.YtigideidmcmfbaaGreatDoorZS1
import Derived.Test.YtigideidmcmfbaaGreatDoorZA3
import Derived.Test.YtigideidmcmfbaaGreatDoorZA4
import Derived.Shelf.LaysM
import Derived.Shelf.LaysC
import Derived.Shelf.Strconv.Itoa4
set_option linter.unusedSimpArgs false
set_option linter.unusedVariables false
namespace Go.Proofs.YtigideidmcmfbaaGreatDoor
open Go Go.Aw
variable {kr : KR}
set_option maxHeartbeats 1000000 in
theorem ykC (l : List (ByteArray × ByteArray)) (x : ByteArray) : Pur Tryz.prog (GL kr) 118 [.pv ((yH PV.str) l), .pv (.str x)] (.tuple [.pv (((zl l x).map PV.str).getD (.str ⟨#[]⟩)), .pv (.bool (zl l x).isSome)]) := by
 have h0l : yH PV.str l = yH PV.str (l.drop 0) := rfl
 refine yB fun σ hgl => ?_
 refine yk tyOk Tryz.func118 rfl (by simp [Tryz.f118]) ?_
 refine sS ?_
 refine ya (yh (yq σ.objs.length σ.toks.length 0 [1, 4, 5] (fun k : Nat => [(0, .pv ((yH PV.str) (l.drop k)))]) (fun k => σ) (fun k => k ≤ l.length ∧ NotYet (fun y : ByteArray × ByteArray => decide (y.1 = x)) l k) (fun k => l.length - k) 0 (⟨Nat.zero_le _, .zero⟩) ⟨by simp [go_sem, List.drop_zero], rfl, by simp, by simp, by simp [go_sem, List.drop_zero], fun ob h => .inl (by simpa [go_sem, List.drop_zero] using h), by simp [go_sem]⟩ ?_))
 rintro k ⟨hk, hn⟩
 refine ya (sG ?_)
 refine aT 1 ?_
 refine ycR tyOk (decide (k < l.length)) rfl rfl rfl rfl (ydZ PV.str l k) rfl rfl ?_
 refine ye (aC (fun h0 => ?_) (fun h0 => ?_))
 ·have hlt : k < l.length := by simpa using h0
  obtain ⟨y, hy, hym⟩ := ym hlt
  have hyc := ybA PV.str hy
  refine yg (ya (yh (sA (by simp [go_sem, hyc] <;> rfl) ?_)))
  refine yc (by first | rfl | (simp [go_sem, hyc] <;> rfl)) (fun h1 => ?_) (fun h1 => ?_)
  ·refine ya (aS ?_)
   refine yd (yi (yf (yf (yi (yf ?_)))))
   have hM := ydN hn hy h1
   refine eR ?_
   exact ⟨by rw [hM]; simp [go_sem], by simp [go_sem]⟩
  ·refine yg (aS ?_)
   exact yx (k + 1) σ.objs.length σ.toks.length 0 (⟨hlt, hn.succ hy h1⟩) (by omega) ⟨by simp [go_sem], rfl, by simp, by simp, by simp [go_sem], fun ob h => .inl (by simpa [go_sem, hyc] using h), by simp [go_sem]⟩
 ·have hke : k = l.length := by simp at h0; omega
  subst hke
  have hany := hn.any
  refine yp (yj (yj (yl (sS ?_))))
  refine sS ?_
  refine yd ?_
  have hM := yeG hany
  refine eR ?_
  exact ⟨by rw [hM]; simp [go_sem], by simp [go_sem]⟩

set_option maxHeartbeats 1000000 in
theorem ZO (l : List (ByteArray × ByteArray)) (ns : List ByteArray) (bs : List ByteArray) (hb : bs.length = ns.length) (hn : ns.length ≤ 1000000000) : Pur Tryz.prog (GL kr) 117 [.pv ((yH PV.str) l), .pv (.slice (ns.map .str)), .pv (.slice (bs.map PV.str))] (.pv ((yH PV.str) (yw l ns bs))) := by
 refine yB fun σ hgl => ?_
 refine yk tyOk Tryz.func117 rfl (by simp [Tryz.f117]) ?_
 refine sS ?_
 refine ya (sS ?_)
 refine yh (yq σ.objs.length σ.toks.length 0 [2, 6, 9, 10] (fun k : Nat => [(0, .pv (yH PV.str (yw l (ns.take k) (bs.take k)))), (11, .pv (.int .i64 ↑k))]) (fun k => σ) (fun k => k ≤ ns.length) (fun k => ns.length - k) 0 (Nat.zero_le _) ⟨by simp [go_sem, List.take_zero, yw, List.zip_nil_right, List.reverse_nil, List.nil_append], rfl, by simp, by simp, by simp [go_sem, List.take_zero, yw, List.zip_nil_right, List.reverse_nil, List.nil_append], fun ob h => .inl (by simpa [go_sem, List.take_zero, yw, List.zip_nil_left, List.zip_nil_right, List.reverse_nil, List.nil_append] using h), by simp [go_sem]⟩ ?_)
 intro k hk
 refine sS ?_
 refine ya (aC (fun h0 => ?_) (fun h0 => ?_))
 ·have hlt : k < ns.length := by simp at h0; omega
  have hw : IntKind.i64.wrap (↑k + 1) = (k : Int) + 1 := yv (by omega)
  obtain ⟨x, hx, hxm⟩ := ym hlt
  obtain ⟨b, hbk, hbm⟩ := ym (l := bs) (k := k) (by omega)
  have hnx : PV.ptr [.str x, .str b, yH PV.str (yw l (ns.take k) (bs.take k))] = yH PV.str (yw l (ns.take (k + 1)) (bs.take (k + 1))) := ygn PV.str hx hbk
  refine yg (ya (yh (sA (by simp [go_sem, hx] <;> rfl) ?_)))
  refine yD (sh := [23]) tyOk (by simp [go_sem, hbk] <;> rfl) ?_
  have hob : (⟨σ.gl, σ.objs ++ [.box (([.str x, .str b, yH PV.str (yw l (ns.take k) (bs.take k))] : List PV).map .pv)], σ.toks⟩ : Store).objs[σ.objs.length]? = some (.box (([.str x, .str b, yH PV.str (yw l (ns.take k) (bs.take k))] : List PV).map .pv)) := by simp
  refine ybi 0 [2, 6, 9, 10, 11] σ (ob := σ.objs.length) (ps := [.str x, .str b, yH PV.str (yw l (ns.take k) (bs.take k))]) (by simp [go_sem]) (by simp [go_sem]) (by simp [go_sem]) (Nat.le_refl _) (Nat.le_refl _) (by simp [go_sem]) (fun ob h => .inl h) (by simp [go_sem]) ?_
  rw [hnx]
  refine aS ?_
  exact yx (k + 1) σ.objs.length σ.toks.length 0 (hlt) (by omega) ⟨by simp [go_sem], rfl, by simp, by simp, by simp [go_sem, hw], fun ob h => .inl (by simpa [go_sem, hx, hbk, hw] using h), by simp [go_sem]⟩
 ·have hke : k = ns.length := by simp at h0; omega
  subst hke
  have hall := List.take_of_length_le (l := bs) (i := ns.length) (by omega)
  refine yp (yj (yj (yl (sA (by simp [go_sem, hall] <;> rfl) ?_))))
  refine yd (eR ?_)
  exact ⟨by simp [go_sem], by simp [go_sem]⟩

set_option maxHeartbeats 4000000 in
theorem ylJ {S : Type} {U : S → List (Nat × AObj)} {ks : List Nat} {X : List (Nat × AObj)} {ow : Nat} {nf : FuncId} {nc : List AV} {vf : FuncId} {vc : List AV} {nam : D → List Int → List ByteArray → Int → S → List ByteArray × S} {vari : D → List Int → Option ByteArray → S → S} {Ok : D → List Int → Prop} {Good : Nat → S → Prop} (H : WkH Tryz.prog (GL kr) PV.str (.str ⟨#[]⟩) U ks X ow nf nc vf vc nam vari Ok Good) (d : D) : ∀ (hd : d.size ≤ 100000000) (p : List Int) (hp : p.length + 3 * d.size ≤ 400000000) (sc : List (ByteArray × ByteArray)) (m : Nat) (hm : m + ncnt d ≤ 1000000000) (s : S) (σ : Store) (hgl : σ.gl = (GL kr)) (ho : Ok d p) (hg : Good m s) (hU : HasU σ (U s)) (hXU : HasU σ X), ACalls Tryz.prog 126 [.ptr ow 0, .pv (enc d), .pv (wPV p), .pv ((yH PV.str) sc)] σ (fun r σ' => r = .tuple [] ∧ σ' = updS σ (U (wk nam vari d p sc s))) := by
 induction d using D.indS with
 | _ d ih =>
 intro hd p hp sc m hm s σ hgl ho hg hU hXU
 have hwk : σ.objs[ow]? = some (.box [.func (.func nf) nc, .func (.func vf) vc]) := hXU _ H.hw
 have hwl := (List.getElem?_eq_some_iff.1 hwk).1
 have how : ow ∉ ks := H.hX _ H.hw
 have hkl2 : ∀ i, σ.objs.length ≤ i → i ∉ ks := fun i hi hm => by have := H.lt hU hm; omega
 have hAw : ∀ B, (σ.objs ++ B)[ow]? = some (.box [.func (.func nf) nc, .func (.func vf) vc]) := fun B => by rw [List.getElem?_append_left hwl]; exact hwk
 have hsw : ∀ (Y : Store) (s : S), (updS Y (U s)).objs[ow]? = Y.objs[ow]? := fun Y s => H.ne how
 have hmw : ∀ L, (YP ks L)[ow]? = L[ow]? := fun L => Yp how
 have hs0 : ∀ (Y : Store) (s : S), (updS Y (U s)).objs[σ.objs.length]? = Y.objs[σ.objs.length]? := fun Y s => H.ne (hkl2 _ (by omega))
 have hs1 : ∀ (Y : Store) (s : S), (updS Y (U s)).objs[σ.objs.length + 1]? = Y.objs[σ.objs.length + 1]? := fun Y s => H.ne (hkl2 _ (by omega))
 have hs2 : ∀ (Y : Store) (s : S), (updS Y (U s)).objs[σ.objs.length + 2]? = Y.objs[σ.objs.length + 2]? := fun Y s => H.ne (hkl2 _ (by omega))
 have hs4 : ∀ (Y : Store) (s : S), (updS Y (U s)).objs[σ.objs.length + 4]? = Y.objs[σ.objs.length + 4]? := fun Y s => H.ne (hkl2 _ (by omega))
 have hm0 : ∀ L, (YP ks L)[σ.objs.length]? = L[σ.objs.length]? := fun L => Yp (hkl2 _ (by omega))
 have hm1 : ∀ L, (YP ks L)[σ.objs.length + 1]? = L[σ.objs.length + 1]? := fun L => Yp (hkl2 _ (by omega))
 have hm2 : ∀ L, (YP ks L)[σ.objs.length + 2]? = L[σ.objs.length + 2]? := fun L => Yp (hkl2 _ (by omega))
 have hm4 : ∀ L, (YP ks L)[σ.objs.length + 4]? = L[σ.objs.length + 4]? := fun L => Yp (hkl2 _ (by omega))
 have hss : ∀ (Y : Store) (s s2 : S), updS (updS Y (U s)) (U s2) = updS Y (U s2) := fun Y s s2 => H.upd
 have hwc := yar p
 have hkl := D.kids_length_lt d
 have hsl := yZ d
 have hon := yau d
 have hUa : ∀ B, HasU ⟨σ.gl, σ.objs ++ B, σ.toks⟩ (U s) := fun B => hU.app B _
 have hXa : ∀ B, HasU ⟨σ.gl, σ.objs ++ B, σ.toks⟩ X := fun B => hXU.app B _
 have hcut : ∀ (s2 : S) B tk, tk.take σ.toks.length = σ.toks → (updS ⟨σ.gl, σ.objs ++ B, tk⟩ (U s2)).cut σ.objs.length σ.toks.length = updS σ (U s2) := fun s2 B tk htk => ZF (fun q hq => H.ltU hU hq) htk
 refine yiX (H.hcl _ _ _ fun i hi => H.lt hU hi) rfl (by simp [go_sem]) ?_
 refine yk tyOk Tryz.func126 rfl (by simp [Tryz.f126]) ?_
 refine ya (yD (sh := [4, 6, 7]) tyOk (by simp [go_sem, hwc] <;> rfl) ?_)
 refine sG ?_
 refine aT 1 ?_
 refine aG yaJ ((yaI d (by omega)) _ (by exact hgl)) ?_
 refine ye (yh (sS ?_))
 refine yc (by first | rfl | (simp [go_sem, hAw, hsw, hs0, hs1, hs2, hs4, hm0, hm1, hm2, hm4, hmw, yE, hss, hwc, y6] <;> rfl)) (fun h0 => ?_) (fun h0 => ?_)
 ·have hk : yb d = 2 := by simpa using h0
  have hfin := yco nam vari (p := p) (sc := sc) (s := s) hk
  refine sG ?_
  refine aT 3 ?_
  refine aG yka ((ykC sc d.text) _ (by exact hgl)) ?_
  refine aT 5 ?_
  refine ye (yG tyOk tySz 8 (by kernel_rfl) (by decide) ?_)
  refine yo 8 (by simp [go_sem, hAw] <;> rfl) ?_
  refine yF ?_
  refine yy rfl rfl rfl (by simp [go_sem] <;> rfl) H.cv (H.hv d p (zl sc d.text) _ s _ (by omega) (by omega) ho hg hk (by exact hgl) (hUa _) (hXa _)) (by simp [go_sem] <;> rfl) (by simp [go_sem]) (by simp [go_sem, H.nlv]) rfl ?_
  rintro r σ' ⟨rfl, rfl⟩
  refine ye ?_
  first | (show Go.Aw.Ends ty _ _ Go.Exit.normal _) | (simp only [yu]; done) | simp only [yu] | unfold yu
  refine yz (by first | rfl | (simp [go_sem] <;> rfl)) (by first | rfl | simp [go_sem]) ?_
  exact ⟨rfl, by rw [hfin]; first | exact hcut _ _ _ (by simp) | (show Store.cut (updS (updS _ _) _) _ _ = _; rw [hss]; exact hcut _ _ _ (by simp))⟩
 ·have hk2 : yb d ≠ 2 := by simpa using h0
  refine ya (sS ?_)
  refine yc (by first | rfl | (simp [go_sem, hAw, hsw, hs0, hs1, hs2, hs4, hm0, hm1, hm2, hm4, hmw, yE, hss, hwc, y6] <;> rfl)) (fun h1 => ?_) (fun h1 => ?_)
  ·have hk : yb d = 5 ∨ yb d = 9 := by first | exact .inl (by simpa using h1) | exact .inr (by simpa using h1)
   have hlen := hsl.1 (by omega)
   obtain ⟨x2, hx2, hx2m⟩ := ym (l := d.kids) (k := 2) (by omega)
   have hd2 : d2 d.kids = x2 := yC hx2
   have hxs := D.size_kid_lt hx2m
   have hq : subs d = [subL d 2 x2] := by rw [← hd2]; exact yU hk
   have hfin := ycC nam vari (p := p) (sc := sc) (s := s) hk
   have hnc := ycq hk
   rw [hd2] at hfin hnc
   have hqm : subL d 2 x2 ∈ subs d := by rw [hq]; simp
   have ihx := ih (subL d 2 x2) hqm
   simp only [subL] at ihx
   refine yg (yc (b := true) (by simp [go_sem, h1]) (fun h => ?_) (fun h => ?_))
   rotate_left
   ·cases h
   refine sG ?_
   refine aT 1 ?_
   refine aG Yj ((YO d (by omega)) _ (by exact hgl)) ?_
   refine aT 1 ?_
   refine ye (YW tyOk tySz ks 19 (by kernel_rfl) (by decide) ?_)
   refine yo 7 (by simp [go_sem, hm0, hm1, hx2] <;> rfl) ?_
   refine Y8 (by intro o ob ho2 hb2; first | exact (zD ho2 hb2).2 | exact H.mask ho2 hb2) rfl rfl rfl rfl (by simp [go_sem] <;> rfl) y8 ((y7 p [2] (by omega) (by simp) (by simp)) _ (by exact hgl)) (by simp [go_sem] <;> rfl) (by simp [go_sem, ipv]) rfl rfl ?_
   refine yo 9 (by simp [go_sem, hAw, hm0, hm1, hm2, hmw] <;> rfl) ?_
   refine YK (by rintro _ _ ⟨_, rfl⟩ o ob ho2 hb2; exact H.mask ho2 hb2) rfl rfl rfl rfl (by simp [go_sem] <;> rfl) H.cn (H.hn d p (ownS d) (0) _ (s) _ (by omega) (by omega) ho hg (by omega) (.own (by omega)) (by exact hgl) (hUa _) (hXa _)) (by simp [go_sem] <;> rfl) (by simp [go_sem]) (by simp [go_sem, H.nln]) rfl ⟨_, _, rfl, rfl⟩ ?_
   rintro r σ' ⟨rfl, rfl⟩
   refine Y8 (by intro o ob ho2 hb2; first | exact (zD ho2 hb2).2 | exact H.mask ho2 hb2) rfl rfl rfl rfl (by simp [go_sem] <;> rfl) yaY ((ZO (sc) (ownS d) ((nam d p (ownS d) 0 s).1) (H.gl _ _ _ _ _) (by omega)) _ (by exact hgl)) (by simp [go_sem] <;> rfl) (by simp [go_sem]) rfl rfl ?_
   refine yF ?_
   refine yy rfl rfl rfl (by simp [go_sem] <;> rfl) ZI (ihx (by show x2.size ≤ _; omega) (p ++ [2]) (by show _ + 3 * x2.size ≤ _; simp; omega) (yw sc (ownS d) (nam d p (ownS d) 0 s).1) _ (by omega) ((nam d p (ownS d) 0 s).2) _ (by exact hgl) (H.hOk _ _ _ ho hqm) ((H.gn _ _ _ _ _ _ ho hg (.own (by omega)))) (H.has (hUa _)) (H.hasX (hXa _))) (by simp [go_sem] <;> rfl) (by simp [go_sem]) rfl rfl ?_
   rintro r σ' ⟨rfl, rfl⟩
   refine ye ?_
   first | (show Go.Aw.Ends ty _ _ Go.Exit.normal _) | (simp only [yu]; done) | simp only [yu] | unfold yu
   refine yz (by first | rfl | (simp [go_sem] <;> rfl)) (by first | rfl | simp [go_sem]) ?_
   exact ⟨rfl, by rw [hfin]; first | exact hcut _ _ _ (by simp) | (show Store.cut (updS (updS _ _) _) _ _ = _; rw [hss]; exact hcut _ _ _ (by simp))⟩
  ·refine aS ?_
   refine yc (by first | rfl | (simp [go_sem, hAw, hsw, hs0, hs1, hs2, hs4, hm0, hm1, hm2, hm4, hmw, yE, hss, hwc, y6] <;> rfl)) (fun h2 => ?_) (fun h2 => ?_)
   ·have hk : yb d = 5 ∨ yb d = 9 := by first | exact .inl (by simpa using h2) | exact .inr (by simpa using h2)
    have hlen := hsl.1 (by omega)
    obtain ⟨x2, hx2, hx2m⟩ := ym (l := d.kids) (k := 2) (by omega)
    have hd2 : d2 d.kids = x2 := yC hx2
    have hxs := D.size_kid_lt hx2m
    have hq : subs d = [subL d 2 x2] := by rw [← hd2]; exact yU hk
    have hfin := ycC nam vari (p := p) (sc := sc) (s := s) hk
    have hnc := ycq hk
    rw [hd2] at hfin hnc
    have hqm : subL d 2 x2 ∈ subs d := by rw [hq]; simp
    have ihx := ih (subL d 2 x2) hqm
    simp only [subL] at ihx
    refine sG ?_
    refine aT 1 ?_
    refine aG Yj ((YO d (by omega)) _ (by exact hgl)) ?_
    refine aT 1 ?_
    refine ye (YW tyOk tySz ks 19 (by kernel_rfl) (by decide) ?_)
    refine yo 7 (by simp [go_sem, hm0, hm1, hx2] <;> rfl) ?_
    refine Y8 (by intro o ob ho2 hb2; first | exact (zD ho2 hb2).2 | exact H.mask ho2 hb2) rfl rfl rfl rfl (by simp [go_sem] <;> rfl) y8 ((y7 p [2] (by omega) (by simp) (by simp)) _ (by exact hgl)) (by simp [go_sem] <;> rfl) (by simp [go_sem, ipv]) rfl rfl ?_
    refine yo 9 (by simp [go_sem, hAw, hm0, hm1, hm2, hmw] <;> rfl) ?_
    refine YK (by rintro _ _ ⟨_, rfl⟩ o ob ho2 hb2; exact H.mask ho2 hb2) rfl rfl rfl rfl (by simp [go_sem] <;> rfl) H.cn (H.hn d p (ownS d) (0) _ (s) _ (by omega) (by omega) ho hg (by omega) (.own (by omega)) (by exact hgl) (hUa _) (hXa _)) (by simp [go_sem] <;> rfl) (by simp [go_sem]) (by simp [go_sem, H.nln]) rfl ⟨_, _, rfl, rfl⟩ ?_
    rintro r σ' ⟨rfl, rfl⟩
    refine Y8 (by intro o ob ho2 hb2; first | exact (zD ho2 hb2).2 | exact H.mask ho2 hb2) rfl rfl rfl rfl (by simp [go_sem] <;> rfl) yaY ((ZO (sc) (ownS d) ((nam d p (ownS d) 0 s).1) (H.gl _ _ _ _ _) (by omega)) _ (by exact hgl)) (by simp [go_sem] <;> rfl) (by simp [go_sem]) rfl rfl ?_
    refine yF ?_
    refine yy rfl rfl rfl (by simp [go_sem] <;> rfl) ZI (ihx (by show x2.size ≤ _; omega) (p ++ [2]) (by show _ + 3 * x2.size ≤ _; simp; omega) (yw sc (ownS d) (nam d p (ownS d) 0 s).1) _ (by omega) ((nam d p (ownS d) 0 s).2) _ (by exact hgl) (H.hOk _ _ _ ho hqm) ((H.gn _ _ _ _ _ _ ho hg (.own (by omega)))) (H.has (hUa _)) (H.hasX (hXa _))) (by simp [go_sem] <;> rfl) (by simp [go_sem]) rfl rfl ?_
    rintro r σ' ⟨rfl, rfl⟩
    refine ye ?_
    first | (show Go.Aw.Ends ty _ _ Go.Exit.normal _) | (simp only [yu]; done) | simp only [yu] | unfold yu
    refine yz (by first | rfl | (simp [go_sem] <;> rfl)) (by first | rfl | simp [go_sem]) ?_
    exact ⟨rfl, by rw [hfin]; first | exact hcut _ _ _ (by simp) | (show Store.cut (updS (updS _ _) _) _ _ = _; rw [hss]; exact hcut _ _ _ (by simp))⟩
   ·refine ya (aS ?_)
    refine yc (by first | rfl | (simp [go_sem, hAw, hsw, hs0, hs1, hs2, hs4, hm0, hm1, hm2, hm4, hmw, yE, hss, hwc, y6] <;> rfl)) (fun h3 => ?_) (fun h3 => ?_)
    ·have hk : yb d = 6 := by simpa using h3
     have hlen := hsl.2.1 hk
     obtain ⟨x2, hx2, hx2m⟩ := ym (l := d.kids) (k := 2) (by omega)
     have hd2 : d2 d.kids = x2 := yC hx2
     have hxs := D.size_kid_lt hx2m
     obtain ⟨x3, hx3, hx3m⟩ := ym (l := d.kids) (k := 3) (by omega)
     have hd3 : d.kids.getD 3 dnone = x3 := yC hx3
     have hxt := D.size_kid_lt hx3m
     have hq : subs d = [(⟨[2], []⟩, x2), subL d 3 x3] := by rw [← hd2, ← hd3]; exact yM hk
     have hfin := ydU nam vari (p := p) (sc := sc) (s := s) hk
     have hnc := yff hk
     rw [hd2, hd3] at hfin hnc
     have hqm : (⟨[2], []⟩, x2) ∈ subs d := by rw [hq]; simp
     have hqm3 : subL d 3 x3 ∈ subs d := by rw [hq]; simp
     have ihx := ih (⟨[2], []⟩, x2) hqm
     have ihy := ih (subL d 3 x3) hqm3
     simp only [subL] at ihx ihy
     have hg1 := H.gn _ _ _ _ _ _ ho hg (.own (.inr (.inr (.inl hk))))
     refine sG ?_
     refine aT 1 ?_
     refine aG Yj ((YO d (by omega)) _ (by exact hgl)) ?_
     refine aT 1 ?_
     refine ye (ya (yG tyOk tySz 7 (by kernel_rfl) (by decide) ?_))
     refine yo 7 (by simp [go_sem, hAw] <;> rfl) ?_
     refine yF ?_
     refine yy rfl rfl rfl (by simp [go_sem] <;> rfl) H.cn (H.hn d p (ownS d) (0) _ (s) _ (by omega) (by omega) ho hg (by omega) (.own (by omega)) (by exact hgl) (hUa _) (hXa _)) (by simp [go_sem] <;> rfl) (by simp [go_sem]) (by simp [go_sem, H.nln]) rfl ?_
     rintro r σ' ⟨rfl, rfl⟩
     refine aT 1 ?_
     refine ye (ya (yG tyOk tySz 9 (by kernel_rfl) (by decide) ?_))
     refine yo 7 (by simp [go_sem, hs0, hs1, yE, hx2] <;> rfl) ?_
     refine yQ (by first | (intro _ _ hh; exact hh) | simp [go_sem, hss]) rfl rfl rfl rfl (by simp [go_sem] <;> rfl) y8 ((y7 p [2] (by omega) (by simp) (by simp)) _ (by exact hgl)) (by simp [go_sem, yE] <;> rfl) (by simp [go_sem, ipv]) rfl rfl ?_
     refine yo 1 (by simp [go_sem, hs2, yE] <;> rfl) ?_
     refine yF ?_
     refine yy rfl rfl rfl (by simp [go_sem] <;> rfl) ZI (ihx (by show x2.size ≤ _; omega) (p ++ [2]) (by show _ + 3 * x2.size ≤ _; simp; omega) (sc) _ (by omega) ((nam d p (ownS d) 0 s).2) _ (by exact hgl) (H.hOk _ _ _ ho hqm) (hg1) (H.has (hUa _)) (H.hasX (hXa _))) (by simp [go_sem] <;> rfl) (by simp [go_sem]) rfl rfl ?_
     rintro r σ' ⟨rfl, rfl⟩
     refine ye (yG tyOk tySz 12 (by kernel_rfl) (by decide) ?_)
     refine yo 7 (by simp [go_sem, hs0, hs1, yE, hss, hx3] <;> rfl) ?_
     refine yQ (by first | (intro _ _ hh; exact hh) | simp [go_sem, hss]) rfl rfl rfl rfl (by simp [go_sem] <;> rfl) y8 ((y7 p [3] (by omega) (by simp) (by simp)) _ (by exact hgl)) (by simp [go_sem, yE, hss] <;> rfl) (by simp [go_sem, ipv]) rfl rfl ?_
     refine yo 3 (by simp [go_sem, hs2, yE, hss] <;> rfl) ?_
     refine yQ (by first | (intro _ _ hh; exact hh) | simp [go_sem, hss]) rfl rfl rfl rfl (by simp [go_sem] <;> rfl) yaY ((ZO (sc) (ownS d) ((nam d p (ownS d) 0 s).1) (H.gl _ _ _ _ _) (by omega)) _ (by exact hgl)) (by simp [go_sem, yE, hss] <;> rfl) (by simp [go_sem]) rfl rfl ?_
     refine yF ?_
     refine yy rfl rfl rfl (by simp [go_sem] <;> rfl) ZI (ihy (by show x3.size ≤ _; omega) (p ++ [3]) (by show _ + 3 * x3.size ≤ _; simp; omega) (yw sc (ownS d) (nam d p (ownS d) 0 s).1) _ (by omega) (wk nam vari x2 (p ++ [2]) sc (nam d p (ownS d) 0 s).2) _ (by exact hgl) (H.hOk _ _ _ ho hqm3) (H.good _ _ _ _ _ (H.hOk _ _ _ ho hqm) hg1) (H.has (hUa _)) (H.hasX (hXa _))) (by simp [go_sem] <;> rfl) (by simp [go_sem]) rfl rfl ?_
     rintro r σ' ⟨rfl, rfl⟩
     refine ye ?_
     first | (show Go.Aw.Ends ty _ _ Go.Exit.normal _) | (simp only [yu]; done) | simp only [yu] | unfold yu
     refine yz (by first | rfl | (simp [go_sem] <;> rfl)) (by first | rfl | simp [go_sem]) ?_
     exact ⟨rfl, by rw [hfin]; first | exact hcut _ _ _ (by simp) | (show Store.cut (updS (updS _ _) _) _ _ = _; rw [hss]; exact hcut _ _ _ (by simp))⟩
    ·refine ya (aS ?_)
     refine yc (by first | rfl | (simp [go_sem, hAw, hsw, hs0, hs1, hs2, hs4, hm0, hm1, hm2, hm4, hmw, yE, hss, hwc, y6] <;> rfl)) (fun h4 => ?_) (fun h4 => ?_)
     ·have hk : yb d = 7 := by simpa using h4
      have hlen := hsl.1 (by omega)
      obtain ⟨x2, hx2, hx2m⟩ := ym (l := d.kids) (k := 2) (by omega)
      have hd2 : d2 d.kids = x2 := yC hx2
      have hxs := D.size_kid_lt hx2m
      obtain ⟨x1, hx1, hx1m⟩ := ym (l := d.kids) (k := 1) (by omega)
      have hd1 : d1 d.kids = x1 := yC hx1
      have hx1s := D.size_kid_lt hx1m
      have hx1l := D.kids_length_lt x1
      have hrk := hsl.2.2 hk
      have hrl := zR hk
      have hra := fun (i : Nat) (x : D) => zB (d := d) (i := i) (x := x) hk
      have hfr := Y3 x1.kids
      have hszk := D.size_kids x1
      rw [hd1, hd2] at hrl
      rw [hd1] at hra hrk
      have hfin := ydW nam vari (p := p) (sc := sc) (s := s) hk
      have hnc := yfc hk
      have hncm := yiL d
      have hncx := fun (k : Nat) (x : D) => yc4 (d := d) (k := k) (x := x)
      rw [hd1, hd2] at hfin
      rw [hd1, hd2] at hnc
      rw [hd1] at hncm hncx
      have ihx := ih (subL d 2 x2) (List.mem_of_getElem? hrl.1)
      simp only [subL] at ihx
      have hg1 := H.gn _ _ _ _ _ _ ho hg (.own (.inr (.inr (.inr hk))))
      have hol : (ownS d).length = x1.kids.length := by unfold ownS; rw [hk, hd1]; simp
      refine sG ?_
      refine aT 1 ?_
      refine aG Yj ((YO d (by omega)) _ (by exact hgl)) ?_
      refine aT 1 ?_
      refine ye (ya (YW tyOk tySz ks 10 (by kernel_rfl) (by decide) ?_))
      refine yo 9 (by simp [go_sem, hAw, hm0, hm1, hm2, hmw] <;> rfl) ?_
      refine YK (by rintro _ _ ⟨_, rfl⟩ o ob ho2 hb2; exact H.mask ho2 hb2) rfl rfl rfl rfl (by simp [go_sem] <;> rfl) H.cn (H.hn d p (ownS d) (0) _ (s) _ (by omega) (by omega) ho hg (by omega) (.own (by omega)) (by exact hgl) (hUa _) (hXa _)) (by simp [go_sem] <;> rfl) (by simp [go_sem]) (by simp [go_sem, H.nln]) rfl ⟨_, _, rfl, rfl⟩ ?_
      rintro r σ' ⟨rfl, rfl⟩
      refine yF ?_
      refine aG yaY ((ZO (sc) (ownS d) ((nam d p (ownS d) 0 s).1) (H.gl _ _ _ _ _) (by omega)) _ (by exact hgl)) ?_
      refine aT 1 ?_
      refine ye (sS ?_)
      refine ya (sA (by simp [go_sem, hx1] <;> rfl) ?_)
      refine yh (yN 1 [4, 5, 6, 7, 14, 133, 134] (fun i : Nat => [(15, .pv (.int .i64 (yR x1.kids i))), (135, .pv (.int .i64 (i : Int)))]) (fun i => updS (⟨σ.gl, σ.objs ++ [.box [.ptr ow 0], .box [.pv (wPV p)], .box [.pv ((yH PV.str) sc)]], σ.toks⟩ : Store) (U (wkd nam vari d p (yw sc (ownS d) (nam d p (ownS d) 0 s).1) i (nam d p (ownS d) 0 s).2))) (fun i => i ≤ x1.kids.length) (fun i => x1.kids.length - i) 0 (Nat.zero_le _) ⟨rfl, rfl, by simp [go_sem, yaV, hol], by simp [go_sem]⟩ ?_)
      intro i hi
      refine sS ?_
      refine ya (yc (by first | rfl | (simp [go_sem, hAw, hsw, hs0, hs1, hs2, hs4, hm0, hm1, hm2, hm4, hmw, yE, hss, hwc, y6, hx1, hx2] <;> rfl)) (fun h5 => ?_) (fun h5 => ?_))
      ·have hlt : i < x1.kids.length := by simp at h5; omega
       obtain ⟨x, hx, hxm⟩ := ym hlt
       have hl3 := hrk x hxm
       obtain ⟨y1, hy1, hy1m⟩ := ym (l := x.kids) (k := 1) (by omega)
       obtain ⟨y2, hy2, hy2m⟩ := ym (l := x.kids) (k := 2) (by omega)
       have hyd1 : d1 x.kids = y1 := yC hy1
       have hyd2 : d2 x.kids = y2 := yC hy2
       have hz0 := D.size_kid_lt hxm
       have hz1 := D.size_kid_lt hy1m
       have hz2 := D.size_kid_lt hy2m
       have hz3 := D.kids_length_lt y1
       have hpx : parS x = y1.kids.map D.text := by unfold parS; rw [hyd1]
       have hpl : (parS x).length = y1.kids.length := by rw [hpx, List.length_map]
       have hqi := hra i x hx
       have ihi := ih (subR d i x) (List.mem_of_getElem? hqi)
       simp only [subR, hyd2] at ihi
       have hf1 := Z2 hx
       have hnc1 := hncx i x hx
       have hnc2 := hncm (i + 1)
       rw [hyd2] at hnc1
       have hf2 := hfr i (by omega)
       have hf3 := hfr (i + 1) (by omega)
       have hw2 : IntKind.i64.wrap (yR x1.kids i + ((parS x).length : Int)) = yR x1.kids (i + 1) := by rw [hf1]; exact yO (by omega) (by omega)
       have hgi := H.goodD (inn := yw sc (ownS d) (nam d p (ownS d) 0 s).1) hk ho hg1 i (by rw [hd1]; omega)
       have hnx := yaj nam vari (p := p) (inn := yw sc (ownS d) (nam d p (ownS d) 0 s).1) (s := (nam d p (ownS d) 0 s).2) (by rw [hd1]; exact hx)
       rw [hd1, hyd2] at hnx
       have hgi2 := H.gn _ _ _ _ _ _ ho hgi (.par hk (by rw [hd1]; exact hx))
       rw [hd1] at hgi2
       have hw : IntKind.i64.wrap ((i : Int) + 1) = (i : Int) + 1 := yv (by omega)
       refine yg (ya (yh (sA (by simp [go_sem, hx] <;> rfl) ?_)))
       refine sG ?_
       refine aL 5 (by simp [go_sem, hy1] <;> rfl) ?_
       refine aG ZQ ((ZJ y1.kids (by omega)) _ (by exact hgl)) ?_
       refine aL 1 (by simp [go_sem, ← hpx] <;> rfl) ?_
       refine ye (ya (YW tyOk tySz ks 21 (by kernel_rfl) (by decide) ?_))
       refine yo 8 (by simp [go_sem, hs0, hs1, hm0, hm1, yE, hy2] <;> rfl) ?_
       refine Y8 (by intro o ob ho2 hb2; first | exact (zD ho2 hb2).2 | exact H.mask ho2 hb2) rfl rfl rfl rfl (by simp [go_sem] <;> rfl) y8 ((y7 p [1, (i : Int), 2] (by omega) (by simp) (by simp)) _ (by exact hgl)) (by simp [go_sem, yE] <;> rfl) (by simp [go_sem, ipv]) rfl rfl ?_
       refine yo 10 (by simp [go_sem, hAw, hsw, hs0, hs1, hm0, hm1, hmw, yE] <;> rfl) ?_
       refine YK (by rintro _ _ ⟨_, rfl⟩ o ob ho2 hb2; exact H.mask ho2 hb2) rfl rfl rfl rfl (by simp [go_sem, yE] <;> rfl) H.cn (H.hn d p (parS x) (yR x1.kids i) _ (wkd nam vari d p (yw sc (ownS d) (nam d p (ownS d) 0 s).1) i (nam d p (ownS d) 0 s).2) _ (by omega) (by omega) ho hgi (by omega) (by have := NmOk.par hk (by rw [hd1]; exact hx); rw [hd1] at this; exact this) (by exact hgl) (H.has (hUa _)) (H.hasX (hXa _))) (by simp [go_sem, yE] <;> rfl) (by simp [go_sem]) (by simp [go_sem, H.nln]) rfl ⟨_, _, rfl, rfl⟩ ?_
       rintro r σ' ⟨rfl, rfl⟩
       refine Y8 (by intro o ob ho2 hb2; first | exact (zD ho2 hb2).2 | exact H.mask ho2 hb2) rfl rfl rfl rfl (by simp [go_sem] <;> rfl) yaY ((ZO (yw sc (ownS d) (nam d p (ownS d) 0 s).1) (parS x) ((nam d p (parS x) (yR x1.kids i) (wkd nam vari d p (yw sc (ownS d) (nam d p (ownS d) 0 s).1) i (nam d p (ownS d) 0 s).2)).1) (H.gl _ _ _ _ _) (by omega)) _ (by exact hgl)) (by simp [go_sem, yE] <;> rfl) (by simp [go_sem]) rfl rfl ?_
       refine yF ?_
       refine yy rfl rfl rfl (by simp [go_sem] <;> rfl) ZI (ihi (by show y2.size ≤ _; omega) (p ++ [1, (i : Int), 2]) (by show _ + 3 * y2.size ≤ _; simp; omega) (yw (yw sc (ownS d) (nam d p (ownS d) 0 s).1) (parS x) (nam d p (parS x) (yR x1.kids i) (wkd nam vari d p (yw sc (ownS d) (nam d p (ownS d) 0 s).1) i (nam d p (ownS d) 0 s).2)).1) _ (by omega) ((nam d p (parS x) (yR x1.kids i) (wkd nam vari d p (yw sc (ownS d) (nam d p (ownS d) 0 s).1) i (nam d p (ownS d) 0 s).2)).2) _ (by exact hgl) (by have := H.hOk _ _ _ ho (List.mem_of_getElem? hqi); simp only [subR, hyd2] at this; exact this) (hgi2) (H.has (H.has (hUa _))) (H.hasX (H.hasX (hXa _)))) (by simp [go_sem, hss] <;> rfl) (by simp [go_sem]) rfl rfl ?_
       rintro r σ' ⟨rfl, rfl⟩
       refine ye (aR (by simp [go_sem, hss, hw2] <;> rfl) ?_)
       refine aS ?_
       exact ⟨(i + 1), (by show i + 1 ≤ _; omega), (by show x1.kids.length - (i + 1) < x1.kids.length - i; omega), (by show updS _ (U (wkd nam vari d p _ (i + 1) _)) = _; rw [hnx]; first | done | rfl | exact hss _ _ _ | simp [hss]), rfl, by simp [go_sem, hw], by simp [go_sem]⟩
      ·have hke : i = x1.kids.length := by simp at h5; omega
       subst hke
       refine yp (yj (yj (yl (yG tyOk tySz 9 (by kernel_rfl) (by decide) ?_))))
       refine yo 7 (by simp [go_sem, hs0, hs1, yE, hx2] <;> rfl) ?_
       refine yQ (by first | (intro _ _ hh; exact hh) | simp [go_sem, hss]) rfl rfl rfl rfl (by simp [go_sem] <;> rfl) y8 ((y7 p [2] (by omega) (by simp) (by simp)) _ (by exact hgl)) (by simp [go_sem, yE] <;> rfl) (by simp [go_sem, ipv]) rfl rfl ?_
       refine yo 1 (by simp [go_sem, yE] <;> rfl) ?_
       refine yF ?_
       refine yy rfl rfl rfl (by simp [go_sem] <;> rfl) ZI (ihx (by show x2.size ≤ _; omega) (p ++ [2]) (by show _ + 3 * x2.size ≤ _; simp; omega) (yw sc (ownS d) (nam d p (ownS d) 0 s).1) _ (by omega) (wkd nam vari d p (yw sc (ownS d) (nam d p (ownS d) 0 s).1) x1.kids.length (nam d p (ownS d) 0 s).2) _ (by exact hgl) (H.hOk _ _ _ ho (List.mem_of_getElem? hrl.1)) (H.goodD hk ho hg1 _ (by rw [hd1]; exact Nat.le_refl _)) (H.has (hUa _)) (H.hasX (hXa _))) (by simp [go_sem] <;> rfl) (by simp [go_sem]) rfl rfl ?_
       rintro r σ' ⟨rfl, rfl⟩
       refine ye ?_
       first | (show Go.Aw.Ends ty _ _ Go.Exit.normal _) | (simp only [yu]; done) | simp only [yu] | unfold yu
       refine yz (by first | rfl | (simp [go_sem] <;> rfl)) (by first | rfl | simp [go_sem]) ?_
       exact ⟨rfl, by rw [hfin]; first | exact hcut _ _ _ (by simp) | (show Store.cut (updS (updS _ _) _) _ _ = _; rw [hss]; exact hcut _ _ _ (by simp))⟩
     ·have hkk : yb d ≠ 5 ∧ yb d ≠ 9 ∧ yb d ≠ 6 ∧ yb d ≠ 7 := by simp_all
      have hkk2 : yb d ≠ 2 ∧ yb d ≠ 5 ∧ yb d ≠ 9 ∧ yb d ≠ 6 ∧ yb d ≠ 7 := ⟨hk2, hkk⟩
      refine sG ?_
      refine aT 1 ?_
      refine yy rfl rfl rfl (by simp [go_sem] <;> rfl) yca (yaO d _) (by simp [go_sem] <;> rfl) (by simp [go_sem]) rfl rfl ?_
      rintro r σ' ⟨rfl, rfl⟩
      refine ye (yh (Y9 [4, 6, 7] (by simp [go_sem] <;> rfl) ycb (by simp [go_sem]) (by simp [go_sem, YH]) (by decide) fun l => ?_))
      refine Z6 ?_
      intro ST hST
      simp only [go_sem, YH, List.map_cons, List.map_nil, List.append_assoc, List.cons_append, List.nil_append] at hST
      have hST2 : ST = ⟨σ.gl, ST.objs, σ.toks⟩ := by rw [hST]
      have hglS : ST.gl = σ.gl := by rw [hST]
      have hts : ST.toks = σ.toks := by rw [hST]
      have hlow : ST.objs.take σ.objs.length = σ.objs := by rw [hST]; simp [go_sem]
      have hlen : ST.objs.length = σ.objs.length + 5 := by rw [hST]; simp [go_sem]
      have f0 : ST.objs[σ.objs.length]? = some (.box [.ptr ow 0]) := by rw [hST]; simp [go_sem]
      have f1 : ST.objs[σ.objs.length + 1]? = some (.box [.pv (wPV p)]) := by rw [hST]; simp [go_sem]
      have f2 : ST.objs[σ.objs.length + 2]? = some (.box [.pv ((yH PV.str) sc)]) := by rw [hST]; simp [go_sem]
      have f3 : ST.objs[σ.objs.length + 3]? = some (.box [.pv (.int .i64 d.kind), .pv (.int .i64 d.num), .pv (.str d.text), .pv (.slice (d.kids.map enc))]) := by rw [hST]; simp [go_sem]
      have hUS : HasU ST (U s) := by rw [hST]; exact hUa _
      have hXS : HasU ST X := by rw [hST]; exact hXa _
      obtain ⟨BT, hBT⟩ : ∃ BT, ST.objs = σ.objs ++ BT := ⟨_, by rw [hST]⟩
      obtain ⟨T0, ps0, as0, bd0, hL⟩ : ∃ T0 ps0 as0 bd0, ST.objs[σ.objs.length + 4]? = some (.loop l .ready none T0 183 ps0 as0 bd0) := ⟨_, _, _, _, by rw [hST]; exact yao⟩
      have hround : ∀ (i : Nat) (τ : Store) (q : Sub × D), (subs d)[i]? = some q → (τ = updS ST (U (wks nam vari d p sc i s))) → ACallsY Tryz.prog l [.pv (.slice (ipv q.1.p)), .pv (enc q.2)] τ fun r τ' => (r = .pv (.bool true) ∧ τ' = updS ST (U (wks nam vari d p sc (i + 1) s))) ∨ (r = .pv (.bool false) ∧ False) := by
       rintro i τ q hq hτ
       rw [hτ]
       have hqm : q ∈ subs d := List.mem_of_getElem? hq
       have hqs := Ys hqm
       have hqp := Yc hqm
       rw [yai nam vari hq]
       have hmi : m + ncs d i + ncnt q.2 ≤ 1000000000 := by have h1 := ycW hq; have h2 := yjl d (i + 1); have h3 := ybI hkk; omega
       have hgR := H.goodS (sc := sc) ho hg i (Nat.le_of_lt (List.getElem?_eq_some_iff.1 hq).1)
       generalize wks nam vari d p sc i s = R at hgR ⊢
       have e0 : (updS ST (U R)).objs[σ.objs.length]? = some (.box [.ptr ow 0]) := (hs0 _ _).trans f0
       have e1 : (updS ST (U R)).objs[σ.objs.length + 1]? = some (.box [.pv (wPV p)]) := (hs1 _ _).trans f1
       have e2 : (updS ST (U R)).objs[σ.objs.length + 2]? = some (.box [.pv ((yH PV.str) sc)]) := (hs2 _ _).trans f2
       have eL := (hs4 ST R).trans hL
       have hUR := yas (ob := .loop l .busy none T0 183 ps0 as0 bd0) (H.has (s' := R) hUS) (i := σ.objs.length + 4) (by rw [H.hks]; exact hkl2 _ (by omega))
       have hXR := yas (ob := .loop l .busy none T0 183 ps0 as0 bd0) (H.hasX (s' := R) hXS) (i := σ.objs.length + 4) (by intro hm; obtain ⟨q, hq, e⟩ := List.mem_map.1 hm; have := hXU.lt hq; omega)
       refine Z7 (o := σ.objs.length + 4) ((H.ne (hkl2 (σ.objs.length + 4) (by omega))).trans (by rw [hST]; exact yao)) rfl rfl ?_
       refine sS ?_
       refine aS ?_
       refine ⟨_, _, _, _, _, _, Eq.trans (b := some (.loop l .ready none T0 183 ps0 as0 bd0)) (by simp [go_sem, hs4, hL]) rfl, ?_⟩
       refine yh (yG tyOk tySz 6 (by kernel_rfl) (by decide) ?_)
       refine yo 4 (by simp [go_sem, hs0, hs1, yE, y6, f0, f1, y6] <;> rfl) ?_
       refine yQ (by first | (intro _ _ hh; exact hh) | simp [go_sem, hss]) rfl rfl rfl rfl (by simp [go_sem] <;> rfl) y8 ((y7 p q.1.p (by omega) (by omega) hqp.1) _ (by exact hglS.trans hgl)) (by simp [go_sem, yE, y6, y6] <;> rfl) (by simp [go_sem]) rfl rfl ?_
       refine yo 1 (by simp [go_sem, hs2, yE, y6, f2, y6] <;> rfl) ?_
       refine yF ?_
       refine yy rfl rfl rfl (by simp [go_sem] <;> rfl) ZI (ih q hqm (by omega) (p ++ q.1.p) (by rw [List.length_append]; omega) sc _ hmi R _ (by exact hglS.trans hgl) (H.hOk _ _ _ ho hqm) hgR hUR hXR) (by simp [go_sem] <;> rfl) (by simp [go_sem]) rfl rfl ?_
       rintro r σ' ⟨rfl, rfl⟩
       refine ye (⟨_, _, _, _, _, _, Eq.trans (b := some (.loop l .busy none T0 183 ps0 as0 bd0)) (by simp [go_sem, hs4, hL, Zn]) rfl, ?_⟩)
       refine .inl ⟨rfl, ?_⟩
       exact (yfs (X := updS ST (U R)) (by rw [H.hks]; exact hkl2 _ (by omega)) eL).trans (hss _ _ _)
      refine (ACalls.args (yaK d (by omega) (σ.objs.length + 3) l (fun i τ => τ = updS ST (U (wks nam vari d p sc i s))) (fun _ => False) (fun i τ h => by rw [h]; exact hglS.trans hgl) (fun i τ h => by rw [h]; exact (H.ne (hkl2 _ (by omega))).trans f3) hround ST (YX hUS).symm) (by simp [go_sem])).mono ?_
      rintro _ τ' (hτ | ⟨⟨⟩⟩)
      ·rw [hτ, ycv nam vari hkk2]
       have eL2 := (hs4 ST (wk nam vari d p sc s)).trans hL
       refine ⟨_, _, _, _, _, _, _, Eq.trans (b := some (.loop l .ready none T0 183 ps0 as0 bd0)) (by simp [go_sem, hs4, hL]) rfl, by decide, ?_⟩
       first | (show Go.Aw.Ends ty _ _ Go.Exit.normal _) | (simp only [yu]; done) | simp only [yu] | unfold yu
       refine yz (by first | rfl | (simp [go_sem] <;> rfl)) (by first | rfl | simp [go_sem]) ?_
       refine ⟨rfl, ?_⟩
       refine ydv (by first | omega | (simp [go_sem]; done) | (simp [go_sem]; omega)) ?_
       rw [hST2, hBT]
       exact hcut _ _ _ (by simp)

end Go.Proofs.YtigideidmcmfbaaGreatDoor

namespace Go.Proofs.YtigideidmcmfbaaGreatDoor
open Go Go.Aw
variable {kr : KR}
set_option maxHeartbeats 1000000 in
theorem ykW (σ : Store) : zJ Tryz.prog σ 127 [.pv (.slice [])] (.pv (.slice [])) := by
 refine Y1 ?_
 refine yk tyOk Tryz.func127 rfl (by simp [Tryz.f127]) ?_
 refine sS ?_
 refine ya (sG ?_)
 refine aT 1 ?_
 refine yf7 tyOk (xs := []) rfl rfl rfl rfl (by simp [go_sem] <;> rfl) rfl rfl ?_
 intro b hb
 refine ye (aC (fun h0 => ?_) (fun h0 => ?_))
 ·refine ya (aS ?_)
  refine yd (yf (eR ?_))
  exact ⟨by simp [go_sem], by simp [go_sem]⟩
 ·refine yg (sS ?_)
  refine yd (eR ?_)
  exact ⟨by simp [go_sem], by simp [go_sem]⟩

set_option maxHeartbeats 1000000 in
theorem ymG (l : List D) (hne : l ≠ []) (hl : l.length ≤ 100000000) (σ : Store) : ACalls Tryz.prog 127 [.pv (.slice (l.map enc))] σ (fun r σ' => r = .sl σ.objs.length 0 l.length ∧ σ' = { σ with objs := σ.objs ++ [.arr ((flat (l.map enc)).map .pv)] }) := by
 refine yk tyOk Tryz.func127 rfl (by simp [Tryz.f127]) ?_
 refine sS ?_
 refine ya (sG ?_)
 refine aT 1 ?_
 refine yf7 tyOk (xs := (l.map enc)) rfl rfl rfl rfl (by simp [go_sem] <;> rfl) rfl rfl ?_
 intro b hb
 refine ye (aC (fun h0 => ?_) (fun h0 => ?_))
 ·exact absurd (hb (by simpa using hne)) (by simp [h0])
 ·refine yg (sG ?_)
  refine aT 2 ?_
  refine yib tyOk (ys := l.map enc) rfl rfl rfl rfl rfl (by simp [go_sem]) (by simp [go_sem]) (by simpa using hne) (yhg l) (by decide) (by simp; omega) rfl rfl ?_
  refine aT 1 ?_
  refine ye (yd (eR ?_))
  exact ⟨by simp [go_sem], by simp [go_sem]⟩

set_option maxHeartbeats 1000000 in
theorem ynW (d : D) (hk : d.kids = []) (σ : Store) : zJ Tryz.prog σ 84 [.pv (enc d)] (.pv (enc d)) := by
 have hd : enc d = .agg [.int .i64 d.kind, .int .i64 d.num, .str d.text, .slice []] := by rw [yaM, hk]; rfl
 refine Y1 ?_
 refine yk tyOk Tryz.func84 rfl (by simp [Tryz.f84]) ?_
 refine sA (by simp [go_sem, hd] <;> rfl) ?_
 refine sG ?_
 refine aT 2 ?_
 refine aG yj6 (ykW _) ?_
 refine aT 2 ?_
 refine ye (ya (sS ?_))
 refine yh (YG (za ?_))
 refine sS ?_
 refine ya (yc (b := false) (by simp [go_sem]) (fun h => ?_) (fun h => ?_))
 ·cases h
 refine yp (yj (yj (yl (sS ?_))))
 refine yd (eR ?_)
 exact ⟨by simp [go_sem, hd], by simp [go_sem]⟩

set_option maxHeartbeats 2000000 in
theorem ynZ (d : D) (hne : d.kids ≠ []) (hl : d.kids.length ≤ 100000000) (ih : ∀ x, x ∈ d.kids → ∀ τ : Store, ACalls Tryz.prog 84 [.pv (enc x)] τ (fun r τ' => r = (lay τ.objs.length x).av ∧ τ' = { τ with objs := τ.objs ++ lobjs τ.objs.length x })) (σ : Store) : ACalls Tryz.prog 84 [.pv (enc d)] σ (fun r σ' => r = (lay σ.objs.length d).av ∧ σ' = { σ with objs := σ.objs ++ lobjs σ.objs.length d }) := by
 refine yk tyOk Tryz.func84 rfl (by simp [Tryz.f84]) ?_
 refine sS ?_
 refine sG ?_
 refine aT 2 ?_
 refine yy rfl rfl rfl (by simp [go_sem] <;> rfl) yj6 (ymG d.kids hne hl _) (by simp [go_sem] <;> rfl) (by simp [go_sem]) rfl rfl ?_
 rintro r σ' ⟨rfl, rfl⟩
 refine aT 2 ?_
 refine ye (ya (sS ?_))
 refine yh (yN 2 [1, 2, 10] (fun k : Nat => [(11, .pv (.int .i64 ↑k))]) (fun k => clS σ d.kids k) (fun k => k ≤ d.kids.length) (fun k => d.kids.length - k) 0 (Nat.zero_le _) ⟨(by simp [go_sem, clS, yo9, lobjss, lays, AD.arrss]), rfl, by simp [go_sem], by simp [go_sem]⟩ ?_)
 intro k hk
 refine sS ?_
 refine ya (yc (by first | rfl | (simp [go_sem, ygU] <;> rfl)) (fun h0 => ?_) (fun h0 => ?_))
 ·have hlt : k < d.kids.length := by simp at h0; omega
  have hw : IntKind.i64.wrap (↑k + 1) = (k : Int) + 1 := yv (by omega)
  obtain ⟨x, hx, hxm⟩ := ym hlt
  have hcd := yiq (n := σ.objs.length) hx
  refine yg (ya (yh (sA (by simp [go_sem, hlt] <;> rfl) ?_)))
  refine yG tyOk tySz 9 (by kernel_rfl) (by decide) ?_
  refine yo 8 (by simp [go_sem, ygU, hcd, hlt] <;> rfl) ?_
  refine Yv (by rintro _ _ ⟨_, rfl⟩ o ob ho; exact (List.getElem?_append_left (List.getElem?_eq_some_iff.1 ho).1).trans ho) rfl rfl rfl rfl (by simp [go_sem] <;> rfl) yim (ih x hxm (clS σ d.kids k)) (by simp [go_sem] <;> rfl) (by simp [go_sem]) rfl rfl ⟨_, _, rfl, rfl⟩ ?_
  rintro r σ' ⟨rfl, rfl⟩
  refine yF ?_
  refine aL 1 (by simp [go_sem, hlt] <;> rfl) ?_
  refine yhE tyOk hx rfl rfl rfl rfl rfl (by simp [go_sem]) (by simp [go_sem]) rfl ?_
  refine ye (aS ?_)
  exact ⟨k + 1, hlt, (by show _ - _ < _ - _; omega), rfl, rfl, by simp [go_sem, hw], by simp [go_sem]⟩
 ·have hke : k = d.kids.length := by simp at h0; omega
  subst hke
  refine yp (yj (yj (yl (sS ?_))))
  refine yd (eR ?_)
  exact ⟨by rw [yjt hne]; simp [go_sem], by exact ypj hne⟩

theorem ykn (d : D) (hs : d.size ≤ 100000000) (σ : Store) : ACalls Tryz.prog 84 [.pv (enc d)] σ (fun r σ' => r = (lay σ.objs.length d).av ∧ σ' = { σ with objs := σ.objs ++ lobjs σ.objs.length d }) := by
  induction d using D.ind generalizing σ with
  | _ k n t l ih =>
    by_cases hk : l = []
    · refine (ynW (D.mk k n t l) hk σ).mono ?_
      rintro _ _ ⟨rfl, rfl⟩
      exact ⟨(yjE (d := D.mk k n t l) hk).symm, by rw [yfe, if_pos (by exact hk), List.append_nil]⟩
    · have hl := D.kids_length_lt (D.mk k n t l)
      refine ynZ (D.mk k n t l) hk (by omega) (fun x hx τ => ih x hx ?_ τ) σ
      have := D.size_kid_lt (d := D.mk k n t l) hx
      omega

end Go.Proofs.YtigideidmcmfbaaGreatDoor

namespace Go.Proofs.YtigideidmcmfbaaGreatDoor
open Go Go.Aw
variable {kr : KR}
set_option maxHeartbeats 1000000 in
theorem yqe (d : D) (hd : d.size ≤ 100000000) (n : Int) (h0n : 0 ≤ n) (hnn : n ≤ 1000000000) : Pur Tryz.prog (GL kr) 124 [.pv (enc d), .pv (.int .i64 n)] (.pv (.slice (ipv (zo d n)))) := by
 have hsl := yZ d
 refine yB fun σ hgl => ?_
 refine yk tyOk Tryz.func124 rfl (by simp [Tryz.f124]) ?_
 refine sS ?_
 refine ya (sG ?_)
 refine aT 1 ?_
 refine aG yaJ ((yaI d (by omega)) _ (by exact hgl)) ?_
 refine ye (yh (sS ?_))
 refine aC (fun h0 => ?_) (fun h0 => ?_)
 ·have hk : yb d = 6 := by simpa using h0
  have hP : zo d n = [1] := by unfold zo; rw [hk]; rfl
  refine sS ?_
  refine yd (yi (yf (eR ?_)))
  exact ⟨by simp [go_sem, hP, ipv], by simp [go_sem]⟩
 ·have hk6 : ¬ yb d = 6 := by simpa using h0
  refine sS ?_
  refine aC (fun h1 => ?_) (fun h1 => ?_)
  ·have hk : yb d = 7 := by simpa using h1
   have hlen := hsl.1 (by omega)
   obtain ⟨x1, hx1, hx1m⟩ := ym (l := d.kids) (k := 1) (by omega)
   have hd1 : d1 d.kids = x1 := yC hx1
   have hx1s := D.size_kid_lt hx1m
   have hx1l := D.kids_length_lt x1
   have hrk := hsl.2.2 hk
   rw [hd1] at hrk
   have hw7 : zo d n = (if n < (x1.kids.length : Int) then [1, n, 0] else whrL x1.kids (n - (x1.kids.length : Int)) 0) := by unfold zo; rw [hk, hd1]; rfl
   refine sA (by simp [go_sem, hx1] <;> rfl) ?_
   refine ya (sS ?_)
   refine yc (by first | rfl | (simp [go_sem, hx1] <;> rfl)) (fun h2 => ?_) (fun h2 => ?_)
   ·have hlt0 : n < (x1.kids.length : Int) := by simpa using h2
    have hP : zo d n = [1, n, 0] := by rw [hw7, if_pos hlt0]
    refine sS ?_
    refine yd (yf (yi (yf (eR ?_))))
    exact ⟨by simp [go_sem, hP, ipv], by simp [go_sem]⟩
   ·have hge0 : ¬ n < (x1.kids.length : Int) := by simpa using h2
    rw [if_neg hge0] at hw7
    have hws : IntKind.i64.wrap (n - (x1.kids.length : Int)) = n - (x1.kids.length : Int) := yO (by omega) (by omega)
    refine yg (sA (by simp [go_sem, hws] <;> rfl) ?_)
    refine sS ?_
    refine yh (yq σ.objs.length σ.toks.length 1 [4, 31, 32] (fun q : Nat × Int => [(1, .pv (.int .i64 q.2)), (33, .pv (.int .i64 (q.1 : Int)))]) (fun q => σ) (fun q => q.1 ≤ x1.kids.length ∧ 0 ≤ q.2 ∧ q.2 ≤ 1000000000 ∧ whrL (x1.kids.drop q.1) q.2 q.1 = whrL x1.kids (n - (x1.kids.length : Int)) 0) (fun q => x1.kids.length - q.1) (0, n - (x1.kids.length : Int)) (⟨Nat.zero_le _, by show 0 ≤ n - _; omega, by show n - _ ≤ _; omega, rfl⟩) ⟨by simp [go_sem], rfl, by simp, by simp, by simp [go_sem], fun ob h => .inl (by simpa [go_sem, hx1, hws, hws] using h), by simp [go_sem]⟩ ?_)
    intro q hq
    refine sS ?_
    refine ya (yc (by first | rfl | (simp [go_sem, hx1, hws] <;> rfl)) (fun h3 => ?_) (fun h3 => ?_))
    ·have hlt : q.1 < x1.kids.length := by simp at h3; omega
     obtain ⟨x, hx, hxm⟩ := ym hlt
     have hl3 := hrk x hxm
     have hz0 := D.size_kid_lt hxm
     obtain ⟨y1, hy1, hy1m⟩ := ym (l := x.kids) (k := 1) (by omega)
     have hyd1 : d1 x.kids = y1 := yC hy1
     have hz1 := D.size_kid_lt hy1m
     have hz3 := D.kids_length_lt y1
     have hpl : ((parS x).length : Int) = (y1.kids.length : Int) := by unfold parS; rw [hyd1, List.length_map]
     have hdr : x1.kids.drop q.1 = x :: x1.kids.drop (q.1 + 1) := by rw [List.drop_eq_getElem_cons hlt]; congr 1; exact (List.getElem?_eq_some_iff.1 hx).2
     have hw : IntKind.i64.wrap ((q.1 : Int) + 1) = (q.1 : Int) + 1 := yv (by omega)
     refine yg (ya (yh (sA (by simp [go_sem, hx] <;> rfl) ?_)))
     refine ya (sA (by simp [go_sem, hy1] <;> rfl) ?_)
     refine sS ?_
     refine yc (by first | rfl | (simp [go_sem, hx1, hws, hx, hy1] <;> rfl)) (fun h4 => ?_) (fun h4 => ?_)
     ·have hgn : ((parS x).length : Int) ≤ q.2 := by have h := h4; rw [hpl]; simpa using h
      have hws2 : IntKind.i64.wrap (q.2 - (y1.kids.length : Int)) = q.2 - (y1.kids.length : Int) := yO (by omega) (by omega)
      refine sA (by simp [go_sem, hws2] <;> rfl) ?_
      refine yp (yj (yl (aS ?_)))
      exact yx ((q.1 + 1, q.2 - (y1.kids.length : Int))) σ.objs.length σ.toks.length 1 (⟨hlt, by show 0 ≤ q.2 - _; omega, by show q.2 - _ ≤ _; omega, by show whrL _ (q.2 - _) (q.1 + 1) = _; rw [← hq.2.2.2, hdr, whrL, if_pos hgn, hpl]⟩) (by show x1.kids.length - (q.1 + 1) < x1.kids.length - q.1; omega) ⟨by simp [go_sem], rfl, by simp, by simp, by simp [go_sem, hw], fun ob h => .inl (by simpa [go_sem, hx1, hws, hx, hy1, hws2, hw] using h), by simp [go_sem]⟩
     ·have hgn : ¬ ((parS x).length : Int) ≤ q.2 := by have h := h4; rw [hpl]; simpa using h
      have hP : zo d n = [1, (q.1 : Int), 1, q.2] := by rw [hw7, ← hq.2.2.2, hdr, whrL, if_neg hgn]
      refine yg (sS ?_)
      refine yd (yi (yf (yf (yi (yi (yf (eR ?_)))))))
      exact ⟨by simp [go_sem, hP, ipv], by simp [go_sem]⟩
    ·have hke : q.1 = x1.kids.length := by simp at h3; omega
     have hP : zo d n = [1, q.2] := by rw [hw7, ← hq.2.2.2, hke, List.drop_length]; rfl
     refine yp (yj (yj (yl (sS ?_))))
     refine yd (eR ?_)
     exact ⟨by simp [go_sem, hP, ipv], by simp [go_sem]⟩
  ·have hk7 : ¬ yb d = 7 := by simpa using h1
   have hP : zo d n = [1, n] := by unfold zo; rw [if_neg (by simpa using hk6), if_neg (by simpa using hk7)]
   refine yg (sS ?_)
   refine yd (eR ?_)
   exact ⟨by simp [go_sem, hP, ipv], by simp [go_sem]⟩

theorem ygr {p : List Int} {k : Nat} {i : Int} (h : p[k]? = some i) : (ipv p)[k]? = some (.int .i64 i) := by unfold ipv; rw [List.getElem?_map, h]; rfl
set_option maxHeartbeats 1000000 in
theorem yss (t : AD) (ob : Nat) (σ : Store) : ACalls Tryz.prog 122 [.pv (.nils), .ptr ob 0] σ (fun r σ' => r = .ptr (AD.loc (ob, 0) t []).1 (AD.loc (ob, 0) t []).2 ∧ σ' = σ) := by
 refine yk tyOk Tryz.func122 rfl (by simp [Tryz.f122]) ?_
 refine sS ?_
 refine sS ?_
 refine ya (sS ?_)
 refine yh (YG (za ?_))
 refine sS ?_
 refine ya (yc (b := false) (by simp [go_sem]) (fun h => ?_) (fun h => ?_))
 ·cases h
 refine yp (yj (yj (yl (sS ?_))))
 refine yd (eR ?_)
 exact ⟨by simp [go_sem, AD.loc], by simp [go_sem]⟩

set_option maxHeartbeats 1000000 in
theorem ysD (t u : AD) (p : List Int) (hp : p.length ≤ 1000000000) (ob : Nat) (σ : Store) (hU : HasU σ (Ym ob t)) (hu : t.sub p = some u) : ACalls Tryz.prog 122 [.pv (.slice (ipv p)), .ptr ob 0] σ (fun r σ' => r = .ptr (AD.loc (ob, 0) t p).1 (AD.loc (ob, 0) t p).2 ∧ σ' = σ) := by
 refine yk tyOk Tryz.func122 rfl (by simp [Tryz.f122]) ?_
 refine sS ?_
 refine sS ?_
 refine ya (sA (by simp [go_sem, yA] <;> rfl) ?_)
 refine yh (ycx [3, 7, 8] (fun k : Nat => [(4, .ptr (AD.loc (ob, 0) t (p.take k)).1 (AD.loc (ob, 0) t (p.take k)).2), (9, .pv (.int .i64 ↑k))]) (fun k => σ) (fun k => k ≤ p.length) (fun k => p.length - k) 0 (Nat.zero_le _) ⟨rfl, rfl, by simp [go_sem, AD.loc, List.take_zero]⟩ ?_)
 intro k hk
 refine sS ?_
 refine ya (yc (by first | rfl | (simp [go_sem, yA] <;> rfl)) (fun h0 => ?_) (fun h0 => ?_))
 ·have hlt : k < p.length := by simp at h0; omega
  have hw : IntKind.i64.wrap (↑k + 1) = (k : Int) + 1 := yv (by omega)
  obtain ⟨x, hx, hxm⟩ := ym hlt
  obtain ⟨v, c, hv, hx0, hvc, hxl, hkv, hnx⟩ := AD.sub_take hu hx (ob, 0)
  obtain ⟨cells, rest, hce, hcd⟩ := AD.loc_load hU hv
  have hxi := ygr hx
  refine yg (ya (yh (sA (by simp [go_sem, hxi] <;> rfl) ?_)))
  refine aR (by simp [go_sem, hce, hcd, hx0, hxl, hkv] <;> rfl) ?_
  refine aS ?_
  exact ⟨k + 1, hlt, (by show _ - _ < _ - _; omega), rfl, rfl, by simp [go_sem, hnx, hw]⟩
 ·have hke : k = p.length := by simp at h0; omega
  subst hke
  refine yp (yj (yj (yl (sA (by simp [go_sem, List.take_length] <;> rfl) ?_))))
  refine yd (eR ?_)
  exact ⟨by simp [go_sem], by simp [go_sem]⟩

theorem c_at (t u : AD) (p : List Int) (hp : p.length ≤ 1000000000) (ob : Nat) (σ : Store) (hU : HasU σ (Ym ob t)) (hu : t.sub p = some u) : ACalls Tryz.prog 122 [.pv (wPV p), .ptr ob 0] σ (fun r σ' => r = .ptr (AD.loc (ob, 0) t p).1 (AD.loc (ob, 0) t p).2 ∧ σ' = σ) := by
  by_cases h : p = []
  · subst h; exact yss t ob σ
  · have e : wPV p = .slice (ipv p) := by unfold wPV; rw [if_neg h]; rfl
    rw [e]; exact ysD t u p hp ob σ hU hu

end Go.Proofs.YtigideidmcmfbaaGreatDoor

namespace Go.Proofs.YtigideidmcmfbaaGreatDoor
open Go Go.Aw
variable {kr : KR}
set_option maxHeartbeats 4000000 in
theorem ymi {Sg : Type} {e : D} {ob m0 oto oat : Nat} {XR : List (Nat × AObj)} {ms : Sg → List (Nat × AObj)} {mk : List Nat} {X : List (Nat × AObj)} {tf : FuncId} {tc : List AV} {to : List Int → Int → ByteArray → Sg → ByteArray × Sg} {GT : Nat → Sg → Prop} (H : RnH Tryz.prog (GL kr) 122 e ob m0 oto oat XR ms mk X tf tc to GT) (d : D) (p : List Int) (ns : List ByteArray) (n : Int) (m : Nat) (s : D × Sg) (σ : Store) (hd : d.size ≤ 100000000) (hp : p.length ≤ 400000000) (hs : s.1.er = e.er) (hg : GT m s.2) (hm : m + ns.length ≤ 1000000000) (hsub : e.sub p = some d) (hnm : NmOk d ns n) (hgl : σ.gl = (GL kr)) (hU : HasU σ (UR ob m0 ms s)) (hX : HasU σ XR) : ACalls Tryz.prog 123 [.pv (enc d), .pv (wPV p), .pv (.slice (ns.map .str)), .pv (.int .i64 n), .ptr oto 0, .ptr oat 0] σ (fun r σ' => r = .pv (.slice ((namR to d p ns n s).1.map .str)) ∧ σ' = updS σ (UR ob m0 ms (namR to d p ns n s).2)) := by
 have hnb := ykZ hnm
 have hsK : (namR to d p ns n s).2.1.er = e.er := (yf0 to d p ns n s ns.length (Nat.le_refl _)).trans hs
 refine ya3 (H.clo hsK fun i hi => H.lt hs hU hi) ?_
 refine yk tyOk Tryz.func123 rfl (by simp [Tryz.f123]) ?_
 refine sS ?_
 refine sS ?_
 refine ya (sS ?_)
 refine zF 11 9 1 (by simp [go_sem] <;> rfl) ?_
 refine yh (yN 1 [1, 3, 4, 5, 6, 10, 15, 16] (fun k : Nat => [(11, .acc ((nmK to d p ns n s k).1.map .str) σ.toks.length), (17, .pv (.int .i64 ↑k))]) (fun k => updS { σ with toks := σ.toks ++ [⟨k, 9, 1⟩] } (UR ob m0 ms (nmK to d p ns n s k).2)) (fun k => k ≤ ns.length) (fun k => ns.length - k) 0 (Nat.zero_le _) ⟨(by simp [go_sem, yjc]; exact YX hU), rfl, by simp [go_sem, yjc], by simp [go_sem]⟩ ?_)
 intro k hk
 refine sS ?_
 refine ya (yc (by first | rfl | (simp [go_sem, yE, y6] <;> rfl)) (fun h0 => ?_) (fun h0 => ?_))
 ·have hlt : k < ns.length := by simp at h0; omega
  have hw : IntKind.i64.wrap (↑k + 1) = (k : Int) + 1 := yv (by omega)
  obtain ⟨x, hx, hxm⟩ := ym hlt
  have hkl := Nat.le_of_lt hlt
  have hek : (nmK to d p ns n s k).2.1.er = e.er := (yf0 to d p ns n s k hkl).trans hs
  have hgk : GT (m + k) (nmK to d p ns n s k).2.2 := ykI to d p ns n s GT H.T.gt m hg k hkl
  have hlk := ykJ to d p ns n s k hkl
  obtain ⟨hw1, hw2, u0, hu0, hut⟩ := ymt hnm hx
  have hsp : e.sub (p ++ zo d (n + (k : Int))) = some u0 := by rw [D.sub_append, hsub]; exact hu0
  obtain ⟨u1, hu1, _⟩ := D.sub_of_er hek hsp
  obtain ⟨u2, hu2, _⟩ := yeq _ _ m0 hu1
  have hUt : HasU { σ with toks := σ.toks ++ [⟨k, 9, 1⟩] } (UR ob m0 ms s) := hU
  have hUk := H.has (σ := { σ with toks := σ.toks ++ [⟨k, 9, 1⟩] }) hs hek hU
  have hXk := H.hasX (σ := { σ with toks := σ.toks ++ [⟨k, 9, 1⟩] }) hek hX
  have hU2 := H.has (σ := { σ with toks := σ.toks ++ [⟨k, 9, 1⟩] }) (s' := ((nmK to d p ns n s k).2.1, (to p (n + (k : Int)) x (nmK to d p ns n s k).2.2).2)) hs hek hU
  have hX2 := H.hasX (σ := { σ with toks := σ.toks ++ [⟨k, 9, 1⟩] }) (s' := ((nmK to d p ns n s k).2.1, (to p (n + (k : Int)) x (nmK to d p ns n s k).2.2).2)) hek hX
  have f1 := hXk _ H.hto
  have f2 := hX2 _ H.hat
  simp only at f1 f2
  have hwn : IntKind.i64.wrap (n + (k : Int)) = n + (k : Int) := yO (by omega) (by omega)
  have hb2 : (k + 1) * 16 ≤ 140737488355328 := by omega
  have hnx := yc2 to (d := d) (p := p) (n := n) (s := s) hx
  unfold yci at hnx
  refine yg (ya (yh (sA (by simp [go_sem, hx] <;> rfl) ?_)))
  refine sG ?_
  refine aL 6 (by simp [go_sem, f1, hwn] <;> rfl) ?_
  refine yy rfl rfl rfl (by simp [go_sem] <;> rfl) H.T.ct (H.T.ht p (n + (k : Int)) x (m + k) (nmK to d p ns n s k).2.2 _ (by omega) (yej H.hes hsub) (by omega) (by omega) hgk (by omega) (by exact hgl) (fun q hq => hUk q (List.mem_append_right _ hq)) (fun q hq => hXk q (H.hXX q hq))) (by simp [go_sem] <;> rfl) (by simp [go_sem]) (by simp [go_sem, H.T.nlt]) rfl ?_
  rintro r σ' ⟨rfl, rfl⟩
  rw [H.afterTo (σ := { σ with toks := σ.toks ++ [⟨k, 9, 1⟩] }) (s0 := s) hs hek hU]
  refine aT 1 ?_
  refine ye (sA (by simp [go_sem, yE, y6, hlk, hb2] <;> rfl) ?_)
  refine yG tyOk tySz 10 (by kernel_rfl) (by decide) ?_
  refine yo 6 (by simp [go_sem, f2, hwn] <;> rfl) ?_
  refine yQ (by first | (intro _ _ hh; exact hh) | simp [go_sem]) rfl rfl rfl rfl (by simp [go_sem] <;> rfl) yp9 ((yqe d hd (n + (k : Int)) (by omega) (by omega)) _ (by exact hgl)) (by simp [go_sem] <;> rfl) (by simp [go_sem]) rfl rfl ?_
  refine yQ (by first | (intro _ _ hh; exact hh) | simp [go_sem]) rfl rfl rfl rfl (by simp [go_sem] <;> rfl) y8 ((y7 p (zo d (n + (k : Int))) (by omega) (by omega) hw1) _ (by exact hgl)) (by simp [go_sem] <;> rfl) (by simp [go_sem]) rfl rfl ?_
  refine yQ (by first | (intro _ _ hh; exact hh) | simp [go_sem]) rfl rfl rfl rfl (by simp [go_sem] <;> rfl) yku (c_at (lay m0 (nmK to d p ns n s k).2.1) u2 (p ++ zo d (n + (k : Int))) (by rw [List.length_append]; omega) ob _ (ygo (s := ((nmK to d p ns n s k).2.1, (to p (n + (k : Int)) x (nmK to d p ns n s k).2.2).2)) hU2) hu2) (by simp [go_sem] <;> rfl) (by simp [go_sem]) rfl rfl ?_
  refine yo 1 (by simp [go_sem] <;> rfl) ?_
  refine yF ?_
  refine aT 2 ?_
  refine yd2 (ob := ob) (m0 := m0) (ms := ms) (x := ((nmK to d p ns n s k).2.1, (to p (n + (k : Int)) x (nmK to d p ns n s k).2.2).2)) (p := p ++ zo d (n + (k : Int))) (b := (to p (n + (k : Int)) x (nmK to d p ns n s k).2.2).1) H.T.hmk (H.nd hek) hU2 hu1 tyOk rfl rfl rfl rfl rfl (by simp [go_sem]) (by simp [go_sem]) ?_
  refine ye (aS ?_)
  exact ⟨k + 1, hlt, (by show _ - _ < _ - _; omega), (by show updS _ (UR ob m0 ms (nmK to d p ns n s (k + 1)).2) = _; rw [hnx]; simp only [go_sem]; exact (ymP (H.keys hek _) (H.keys (by rw [D.er_setText]; exact hek) _) H.hn).symm), rfl, by simp [go_sem, hw, hnx], by simp [go_sem]⟩
 ·have hke : k = ns.length := by simp at h0; omega
  subst hke
  refine yp (yj (yj (yl (sS ?_))))
  refine yd (eR ?_)
  refine ⟨by simp [go_sem, namR], ?_⟩
  show Store.cut (updS ⟨σ.gl, σ.objs, _⟩ _) _ _ = _
  have := ZF (σ := σ) (U := UR ob m0 ms (namR to d p ns n s).2) (B := []) (tk := σ.toks ++ [⟨ns.length, 9, 1⟩]) (fun q hq => H.lt hs hU (by rw [← H.keys' hsK]; exact List.mem_map.2 ⟨q, hq, rfl⟩)) (by simp)
  rw [List.append_nil] at this
  exact this

set_option maxHeartbeats 1000000 in
theorem yoz {Sg : Type} {e : D} {ob m0 oto oat : Nat} {XR : List (Nat × AObj)} {ms : Sg → List (Nat × AObj)} {mk : List Nat} {X : List (Nat × AObj)} {tf : FuncId} {tc : List AV} {to : List Int → Int → ByteArray → Sg → ByteArray × Sg} {GT : Nat → Sg → Prop} (H : RnH Tryz.prog (GL kr) 122 e ob m0 oto oat XR ms mk X tf tc to GT) (d : D) (p : List Int) (s : D × Sg) (σ : Store) (hd : d.size ≤ 100000000) (hp : p.length ≤ 400000000) (hs : s.1.er = e.er) (hsub : e.sub p = some d) (hgl : σ.gl = (GL kr)) (hU : HasU σ (UR ob m0 ms s)) (hX : HasU σ XR) : ACalls Tryz.prog 125 [.pv (enc d), .pv (wPV p), .pv (.str ⟨#[]⟩), .pv (.bool false), .ptr oat 0] σ (fun r σ' => r = .tuple [] ∧ σ' = updS σ (UR ob m0 ms (varR d p none s))) := by
 have hself : updS σ (UR ob m0 ms (varR d p none s)) = σ := YX hU
 rw [hself]
 refine yk tyOk Tryz.func125 rfl (by simp [Tryz.f125]) ?_
 refine sS ?_
 refine sS ?_
 refine aC (fun h0 => ?_) (fun h0 => ?_)
 ·cases h0
 ·refine yg (yz (by simp [go_sem] <;> rfl) (by simp [go_sem]) ?_)
  exact ⟨rfl, by simp [go_sem]⟩

set_option maxHeartbeats 1000000 in
theorem ynS {Sg : Type} {e : D} {ob m0 oto oat : Nat} {XR : List (Nat × AObj)} {ms : Sg → List (Nat × AObj)} {mk : List Nat} {X : List (Nat × AObj)} {tf : FuncId} {tc : List AV} {to : List Int → Int → ByteArray → Sg → ByteArray × Sg} {GT : Nat → Sg → Prop} (H : RnH Tryz.prog (GL kr) 122 e ob m0 oto oat XR ms mk X tf tc to GT) (d : D) (p : List Int) (s : D × Sg) (σ : Store) (hd : d.size ≤ 100000000) (hp : p.length ≤ 400000000) (hs : s.1.er = e.er) (hsub : e.sub p = some d) (hgl : σ.gl = (GL kr)) (hU : HasU σ (UR ob m0 ms s)) (hX : HasU σ XR) (b : ByteArray) : ACalls Tryz.prog 125 [.pv (enc d), .pv (wPV p), .pv (.str b), .pv (.bool true), .ptr oat 0] σ (fun r σ' => r = .tuple [] ∧ σ' = updS σ (UR ob m0 ms (varR d p (some b) s))) := by
 obtain ⟨u1, hu1, _⟩ := D.sub_of_er hs hsub
 obtain ⟨u2, hu2, _⟩ := yeq _ _ m0 hu1
 have f2 := hX _ H.hat
 simp only at f2
 have hes : (s.1.setText p b).er = e.er := (D.er_setText _ _ _).trans hs
 refine ya3 (V := UR ob m0 ms (s.1.setText p b, s.2)) (H.clo hes fun i hi => H.lt hs hU hi) ?_
 refine yk tyOk Tryz.func125 rfl (by simp [Tryz.f125]) ?_
 refine sS ?_
 refine sS ?_
 refine yc (by first | rfl | (simp [go_sem, yE, y6, f2] <;> rfl)) (fun h0 => ?_) (fun h0 => ?_)
 ·refine yS ?_
  refine aL 2 (by simp [go_sem, f2] <;> rfl) ?_
  refine ycS rfl rfl rfl (by simp [go_sem] <;> rfl) yku (c_at (lay m0 s.1) u2 p (by omega) ob _ (ygo hU) hu2) (by simp [go_sem] <;> rfl) (by simp [go_sem]) rfl rfl ?_
  refine aT 3 ?_
  refine yd2 (ob := ob) (m0 := m0) (ms := ms) (x := s) (p := p) (b := b) H.T.hmk (H.nd hs) hU hu1 tyOk rfl rfl rfl rfl rfl (by simp [go_sem]) (by simp [go_sem]) ?_
  refine ye (yz (by simp [go_sem] <;> rfl) (by simp [go_sem]) ?_)
  refine ⟨by simp [go_sem], ?_⟩
  have := ZF (σ := σ) (U := UR ob m0 ms (s.1.setText p b, s.2)) (B := []) (tk := σ.toks) (fun q hq => H.lt hs hU (by rw [← H.keys' (s := (s.1.setText p b, s.2)) (by first | exact hs | exact (D.er_setText _ _ _).trans hs)]; exact List.mem_map.2 ⟨q, hq, rfl⟩)) (by simp)
  rw [List.append_nil] at this
  exact this
 ·cases h0

theorem yql {Sg : Type} {e : D} {ob m0 oto oat : Nat} {XR : List (Nat × AObj)} {ms : Sg → List (Nat × AObj)} {mk : List Nat} {X : List (Nat × AObj)} {tf : FuncId} {tc : List AV} {to : List Int → Int → ByteArray → Sg → ByteArray × Sg} {GT : Nat → Sg → Prop} (H : RnH Tryz.prog (GL kr) 122 e ob m0 oto oat XR ms mk X tf tc to GT) (d : D) (p : List Int) (s : D × Sg) (σ : Store) (hd : d.size ≤ 100000000) (hp : p.length ≤ 400000000) (hs : s.1.er = e.er) (hsub : e.sub p = some d) (hgl : σ.gl = (GL kr)) (hU : HasU σ (UR ob m0 ms s)) (hX : HasU σ XR) (b : Option ByteArray) : ACalls Tryz.prog 125 [.pv (enc d), .pv (wPV p), .pv ((b.map PV.str).getD (.str ⟨#[]⟩)), .pv (.bool b.isSome), .ptr oat 0] σ (fun r σ' => r = .tuple [] ∧ σ' = updS σ (UR ob m0 ms (varR d p b s))) := by
  cases b with
  | none => exact yoz H d p s σ hd hp hs hsub hgl hU hX
  | some b => exact ynS H d p s σ hd hp hs hsub hgl hU hX b

end Go.Proofs.YtigideidmcmfbaaGreatDoor

namespace Go.Proofs.YtigideidmcmfbaaGreatDoor
open Go Go.Aw
variable {kr : KR}
theorem yrl {Sg : Type} {ms : Sg → List (Nat × AObj)} {mk : List Nat} {X : List (Nat × AObj)} {tf : FuncId} {tc : List AV} {to : List Int → Int → ByteArray → Sg → ByteArray × Sg} {GT : Nat → Sg → Prop} (T : ToH Tryz.prog (GL kr) ms mk X tf tc to GT) {σ : Store} (htc : AV.clos σ.objs.length σ.toks.length 0 tc = true) {st st2 : Sg} (hms : HasU σ (ms st)) {e e2 : D} (hs : msz e2 = msz e) :
    ∀ ob, ob ∈ (updS σ (ms st2)).objs ++ AObj.box [.func (.func tf) tc] :: lobjs (σ.objs.length + 1) e2 → ob ∈ σ.objs ∨ ob.clo (σ.objs.length + 1 + msz e) σ.toks.length 0 = true := by
  have hlt : ∀ i, i ∈ mk → i < σ.objs.length + 1 + msz e := by
    intro i hi
    rw [← T.hmk st] at hi
    obtain ⟨q, hq, rfl⟩ := List.mem_map.1 hi
    have := hms.lt hq; omega
  intro ob hob
  rcases List.mem_append.1 hob with h | h
  · rcases ZT h with h | ⟨q, hq, rfl⟩
    · exact .inl h
    · exact .inr (T.hcl _ _ _ hlt q hq)
  · rcases List.mem_cons.1 h with rfl | h
    · refine .inr ?_
      show AV.clos _ _ _ [.func (.func tf) tc] = true
      simp only [AV.clos, AV.clo, Bool.and_true]
      exact AV.clos_mono (by omega) (Nat.le_refl _) (Nat.le_refl _) _ htc
    · exact .inr ((Z9 (by omega)).1 ob h)

set_option maxHeartbeats 4000000 in
theorem yh6 {Sg : Type} {ms : Sg → List (Nat × AObj)} {mk : List Nat} {X : List (Nat × AObj)} {tf : FuncId} {tc : List AV} {to : List Int → Int → ByteArray → Sg → ByteArray × Sg} {GT : Nat → Sg → Prop} (T : ToH Tryz.prog (GL kr) ms mk X tf tc to GT) (e : D) (he : e.size ≤ 100000000) (st : Sg) (h0 : GT 0 st) (hb : ncnt e ≤ 1000000000) (σ : Store) (htc : AV.clos σ.objs.length σ.toks.length 0 tc = true) (hgl : σ.gl = (GL kr)) (hms : HasU σ (ms st)) (hX : HasU σ X) : ACalls Tryz.prog 81 [.pv (enc e), .func (.func tf) tc] σ (fun r σ' => r = (lay (σ.objs.length + 1) (zZ to e st).1).av ∧ σ' = (⟨σ.gl, (updS σ (ms (zZ to e st).2)).objs ++ AObj.box [.func (.func tf) tc] :: lobjs (σ.objs.length + 1) (zZ to e st).1, σ.toks⟩ : Store)) := by
 have hnlt := T.nlt
 have hrs0 : msz (zZ to e st).1 = msz e := by rw [← z1, ycF, z1]
 refine ACalls.keepTo (σ.objs.length + 1 + msz e) (by omega) ?_ ?_
 · exact yrl T htc hms hrs0
 refine yk tyOk Tryz.func81 rfl (by simp [Tryz.f81]) ?_
 refine ya (yD (sh := [3]) tyOk (by simp [go_sem, hnlt] <;> rfl) ?_)
 refine sG ?_
 refine Zx 1 (sh := [5]) tyOk (by simp [go_sem] <;> rfl) ?_
 refine yy rfl rfl rfl (by simp [go_sem] <;> rfl) yim (ykn e he _) (by simp [go_sem] <;> rfl) (by simp [go_sem]) rfl rfl ?_
 rintro r σ' ⟨rfl, rfl⟩
 refine Zx 2 (sh := [5]) tyOk (by simp [go_sem, AD.av_cells, AD.cells_len, zS] <;> rfl) ?_
 refine ye (ya ?_)
 obtain ⟨A, hA⟩ : ∃ A, A = (σ.objs ++ AObj.box [.func (.func tf) tc] :: lobjs (σ.objs.length + 1) e) := ⟨_, rfl⟩
 refine ycD 2 (s2 := ⟨[(2, .lptr 0 0), (3, .ptr σ.objs.length 0), (4, .lptr 1 0), (5, .ptr A.length 0)], [[.pv (.int .i64 e.kind), .pv (.int .i64 e.num), .pv (.str e.text), .pv (.slice (e.kids.map enc))], [.pv (.int .i64 0), .pv (.int .i64 0), .pv (.str ⟨#[]⟩), .pv .nils]], ⟨σ.gl, A ++ [.box (lay (σ.objs.length + 1) e).cells], σ.toks⟩⟩) ⟨by simp [go_sem, hA], by simp [go_sem], by simp [go_sem, hA], by simp [go_sem]⟩ ?_
 refine yfy A.length (lay (σ.objs.length + 1) e).cells (by simp) ?_
 simp only [yiu]
 refine yD (sh := [6]) tyOk (by simp [go_sem] <;> rfl) ?_
 refine ya (yD (sh := [14]) tyOk (by simp [go_sem] <;> rfl) ?_)
 refine ya ?_
 try simp only [List.append_assoc, List.cons_append, List.nil_append]
 have hAl : A.length = σ.objs.length + 1 + msz e := by rw [hA]; simp [Zh]; omega
 have hmlt : ∀ i, i ∈ mk → i < σ.objs.length := by intro i hi; rw [← T.hmk st] at hi; obtain ⟨q, hq, rfl⟩ := List.mem_map.1 hi; exact hms.lt hq
 have hAg : ∀ (i : Nat) ob, σ.objs[i]? = some ob → ∀ B, (A ++ B)[i]? = some ob := fun i ob hi B => by have hlt := (List.getElem?_eq_some_iff.1 hi).1; rw [List.getElem?_append_left (by omega), hA, List.getElem?_append_left hlt]; exact hi
 have H : RnH Tryz.prog (GL kr) 122 e A.length (σ.objs.length + 1) σ.objs.length (A.length + 1) (X ++ [(σ.objs.length, AObj.box [.func (.func tf) tc]), (A.length + 1, .box [.func (.func 122) [.ptr A.length 0]]), (A.length + 2, .box [.func (.func 123) [.ptr σ.objs.length 0, .ptr (A.length + 1) 0], .func (.func 125) [.ptr (A.length + 1) 0]])]) ms mk X tf tc to GT := by
  refine ⟨T, ?_, fun q hq => ?_, fun q hq => List.mem_append_left _ hq, by simp, by simp, he⟩
  · refine List.nodup_append.2 ⟨List.nodup_cons.2 ⟨by rw [List.mem_range'_1]; omega, List.nodup_range'⟩, T.hnd, fun a ha b hb e2 => ?_⟩
    subst e2
    have := hmlt a hb
    rcases List.mem_cons.1 ha with h | h
    · omega
    · rw [List.mem_range'_1] at h; omega
  · rcases List.mem_append.1 hq with hq | hq
    · have h1 := hX.lt hq
      have h2 := T.hX q hq
      simp only [List.cons_append, List.mem_cons, List.mem_append, List.mem_range'_1, not_or]
      exact ⟨by omega, by omega, h2⟩
    · have h1 : σ.objs.length ≤ q.1 ∧ (q.1 = σ.objs.length ∨ A.length < q.1) := by simp at hq; rcases hq with rfl | rfl | rfl <;> simp <;> omega
      simp only [List.cons_append, List.mem_cons, List.mem_append, List.mem_range'_1, not_or]
      exact ⟨by omega, by omega, fun hm => by have := hmlt _ hm; omega⟩
 have HW := H.walk (ow := A.length + 2) (nf := 123) (vf := 125) (by simp) ypu ypA (ymi H) (fun d p s σ h1 h2 h3 h4 h5 h6 h7 b => yql H d p s σ h1 h2 h3 h4 h5 h6 h7 b)
 have hU4 : HasU (⟨σ.gl, A ++ [AObj.arr (lay (σ.objs.length + 1) e).cells, .box [.func (.func 122) [.ptr A.length 0]], .box [.func (.func 123) [.ptr σ.objs.length 0, .ptr (A.length + 1) 0], .func (.func 125) [.ptr (A.length + 1) 0]]], σ.toks⟩ : Store) (UE e A.length (σ.objs.length + 1) ms (e, st)) := by
  rw [yd7 (s := (e, st)) rfl]
  intro q hq
  rcases List.mem_append.1 hq with hq | hq
  · rcases List.mem_cons.1 hq with rfl | hq
    · exact yaZ rfl
    · have h3 := yb6 (σ := (⟨σ.gl, A ++ [AObj.arr (lay (σ.objs.length + 1) e).cells, .box [.func (.func 122) [.ptr A.length 0]], .box [.func (.func 123) [.ptr σ.objs.length 0, .ptr (A.length + 1) 0], .func (.func 125) [.ptr (A.length + 1) 0]]], σ.toks⟩ : Store)) (A := σ.objs ++ [.box [.func (.func tf) tc]]) (C := [AObj.arr (lay (σ.objs.length + 1) e).cells, .box [.func (.func 122) [.ptr A.length 0]], .box [.func (.func 123) [.ptr σ.objs.length 0, .ptr (A.length + 1) 0], .func (.func 125) [.ptr (A.length + 1) 0]]]) (d := e) (by simp [hA])
      rw [show (σ.objs ++ [AObj.box [.func (.func tf) tc]]).length = σ.objs.length + 1 by simp] at h3
      exact h3 q hq
  · exact hAg _ _ (hms q hq) _
 have hX4 : HasU (⟨σ.gl, A ++ [AObj.arr (lay (σ.objs.length + 1) e).cells, .box [.func (.func 122) [.ptr A.length 0]], .box [.func (.func 123) [.ptr σ.objs.length 0, .ptr (A.length + 1) 0], .func (.func 125) [.ptr (A.length + 1) 0]]], σ.toks⟩ : Store) (X ++ [(σ.objs.length, AObj.box [.func (.func tf) tc]), (A.length + 1, .box [.func (.func 122) [.ptr A.length 0]]), (A.length + 2, .box [.func (.func 123) [.ptr σ.objs.length 0, .ptr (A.length + 1) 0], .func (.func 125) [.ptr (A.length + 1) 0]])]) := by
  intro q hq
  rcases List.mem_append.1 hq with hq | hq
  · exact hAg _ _ (hX q hq) _
  · simp only [List.mem_cons, List.not_mem_nil, or_false] at hq
    rcases hq with rfl | rfl | rfl
    · show (A ++ _)[σ.objs.length]? = _
      rw [List.getElem?_append_left (by omega), hA]; exact yaZ rfl
    · show (A ++ _)[A.length + 1]? = _
      simp
    · show (A ++ _)[A.length + 2]? = _
      simp
 have hres : (zZ to e st).1.er = e.er := ycF _ _ _
 have hrsz : msz (zZ to e st).1 = msz e := by rw [← z1, hres, z1]
 obtain ⟨A2, hA2⟩ : ∃ A2, A2 = (updS σ (ms (zZ to e st).2)).objs ++ AObj.box [.func (.func tf) tc] :: lobjs (σ.objs.length + 1) (zZ to e st).1 := ⟨_, rfl⟩
 have hA2l : A2.length = A.length := by rw [hA2, hAl]; simp [Zh, yfx, hrsz]; omega
 have hz : updS (⟨σ.gl, A ++ [AObj.arr (lay (σ.objs.length + 1) e).cells, .box [.func (.func 122) [.ptr A.length 0]], .box [.func (.func 123) [.ptr σ.objs.length 0, .ptr (A.length + 1) 0], .func (.func 125) [.ptr (A.length + 1) 0]]], σ.toks⟩ : Store) (UE e A.length (σ.objs.length + 1) ms (wk (namR to) varR e [] [] (e, st))) = ⟨σ.gl, A2 ++ [AObj.arr (lay (σ.objs.length + 1) (zZ to e st).1).cells, .box [.func (.func 122) [.ptr A.length 0]], .box [.func (.func 123) [.ptr σ.objs.length 0, .ptr (A.length + 1) 0], .func (.func 125) [.ptr (A.length + 1) 0]]], σ.toks⟩ := by
  rw [show wk (namR to) varR e [] [] (e, st) = (zZ to e st) from rfl, yd7 hres, hA2]; exact yp0 hA T.hmk T.hnd hms _ _ (zZ to e st) hres _
 have hg2 : (A2 ++ [AObj.arr (lay (σ.objs.length + 1) (zZ to e st).1).cells, .box [.func (.func 122) [.ptr A.length 0]], .box [.func (.func 123) [.ptr σ.objs.length 0, .ptr (A.length + 1) 0], .func (.func 125) [.ptr (A.length + 1) 0]]])[A.length]? = some (.arr (lay (σ.objs.length + 1) (zZ to e st).1).cells) := yaZ hA2l
 refine yS ?_
 refine aT 2 ?_
 refine yy rfl rfl rfl (by simp [go_sem] <;> rfl) ZI (ylJ HW e he [] (by simp; omega) [] 0 (by omega) (e, st) _ (by exact hgl) rfl ⟨rfl, h0⟩ hU4 hX4) (by simp [go_sem] <;> rfl) (by simp [go_sem, wPV, yH]) rfl rfl ?_
 rintro r σ' ⟨rfl, rfl⟩
 rw [hz]
 refine ye (sG ?_)
 refine ymf tyOk (i := A.length) (off := 0) (u := lay (σ.objs.length + 1) (zZ to e st).1) (rest := []) rfl rfl rfl rfl rfl (by simp [go_sem]) hg2 (by simp) rfl ?_
 refine aL 1 (by simp [go_sem, AD.av_cells, AD.cells_len] <;> rfl) ?_
 refine ye (yd ?_)
 have hw2 := (Z9 (m := σ.objs.length + 1) (d := (zZ to e st).1) (no := σ.objs.length + 1 + msz e) (nt := σ.toks.length) (by omega)).2
 refine ybe (l := [(lay (σ.objs.length + 1) (zZ to e st).1).av]) ?_ (ymW _) ?_
 · exact yf3 (i := 1) rfl rfl rfl (by simp [go_sem]) (by simp [go_sem])
 refine ⟨hw2, ?_⟩
 show Store.cut ⟨σ.gl, A2 ++ _, σ.toks⟩ _ _ = _
 rw [← hA2]
 unfold Store.cut
 simp only
 rw [List.take_left' (by rw [hA2l, hAl]), List.take_length]

end Go.Proofs.YtigideidmcmfbaaGreatDoor

namespace Go.Proofs.YtigideidmcmfbaaGreatDoor
open Go Go.Aw
variable {kr : KR}
def yk4 : Go.Shelf.Ren := ⟨fun x => match x with | 6 => 88 | 8 => 133 | 9 => 134 | 11 => 159 | n => n, fun x => match x with | 0 => 0 | 24 => 25 | 26 => 9 | 28 => 119 | 33 => 71 | n => n, fun x => match x with | n => n⟩
theorem yrf : Go.Proofs.SlLaysZ.n6 Tryz.prog yk4 :=
  {
    mixed := by kernel_rfl,
    f6 := ⟨Tryz.f88.name, by kernel_rfl, Eq.trans Tryz.func88 (congrArg some (by kernel_rfl))⟩,
    f8 := ⟨Tryz.f133.name, by kernel_rfl, Eq.trans Tryz.func133 (congrArg some (by kernel_rfl))⟩,
    f11 := ⟨Tryz.f159.name, by kernel_rfl, Eq.trans Tryz.func159 (congrArg some (by kernel_rfl))⟩,
    t0 := Tryz.underlying0,
    a0 := Tryz.isAgg0,
    z0 := Tryz.sizeOf0,
    v0 := Tryz.zeroValue0,
    t24 := Tryz.underlying25,
    a24 := Tryz.isAgg25,
    z24 := Tryz.sizeOf25,
    v24 := Tryz.zeroValue25,
    t26 := Tryz.underlying9,
    a26 := Tryz.isAgg9,
    z26 := Tryz.sizeOf9,
    v26 := Tryz.zeroValue9,
    t28 := Tryz.underlying119,
    a28 := Tryz.isAgg119,
    z28 := Tryz.sizeOf119,
    v28 := Tryz.zeroValue119,
    i26 := by kernel_rfl }
def ymb : Go.Shelf.Ren := ⟨fun x => match x with | 10 => 135 | n => n, fun x => match x with | 0 => 0 | 3 => 4 | 4 => 4 | 23 => 78 | 26 => 9 | 33 => 71 | n => n, fun x => match x with | n => n⟩
theorem yp3 : Go.Proofs.SlLaysZ.n10 Tryz.prog ymb :=
  {
    mixed := by kernel_rfl,
    f10 := ⟨Tryz.f135.name, by kernel_rfl, Eq.trans Tryz.func135 (congrArg some (by kernel_rfl))⟩,
    t0 := Tryz.underlying0,
    a0 := Tryz.isAgg0,
    z0 := Tryz.sizeOf0,
    v0 := Tryz.zeroValue0,
    t4 := Tryz.underlying4,
    a4 := Tryz.isAgg4,
    z4 := Tryz.sizeOf4,
    v4 := Tryz.zeroValue4,
    t23 := Tryz.underlying78,
    a23 := Tryz.isAgg78,
    z23 := Tryz.sizeOf78,
    v23 := Tryz.zeroValue78,
    t26 := Tryz.underlying9,
    a26 := Tryz.isAgg9,
    z26 := Tryz.sizeOf9,
    v26 := Tryz.zeroValue9,
    t33 := Tryz.underlying71,
    a33 := Tryz.isAgg71,
    z33 := Tryz.sizeOf71,
    v33 := Tryz.zeroValue71 }
def ylo : Go.Shelf.Ren := ⟨fun x => match x with | 6 => 134 | 8 => 161 | 9 => 160 | 19 => 179 | 20 => 180 | 21 => 170 | 22 => 171 | 23 => 172 | 24 => 173 | 25 => 174 | 26 => 175 | 27 => 176 | 28 => 177 | 29 => 178 | 31 => 188 | 32 => 189 | 36 => 187 | 37 => 190 | 38 => 191 | 39 => 192 | 41 => 198 | n => n, fun x => match x with | 0 => 0 | 3 => 3 | 4 => 4 | 5 => 5 | 9 => 9 | 26 => 25 | 27 => 25 | 29 => 9 | 32 => 194 | 35 => 207 | 36 => 208 | 41 => 213 | 44 => 216 | 46 => 141 | 53 => 223 | 57 => 227 | 63 => 236 | 64 => 237 | n => n, fun x => match x with | n => n⟩
theorem ynq : Go.Proofs.SlLaysM.n6 Tryz.prog ylo :=
  {
    mixed := by kernel_rfl,
    f6 := ⟨Tryz.f134.name, by kernel_rfl, Eq.trans Tryz.func134 (congrArg some (by kernel_rfl))⟩,
    f8 := Eq.trans Tryz.func161 (congrArg some (by kernel_rfl)),
    f9 := ⟨Tryz.f160.name, by kernel_rfl, Eq.trans Tryz.func160 (congrArg some (by kernel_rfl))⟩,
    f19 := Eq.trans Tryz.func179 (congrArg some (by kernel_rfl)),
    f20 := Eq.trans Tryz.func180 (congrArg some (by kernel_rfl)),
    f21 := ⟨Tryz.f170.name, by kernel_rfl, Eq.trans Tryz.func170 (congrArg some (by kernel_rfl))⟩,
    f22 := ⟨Tryz.f171.name, by kernel_rfl, Eq.trans Tryz.func171 (congrArg some (by kernel_rfl))⟩,
    f23 := ⟨Tryz.f172.name, by kernel_rfl, Eq.trans Tryz.func172 (congrArg some (by kernel_rfl))⟩,
    f24 := ⟨Tryz.f173.name, by kernel_rfl, Eq.trans Tryz.func173 (congrArg some (by kernel_rfl))⟩,
    f25 := ⟨Tryz.f174.name, by kernel_rfl, Eq.trans Tryz.func174 (congrArg some (by kernel_rfl))⟩,
    f26 := ⟨Tryz.f175.name, by kernel_rfl, Eq.trans Tryz.func175 (congrArg some (by kernel_rfl))⟩,
    f27 := ⟨Tryz.f176.name, by kernel_rfl, Eq.trans Tryz.func176 (congrArg some (by kernel_rfl))⟩,
    f28 := ⟨Tryz.f177.name, by kernel_rfl, Eq.trans Tryz.func177 (congrArg some (by kernel_rfl))⟩,
    f29 := ⟨Tryz.f178.name, by kernel_rfl, Eq.trans Tryz.func178 (congrArg some (by kernel_rfl))⟩,
    f31 := Eq.trans Tryz.func188 (congrArg some (by kernel_rfl)),
    f32 := Eq.trans Tryz.func189 (congrArg some (by kernel_rfl)),
    f36 := ⟨Tryz.f187.name, by kernel_rfl, Eq.trans Tryz.func187 (congrArg some (by kernel_rfl))⟩,
    f37 := ⟨Tryz.f190.name, by kernel_rfl, Eq.trans Tryz.func190 (congrArg some (by kernel_rfl))⟩,
    f38 := ⟨Tryz.f191.name, by kernel_rfl, Eq.trans Tryz.func191 (congrArg some (by kernel_rfl))⟩,
    f39 := ⟨Tryz.f192.name, by kernel_rfl, Eq.trans Tryz.func192 (congrArg some (by kernel_rfl))⟩,
    f41 := ⟨Tryz.f198.name, by kernel_rfl, Eq.trans Tryz.func198 (congrArg some (by kernel_rfl))⟩,
    t0 := Tryz.underlying0,
    a0 := Tryz.isAgg0,
    z0 := Tryz.sizeOf0,
    v0 := Tryz.zeroValue0,
    t3 := Tryz.underlying3,
    a3 := Tryz.isAgg3,
    z3 := Tryz.sizeOf3,
    v3 := Tryz.zeroValue3,
    t4 := Tryz.underlying4,
    a4 := Tryz.isAgg4,
    z4 := Tryz.sizeOf4,
    v4 := Tryz.zeroValue4,
    t5 := Tryz.underlying5,
    a5 := Tryz.isAgg5,
    z5 := Tryz.sizeOf5,
    v5 := Tryz.zeroValue5,
    t9 := Tryz.underlying9,
    a9 := Tryz.isAgg9,
    z9 := Tryz.sizeOf9,
    v9 := Tryz.zeroValue9,
    t26 := Tryz.underlying25,
    a26 := Tryz.isAgg25,
    z26 := Tryz.sizeOf25,
    v26 := Tryz.zeroValue25,
    t27 := Tryz.underlying25,
    a27 := Tryz.isAgg25,
    z27 := Tryz.sizeOf25,
    v27 := Tryz.zeroValue25,
    t29 := Tryz.underlying9,
    a29 := Tryz.isAgg9,
    z29 := Tryz.sizeOf9,
    v29 := Tryz.zeroValue9,
    t32 := Tryz.underlying194,
    a32 := Tryz.isAgg194,
    z32 := Tryz.sizeOf194,
    v32 := Tryz.zeroValue194,
    t35 := Tryz.underlying207,
    a35 := Tryz.isAgg207,
    z35 := Tryz.sizeOf207,
    v35 := Tryz.zeroValue207,
    t36 := Tryz.underlying208,
    a36 := Tryz.isAgg208,
    z36 := Tryz.sizeOf208,
    v36 := Tryz.zeroValue208,
    t41 := Tryz.underlying213,
    a41 := Tryz.isAgg213,
    z41 := Tryz.sizeOf213,
    v41 := Tryz.zeroValue213,
    t44 := Tryz.underlying216,
    a44 := Tryz.isAgg216,
    z44 := Tryz.sizeOf216,
    v44 := Tryz.zeroValue216,
    t46 := Tryz.underlying141,
    a46 := Tryz.isAgg141,
    z46 := Tryz.sizeOf141,
    v46 := Tryz.zeroValue141,
    t53 := Tryz.underlying223,
    a53 := Tryz.isAgg223,
    z53 := Tryz.sizeOf223,
    v53 := Tryz.zeroValue223,
    t57 := Tryz.underlying227,
    a57 := Tryz.isAgg227,
    z57 := Tryz.sizeOf227,
    v57 := Tryz.zeroValue227,
    t63 := Tryz.underlying236,
    a63 := Tryz.isAgg236,
    z63 := Tryz.sizeOf236,
    v63 := Tryz.zeroValue236,
    t64 := Tryz.underlying237,
    a64 := Tryz.isAgg237,
    z64 := Tryz.sizeOf237,
    v64 := Tryz.zeroValue237 }
theorem yqX (m : Nat) : Go.Proofs.AnyZ.SortsIn Tryz.prog yk4 Go.Fence.wide m :=
  ⟨fun blk off cap ss W hH hblk hsz => Go.callsIn_wide.2 (Go.Proofs.AnyM.slices_Sort_string (ρ := ylo) ynq blk off cap ss W hH hblk hsz), fun p cap W => Go.callsIn_wide.2 (Go.Proofs.AnyM.slices_Sort_string_none (ρ := ylo) ynq p cap W)⟩
theorem yn2 {σ : Store} {o om : Nat} {S : List ByteArray} (ho : σ.objs[o]? = some (.box [.map om])) (hom : σ.objs[om]? = some (.map (tK S) (tV S))) (hl : S.length ≤ 1000000000) (hs : ∀ s, s ∈ S → s.size ≤ maxLen) :
    ACalls Tryz.prog 88 [.func (.func 135) [.ptr o 0]] σ fun r σ' => r = .pv (.slice ((yc5 S).map .str)) ∧ σ' = σ :=
  yhw (kt := 9) (n := 2) (m := 5) Tryz.underlying9 (fun w Bm b nn D0 hB hc hown => Go.Proofs.AnyZ.keys_gives (ρ := ymb) yp3 Go.Fence.wide 2 trivial rfl (by omega) Bm b nn D0 w hB hc hown)
    (fun Bm N S w h1 h2 hseq => (Go.Proofs.AnyZ.sorted_in (ρ := yk4) yrf Go.Fence.wide 5 trivial trivial trivial trivial rfl (by omega) (yqX _) (Go.Proofs.enters_of Tryz.func134 (by kernel_rfl) rfl) 135 _ trivial (Go.Proofs.enters_of Tryz.func135 (by kernel_rfl) rfl) S N h1 h2 w hseq).mono (by rintro e w' ⟨v, ss, he, hS, hrow, hnil, hb⟩; exact ⟨v, ss, _, he, hS, hrow, hb⟩)) ho hom hl hs

set_option maxHeartbeats 1000000 in
theorem yah (d : D) (hd : d.size ≤ 100000000) (σ : Store) (hgl : σ.gl = (GL kr)) : ACalls Tryz.prog 80 [.pv (enc d)] σ (fun r σ' => r = .map σ.objs.length ∧ σ' = { σ with objs := σ.objs ++ [.map (tK (sfree d [] [])) (tV (sfree d [] []))] }) := by
 refine ynQ ?_
 have hz1 : ∀ X R, (setS X σ.objs.length R).objs[σ.objs.length + 1]? = X.objs[σ.objs.length + 1]? := fun X R => zn (by omega)
 refine yk tyOk Tryz.func80 rfl (by simp [Tryz.f80]) ?_
 refine sS ?_
 refine ya (yD (sh := [3]) tyOk (by simp [go_sem] <;> rfl) ?_)
 refine ya (yD (sh := [8]) tyOk (by simp [go_sem] <;> rfl) ?_)
 refine sG ?_
 refine aT 2 ?_
 refine yy rfl rfl rfl (by simp [go_sem] <;> rfl) ZS (yrx d hd [] (by simp; omega) [] [] _ σ.objs.length (σ.objs.length + 1) (σ.objs.length + 2) (by exact hgl) (by simp [tK, tV]) (by simp) (by simp)) (by simp [go_sem] <;> rfl) (by simp [go_sem, wPV, zO]) rfl rfl ?_
 rintro r σ' ⟨rfl, rfl⟩
 refine ye (sA (by simp [go_sem, hz1] <;> rfl) ?_)
 refine yd (eR ?_)
 exact ⟨by simp [go_sem], by simp [go_sem, setS]⟩

set_option maxHeartbeats 1000000 in
theorem yrg (om : Nat) (σ : Store) : ACalls Tryz.prog 89 [.map om] σ (fun r σ' => r = .func (.func 135) [.ptr σ.objs.length 0] ∧ σ' = { σ with objs := σ.objs ++ [.box [.map om]] }) := by
 refine yk tyOk Tryz.func89 rfl (by simp [Tryz.f89]) ?_
 refine ya (yD (sh := [1]) tyOk (by simp [go_sem] <;> rfl) ?_)
 refine sS ?_
 refine yd (eR ?_)
 exact ⟨by simp [go_sem], by simp [go_sem]⟩

set_option maxHeartbeats 1000000 in
theorem yqS (d : D) (hd : d.size ≤ 100000000) (hl : (sfree d [] []).length ≤ 1000000000) (hs : ∀ s, s ∈ sfree d [] [] → s.size ≤ maxLen) : Pur Tryz.prog (GL kr) 45 [.pv (enc d)] (.pv (.slice ((yc5 (sfree d [] [])).map .str))) := by
 refine yB fun σ hgl => ?_
 refine yk tyOk Tryz.func45 rfl (by simp [Tryz.f45]) ?_
 refine sS ?_
 refine sG ?_
 refine aT 1 ?_
 refine yy rfl rfl rfl (by simp [go_sem] <;> rfl) yb9 (yah d hd _ (by exact hgl)) (by simp [go_sem] <;> rfl) (by simp [go_sem]) rfl rfl ?_
 rintro r σ' ⟨rfl, rfl⟩
 refine yy rfl rfl rfl (by simp [go_sem] <;> rfl) yrz (yrg σ.objs.length _) (by simp [go_sem] <;> rfl) (by simp [go_sem]) rfl rfl ?_
 rintro r σ' ⟨rfl, rfl⟩
 refine yy rfl rfl rfl (by simp [go_sem] <;> rfl) yrr (yn2 (o := σ.objs.length + 1) (om := σ.objs.length) (S := sfree d [] []) (by simp [go_sem]) (by simp [go_sem]) hl hs) (by simp [go_sem] <;> rfl) (by simp [go_sem]) rfl rfl ?_
 rintro r σ' ⟨rfl, rfl⟩
 refine aT 1 ?_
 refine ye (yd (eR ?_))
 exact ⟨by simp [go_sem], by simp [go_sem]⟩

def yeh (d : D) : PV × Int := if (sis d != 0) = true then (.nils, sis d) else (.slice ((yc5 (sfree d [] [])).map .str), 0)

set_option maxHeartbeats 1000000 in
theorem ypn (d : D) (hd : d.size ≤ 100000000) (hl : (sfree d [] []).length ≤ 1000000000) (hs : ∀ s, s ∈ sfree d [] [] → s.size ≤ maxLen) : Pur Tryz.prog (GL kr) 13 [.pv (enc d)] (.tuple [.pv (yeh d).1, .pv (.int .i64 (yeh d).2)]) := by
 refine yB fun σ hgl => ?_
 refine yk tyOk Tryz.func13 rfl (by simp [Tryz.f13]) ?_
 refine sS ?_
 refine ya (sG ?_)
 refine aT 1 ?_
 refine aG ydV ((yfM d hd) _ (by exact hgl)) ?_
 refine aT 1 ?_
 refine ye (sS ?_)
 refine aC (fun h0 => ?_) (fun h0 => ?_)
 ·refine ya (aS ?_)
  refine yd (yf (eR ?_))
  exact ⟨by simp only [yeh, h0, if_true]; simp [go_sem], by simp [go_sem]⟩
 ·refine yg (sG ?_)
  refine aT 1 ?_
  refine aG yqW ((yqS d hd hl hs) _ (by exact hgl)) ?_
  refine aT 2 ?_
  refine ye (yd (eR ?_))
  exact ⟨by simp only [yeh, h0, Bool.false_eq_true, if_false]; simp [go_sem], by simp [go_sem]⟩

end Go.Proofs.YtigideidmcmfbaaGreatDoor

namespace Go.Proofs.YtigideidmcmfbaaGreatDoor
open Go Go.Aw
variable {kr : KR}
def yq2 : Go.Shelf.Ren := ⟨fun x => match x with | 129 => 180 | 171 => 97 | 243 => 143 | 246 => 166 | 283 => 182 | 284 => 183 | 285 => 184 | 286 => 185 | 317 => 194 | 318 => 195 | 319 => 196 | 320 => 197 | 337 => 199 | 338 => 200 | n => n, fun x => match x with | 0 => 0 | 2 => 2 | 3 => 3 | 4 => 4 | 5 => 5 | 9 => 9 | 20 => 20 | 37 => 185 | 46 => 194 | 51 => 216 | 53 => 141 | 171 => 219 | 173 => 221 | 212 => 233 | 213 => 234 | 232 => 239 | 233 => 240 | n => n, fun x => match x with | 17 => 1 | 18 => 3 | 19 => 4 | n => n⟩
theorem yqB : Go.Proofs.LaysM.n171 Tryz.prog yq2 :=
  {
    mixed := by kernel_rfl,
    f129 := Eq.trans Tryz.func180 (congrArg some (by kernel_rfl)),
    f171 := Eq.trans Tryz.func97 (congrArg some (by kernel_rfl)),
    f243 := Eq.trans Tryz.func143 (congrArg some (by kernel_rfl)),
    f246 := Eq.trans Tryz.func166 (congrArg some (by kernel_rfl)),
    f283 := Eq.trans Tryz.func182 (congrArg some (by kernel_rfl)),
    f284 := Eq.trans Tryz.func183 (congrArg some (by kernel_rfl)),
    f285 := Eq.trans Tryz.func184 (congrArg some (by kernel_rfl)),
    f286 := Eq.trans Tryz.func185 (congrArg some (by kernel_rfl)),
    f317 := Eq.trans Tryz.func194 (congrArg some (by kernel_rfl)),
    f318 := Eq.trans Tryz.func195 (congrArg some (by kernel_rfl)),
    f319 := Eq.trans Tryz.func196 (congrArg some (by kernel_rfl)),
    f320 := Eq.trans Tryz.func197 (congrArg some (by kernel_rfl)),
    f337 := Eq.trans Tryz.func199 (congrArg some (by kernel_rfl)),
    f338 := Eq.trans Tryz.func200 (congrArg some (by kernel_rfl)),
    t0 := Tryz.underlying0,
    a0 := Tryz.isAgg0,
    z0 := Tryz.sizeOf0,
    v0 := Tryz.zeroValue0,
    t2 := Tryz.underlying2,
    a2 := Tryz.isAgg2,
    z2 := Tryz.sizeOf2,
    v2 := Tryz.zeroValue2,
    t3 := Tryz.underlying3,
    a3 := Tryz.isAgg3,
    z3 := Tryz.sizeOf3,
    v3 := Tryz.zeroValue3,
    t4 := Tryz.underlying4,
    a4 := Tryz.isAgg4,
    z4 := Tryz.sizeOf4,
    v4 := Tryz.zeroValue4,
    t5 := Tryz.underlying5,
    a5 := Tryz.isAgg5,
    z5 := Tryz.sizeOf5,
    v5 := Tryz.zeroValue5,
    t9 := Tryz.underlying9,
    a9 := Tryz.isAgg9,
    z9 := Tryz.sizeOf9,
    v9 := Tryz.zeroValue9,
    t20 := Tryz.underlying20,
    a20 := Tryz.isAgg20,
    z20 := Tryz.sizeOf20,
    v20 := Tryz.zeroValue20,
    t37 := Tryz.underlying185,
    a37 := Tryz.isAgg185,
    z37 := Tryz.sizeOf185,
    v37 := Tryz.zeroValue185,
    t46 := Tryz.underlying194,
    a46 := Tryz.isAgg194,
    z46 := Tryz.sizeOf194,
    v46 := Tryz.zeroValue194,
    t51 := Tryz.underlying216,
    a51 := Tryz.isAgg216,
    z51 := Tryz.sizeOf216,
    v51 := Tryz.zeroValue216,
    t53 := Tryz.underlying141,
    a53 := Tryz.isAgg141,
    z53 := Tryz.sizeOf141,
    v53 := Tryz.zeroValue141,
    t171 := Tryz.underlying219,
    a171 := Tryz.isAgg219,
    z171 := Tryz.sizeOf219,
    v171 := Tryz.zeroValue219,
    t173 := Tryz.underlying221,
    a173 := Tryz.isAgg221,
    z173 := Tryz.sizeOf221,
    v173 := Tryz.zeroValue221,
    t212 := Tryz.underlying233,
    a212 := Tryz.isAgg233,
    z212 := Tryz.sizeOf233,
    v212 := Tryz.zeroValue233,
    t213 := Tryz.underlying234,
    a213 := Tryz.isAgg234,
    z213 := Tryz.sizeOf234,
    t232 := Tryz.underlying239,
    a232 := Tryz.isAgg239,
    z232 := Tryz.sizeOf239,
    v232 := Tryz.zeroValue239,
    t233 := Tryz.underlying240,
    a233 := Tryz.isAgg240,
    z233 := Tryz.sizeOf240,
    v233 := Tryz.zeroValue240,
    g17 := by kernel_rfl,
    g18 := by kernel_rfl,
    g19 := by kernel_rfl,
    i0 := by kernel_rfl,
    i2 := by kernel_rfl,
    i3 := by kernel_rfl,
    i4 := by kernel_rfl,
    i5 := by kernel_rfl,
    i9 := by kernel_rfl,
    i20 := by kernel_rfl,
    i37 := by kernel_rfl,
    i46 := by kernel_rfl,
    i51 := by kernel_rfl,
    i53 := by kernel_rfl,
    i171 := by kernel_rfl,
    i173 := by kernel_rfl,
    i212 := by kernel_rfl,
    i232 := by kernel_rfl,
    i233 := by kernel_rfl,
    m17 := by kernel_rfl,
    m18 := by kernel_rfl,
    m19 := by kernel_rfl }
theorem gPow : Tryz.prog.globalNamed "internal/strconv.uint64pow10" = some 1 := by kernel_rfl
theorem ybl (n : Int) (h0 : -9223372036854775808 ≤ n) (h1 : n ≤ 9223372036854775807) : Pur Tryz.prog (GL kr) 97 [.pv (.int .i64 n)] (.pv (.str (Yd n))) :=
  yhD (ps := [.int .i64 n]) [.int .i64] rfl .str rfl gPow (by simp [GL]) fun w ht => Go.Proofs.Any.strconv_Itoa yqB n h0 h1 w ht

set_option maxHeartbeats 1000000 in
theorem ypp (S : List ByteArray) (hS : S.length ≤ 1000000000) (p : List Int) (i : Int) (x : ByteArray) (n : Nat) (hn : n ≤ 4000000000) (ome om on : Nat) (h1 : on ≠ ome) (h2 : on ≠ om) (σ : Store) (hgl : σ.gl = (GL kr)) (hme : σ.objs[ome]? = some (.box [.map om])) (hm : σ.objs[om]? = some (.map (tK S) (tV S))) (ho : σ.objs[on]? = some (.box [.pv (.int .i64 (n : Int))])) : ACalls Tryz.prog 109 [.pv (wPV p), .pv (.int .i64 i), .pv (.str x), .ptr ome 0, .ptr on 0] σ (fun r σ' => r = .pv (.str (ybw S p i x n).1) ∧ σ' = updS σ [(on, AObj.box [.pv (.int .i64 ((ybw S p i x n).2 : Int))])]) := by
 have hsp := ydL S n
 have hol := (List.getElem?_eq_some_iff.1 ho).1
 have gE : ∀ k : Int, (updS σ [(on, AObj.box [.pv (.int .i64 (k : Int))])]).objs[ome]? = some (.box [.map om]) := fun k => (yb4 (by simpa using h1.symm)).trans hme
 have gM : ∀ k : Int, (updS σ [(on, AObj.box [.pv (.int .i64 (k : Int))])]).objs[om]? = some (.map (tK S) (tV S)) := fun k => (yb4 (by simpa using h2.symm)).trans hm
 have gN : ∀ k : Int, (updS σ [(on, AObj.box [.pv (.int .i64 (k : Int))])]).objs[on]? = some (.box [.pv (.int .i64 (k : Int))]) := fun k => ycN (by simp) (by simpa using hol) _ List.mem_cons_self
 have hz : updS σ [(on, AObj.box [.pv (.int .i64 (n : Int))])] = σ := YX (by intro q hq; rw [List.mem_singleton] at hq; subst hq; exact ho)
 have hset : ∀ k j : Int, (⟨(updS σ [(on, AObj.box [.pv (.int .i64 (k : Int))])]).gl, (updS σ [(on, AObj.box [.pv (.int .i64 (k : Int))])]).objs.set on (.box [.pv (.int .i64 (j : Int))]), (updS σ [(on, AObj.box [.pv (.int .i64 (k : Int))])]).toks⟩ : Store) = updS σ [(on, AObj.box [.pv (.int .i64 (j : Int))])] := fun k j => by simp [updS, yK]
 have gS : ∀ k j : Int, ((updS σ [(on, AObj.box [.pv (.int .i64 (k : Int))])]).objs.set on (.box [.pv (.int .i64 (j : Int))]))[on]? = some (.box [.pv (.int .i64 (j : Int))]) := fun k j => List.getElem?_set_self (by rw [yfx]; exact hol)
 refine ya3 (by intro q hq; rw [List.mem_singleton] at hq; subst hq; rfl) ?_
 refine yk tyOk Tryz.func109 rfl (by simp [Tryz.f109]) ?_
 refine sS ?_
 refine ya (yh (ycx [3, 4, 8] (fun c : Nat => []) (fun c => updS σ [(on, AObj.box [.pv (.int .i64 (c : Int))])]) (fun c => n ≤ c ∧ c ≤ nxtV S n) (fun c => nxtV S n - c) n (⟨Nat.le_refl _, hsp.1⟩) ⟨hz, rfl, by simp [go_sem]⟩ ?_))
 intro c hc
 have hsz : 1 + (Yd (c : Int)).size ≤ 9223372036854775807 := by have := ZW (n := (c : Int)) (by omega) (by omega); omega
 have hlk := fun (s : St) (ho : s.σ.objs[om]? = some (.map (tK S) (tV S))) => ya9 (ty := ty) (s := s) (t := 78) (S := S) (o := om) rfl rfl rfl rfl rfl rfl rfl ho (⟨#[118]⟩ ++ Yd (c : Int))
 have hwc1 : IntKind.i64.wrap ((c : Int) + 1) = (c : Int) + 1 := yO (by omega) (by omega)
 refine ya (ya (yG tyOk tySz 4 (by kernel_rfl) (by decide) ?_))
 refine yo 2 (by simp [go_sem, yE, gE, gN] <;> rfl) ?_
 refine yQ (by first | (intro _ _ hh; exact hh) | simp [go_sem]) rfl rfl rfl rfl (by simp [go_sem] <;> rfl) ybm ((ybl (c : Int) (by omega) (by omega)) _ (by exact hgl)) (by simp [go_sem, yE] <;> rfl) (by simp [go_sem]) rfl rfl ?_
 refine yo 1 (by simp [go_sem, yE, hsz] <;> rfl) ?_
 refine yF ?_
 refine aL 1 (by simp [go_sem, gM, hlk] <;> rfl) ?_
 refine ye (yc (by first | rfl | (simp [go_sem, yE, y6, gE, gM, gN, gS, hsz, hlk, hwc1] <;> rfl)) (fun h0 => ?_) (fun h0 => ?_))
 ·have hmem : memB S (vS (c : Int)) = true := by first | exact h0 | simpa [vS] using h0
  have hclt : c < nxtV S n := Nat.lt_of_le_of_ne hc.2 fun e => by rw [e, hsp.2.2.2] at hmem; cases hmem
  refine yg (yh (aR (by simp [go_sem, yE, y6, gN, hwc1] <;> rfl) ?_))
  exact ⟨(c + 1), ⟨by omega, by omega⟩, (by show _ - _ < _ - _; omega), (by first | exact (hset c ((c : Int) + 1)).symm | simp [go_sem, hset]), rfl, by simp [go_sem]⟩
 ·have hmem : memB S (vS (c : Int)) = false := by first | exact h0 | simpa [vS] using h0
  have hce : c = nxtV S n := Nat.le_antisymm hc.2 (Nat.le_of_not_lt fun h => by rw [hsp.2.2.1 c hc.1 h] at hmem; cases hmem)
  subst hce
  have hws : IntKind.i64.wrap (nxtV S n : Int) = (nxtV S n : Int) := yO (by omega) (by omega)
  have hsz2 : 1 + (Yd (nxtV S n : Int)).size ≤ 9223372036854775807 := hsz
  refine yp (yj (yj (yl (sA (by simp [go_sem, yE, y6, gN, hwc1] <;> rfl) ?_))))
  refine sG ?_
  refine aL 2 (by simp [go_sem, gS, hws] <;> rfl) ?_
  refine aG ybm ((ybl (nxtV S n : Int) (by omega) (by omega)) _ (by exact hgl)) ?_
  refine aL 2 (by simp [go_sem, hsz] <;> rfl) ?_
  refine ye (yd (eR ?_))
  refine ⟨by simp [go_sem, ybw, vS], ?_⟩
  have := ZF (σ := σ) (U := [(on, AObj.box [.pv (.int .i64 (((nxtV S n : Int) + 1) : Int))])]) (B := []) (tk := σ.toks) (by simpa using hol) (by simp)
  rw [List.append_nil] at this
  have hcs := congrArg Store.objs (hset (nxtV S n : Int) ((nxtV S n : Int) + 1))
  simp only at hcs
  simp only [go_sem, ybw, hcs]
  first | exact this | simpa [go_sem] using this

end Go.Proofs.YtigideidmcmfbaaGreatDoor

namespace Go.Proofs.YtigideidmcmfbaaGreatDoor
open Go Go.Aw
variable {kr : KR}
def caMs (on : Nat) (n : Nat) : List (Nat × AObj) := [(on, AObj.box [.pv (.int .i64 (n : Int))])]
theorem caTo (S : List ByteArray) (hS : S.length ≤ 1000000000) (ome om on : Nat) (h1 : on ≠ ome) (h2 : on ≠ om) :
    ToH Tryz.prog (GL kr) (caMs on) [on] [(ome, .box [.map om]), (om, .map (tK S) (tV S))] 109 [.ptr ome 0, .ptr on 0] (ybw S) (yed S) := by
  refine ⟨fun _ => rfl, by simp, fun q hq => ?_, yp7, rfl, fun s no nt h q hq => ?_, fun p i x m s h => ykO h, fun p i x m s σ _ _ _ _ hg hm hgl hU hX => ?_⟩
  · simp only [List.mem_cons, List.not_mem_nil, or_false] at hq ⊢
    rcases hq with rfl | rfl
    · exact fun e => h1 e.symm
    · exact fun e => h2 e.symm
  · rw [caMs, List.mem_singleton] at hq; subst hq; rfl
  · have hh := ykv S s
    unfold yed at hg
    have hme := hX (ome, .box [.map om]) (by simp)
    have hmo := hX (om, .map (tK S) (tV S)) (by simp)
    have hno := hU (on, .box [.pv (.int .i64 (s : Int))]) (by simp [caMs])
    exact ypp S hS p i x s (by omega) ome om on h1 h2 σ hgl hme hmo hno
def caJ (n : Nat) (d : D) (k : Nat) : List AObj := [.map (tK (sfree d [] [])) (tV (sfree d [] [])), .box [.map n], .box [.pv (.int .i64 (k : Int))], .box [.func (.func 109) [.ptr (n + 1) 0, .ptr (n + 2) 0]]]
def caK (d : D) : Nat := (zZ (ybw (sfree d [] [])) d 0).2
theorem yrv (σ : Store) (k : Nat) (n : Int) (a b : AObj) : (updS ⟨σ.gl, σ.objs ++ [a, b, .box [.pv (.int .i64 n)]], σ.toks⟩ (caMs (σ.objs.length + 2) k)).objs = σ.objs ++ [a, b, .box [.pv (.int .i64 (k : Int))]] := by
  simp [updS, yK, caMs]
theorem ypm (d : D) : (sCan d).er = d.er := ycF _ _ _

set_option maxHeartbeats 2000000 in
theorem yoD (d : D) (hd : d.size ≤ 100000000) (σ : Store) (hgl : σ.gl = (GL kr)) : ACalls Tryz.prog 72 [.pv (enc d)] σ (fun r σ' => r = (lay (σ.objs.length + 4) (sCan d)).av ∧ σ' = ⟨σ.gl, σ.objs ++ (caJ σ.objs.length d (caK d) ++ lobjs (σ.objs.length + 4) (sCan d)), σ.toks⟩) := by
 have hsl := yml d [] []
 have hsz : msz (sCan d) = msz d := by rw [← z1, ypm, z1]
 refine ACalls.keepTo (σ.objs.length + 4 + msz d) (by omega) (fun ob hob => ?_) ?_
 · rcases List.mem_append.1 hob with h | h
   · exact .inl h
   · refine .inr ?_
     rcases List.mem_append.1 h with h | h
     · simp only [caJ, List.mem_cons, List.not_mem_nil, or_false] at h
       rcases h with rfl | rfl | rfl | rfl <;> simp [AObj.clo, AV.clos, AV.clo] <;> omega
     · exact (Z9 (m := σ.objs.length + 4) (d := sCan d) (by omega)).1 ob h
 refine yk tyOk Tryz.func72 rfl (by simp [Tryz.f72]) ?_
 refine sS ?_
 refine sG ?_
 refine Zx 1 (sh := [3]) tyOk (by simp [go_sem] <;> rfl) ?_
 refine yy rfl rfl rfl (by simp [go_sem] <;> rfl) yb9 (yah d hd _ (by exact hgl)) (by simp [go_sem] <;> rfl) (by simp [go_sem]) rfl rfl ?_
 rintro r σ' ⟨rfl, rfl⟩
 refine Zx 2 (sh := [3]) tyOk (by simp [go_sem] <;> rfl) ?_
 refine ye (ya (yD (sh := [4]) tyOk (by simp [go_sem] <;> rfl) ?_))
 refine sG ?_
 refine aT 2 ?_
 refine yy rfl rfl rfl (by simp [go_sem] <;> rfl) ynw (yh6 (caTo (sfree d [] []) (by simp at hsl; omega) (σ.objs.length + 1) σ.objs.length (σ.objs.length + 2) (by omega) (by omega)) d hd 0 (by simp [yed]) (by have := ygQ d; omega) (⟨σ.gl, σ.objs ++ [.map (tK (sfree d [] [])) (tV (sfree d [] [])), .box [.map σ.objs.length], .box [.pv (.int .i64 0)]], σ.toks⟩ : Store) (by simp [AV.clos, AV.clo]) (by exact hgl) (by intro q hq; rw [caMs, List.mem_singleton] at hq; subst hq; simp) (by intro q hq; simp at hq; rcases hq with rfl | rfl <;> simp)) (by simp [go_sem] <;> rfl) (by simp [go_sem]) rfl rfl ?_
 rintro r σ' ⟨rfl, rfl⟩
 rw [yrv]
 refine aL 1 (by simp [go_sem, AD.av_cells, AD.cells_len] <;> rfl) ?_
 refine ye (yd ?_)
 have hw2 := (Z9 (m := σ.objs.length + 4) (d := sCan d) (no := σ.objs.length + 4 + msz d) (nt := σ.toks.length) (by omega)).2
 refine ybe (l := [(lay (σ.objs.length + 4) (sCan d)).av]) ?_ (ymW _) ?_
 · exact yf3 (i := 1) rfl rfl rfl (by simp [go_sem]) (by simp [go_sem] <;> rfl)
 refine ⟨hw2, ?_⟩
 unfold Store.cut
 have hsz2 : msz (zZ (ybw (sfree d [] [])) d 0).1 = msz d := hsz
 simp only [go_sem]
 rw [List.take_of_length_le (by simp [Zh, hsz2]; omega), List.take_of_length_le (by simp)]
 rfl

theorem yn1 (d : D) (hd : d.size ≤ 100000000) : Pur Tryz.prog (GL kr) 72 [.pv (enc d)] (.pv (enc (sCan d))) := by
  refine fun σ hgl => ACalls.freeze (yoD d hd σ hgl) ?_
  rintro r σ' ⟨rfl, rfl⟩
  refine ⟨lay (σ.objs.length + 4) (sCan d), rfl, fun q hq => ?_, fun ob hob => ?_, ?_⟩
  · have h3 := yb6 (σ := ⟨σ.gl, σ.objs ++ (caJ σ.objs.length d (caK d) ++ lobjs (σ.objs.length + 4) (sCan d)), σ.toks⟩) (A := σ.objs ++ caJ σ.objs.length d (caK d)) (C := []) (d := sCan d) (by simp [caJ])
    rw [show (σ.objs ++ caJ σ.objs.length d (caK d)).length = σ.objs.length + 4 by simp [caJ]] at h3
    refine ⟨?_, h3 q hq⟩
    have hm : q.1 ∈ (lay (σ.objs.length + 4) (sCan d)).arrs.map (·.1) := List.mem_map.2 ⟨q, hq, rfl⟩
    rw [YM] at hm
    rw [List.mem_range'_1] at hm
    omega
  · simp only [List.take_left] at hob
    exact .inl hob
  · refine ⟨by rw [ycn], ?_⟩
    simp [Store.cut]
def ydM (d : D) : D × Int := if (sis d != 0) = true then (dnone, sis d) else (sCan d, 0)
set_option maxHeartbeats 1000000 in
theorem yom (d : D) (hd : d.size ≤ 100000000) : Pur Tryz.prog (GL kr) 34 [.pv (enc d)] (.tuple [.pv (enc (ydM d).1), .pv (.int .i64 (ydM d).2)]) := by
 refine yB fun σ hgl => ?_
 refine yk tyOk Tryz.func34 rfl (by simp [Tryz.f34]) ?_
 refine sS ?_
 refine ya (sG ?_)
 refine aT 1 ?_
 refine aG ydV ((yfM d hd) _ (by exact hgl)) ?_
 refine aT 1 ?_
 refine ye (sS ?_)
 refine aC (fun h0 => ?_) (fun h0 => ?_)
 ·refine ya (aS ?_)
  refine yd (yf (eR ?_))
  exact ⟨by simp only [ydM, h0, if_true, ybh]; simp [go_sem], by simp [go_sem]⟩
 ·refine yg (sG ?_)
  refine aT 1 ?_
  refine aG yrN ((yn1 d hd) _ (by exact hgl)) ?_
  refine aT 2 ?_
  refine ye (yd (eR ?_))
  exact ⟨by simp only [ydM, h0, Bool.false_eq_true, if_false]; simp [go_sem], by simp [go_sem]⟩

end Go.Proofs.YtigideidmcmfbaaGreatDoor

namespace Go.Proofs.YtigideidmcmfbaaGreatDoor
open Go Go.Aw
variable {kr : KR}
set_option maxHeartbeats 1000000 in
theorem yrn (n : Int) (hn : -9223372036854775808 ≤ n ∧ n ≤ 9223372036854775807) : Pur Tryz.prog (GL kr) 83 [.pv .nils, .pv (.int .i64 n)] (.pv (.str (Yd n))) := by
 refine yB fun σ hgl => ?_
 refine yk tyOk Tryz.func83 rfl (by simp [Tryz.f83]) ?_
 refine sS ?_
 refine sG ?_
 refine aT 1 ?_
 refine aG ybm ((ybl n hn.1 hn.2) _ (by exact hgl)) ?_
 refine aT 1 ?_
 refine ye (ya (sS ?_))
 refine yh (YG (za ?_))
 refine sS ?_
 refine ya (yc (b := false) (by simp [go_sem]) (fun h => ?_) (fun h => ?_))
 ·cases h
 refine yp (yj (yj (yl (sS ?_))))
 refine yd (eR ?_)
 exact ⟨by simp [go_sem], by simp [go_sem]⟩

set_option maxHeartbeats 1000000 in
theorem ysd (p : List Int) (n : Int) (hn : -9223372036854775808 ≤ n ∧ n ≤ 9223372036854775807) (hl : p.length ≤ 400000000) (hp : ∀ j, j ∈ p → 0 ≤ j ∧ j ≤ 1000000000) : Pur Tryz.prog (GL kr) 83 [.pv (.slice (ipv p)), .pv (.int .i64 n)] (.pv (.str (bkS p n))) := by
 refine yB fun σ hgl => ?_
 refine yk tyOk Tryz.func83 rfl (by simp [Tryz.f83]) ?_
 refine sS ?_
 refine sG ?_
 refine aT 1 ?_
 refine aG ybm ((ybl n hn.1 hn.2) _ (by exact hgl)) ?_
 refine aT 1 ?_
 refine ye (ya (sA (by simp [go_sem, yA] <;> rfl) ?_))
 refine yh (yq σ.objs.length σ.toks.length 0 [4, 10, 11] (fun k : Nat => [(5, .pv (.str (bkK p n k))), (12, .pv (.int .i64 ↑k))]) (fun k => σ) (fun k => k ≤ p.length) (fun k => p.length - k) 0 (Nat.zero_le _) ⟨by simp [go_sem, yc1], rfl, by simp, by simp, by simp [go_sem, yc1], fun ob h => .inl (by simpa [go_sem, yA, yc1] using h), by simp [go_sem]⟩ ?_)
 intro k hk
 refine sS ?_
 refine ya (yc (by first | rfl | (simp [go_sem, yA] <;> rfl)) (fun h0 => ?_) (fun h0 => ?_))
 ·have hlt : k < p.length := by simp at h0; omega
  have hw : IntKind.i64.wrap (↑k + 1) = (k : Int) + 1 := yv (by omega)
  obtain ⟨x, hx, hxm⟩ := ym hlt
  have hxi := ygr hx
  have hkz := yor hn hp k (Nat.le_of_lt hlt)
  have hxz := ZW (n := x) (by have := hp x hxm; omega) (by have := hp x hxm; omega)
  have hnx : bkK p n (k + 1) = bkK p n k ++ (⟨#[32]⟩ ++ Yd x) := yi3 hx
  have hs1 : 1 + (Yd x).size ≤ 9223372036854775807 := by omega
  have hs2 : (bkK p n k).size + (1 + (Yd x).size) ≤ 9223372036854775807 := by omega
  refine yg (ya (yh (sA (by simp [go_sem, hxi] <;> rfl) ?_)))
  refine yS ?_
  refine aT 2 ?_
  refine aG ybm ((ybl x (by have := hp x hxm; omega) (by have := hp x hxm; omega)) _ (by exact hgl)) ?_
  refine aL 3 (by simp [go_sem, hs1, hs2, ByteArray.size_append] <;> rfl) ?_
  refine ye (aS ?_)
  exact yx (k + 1) σ.objs.length σ.toks.length 0 (hlt) (by omega) ⟨by simp [go_sem, hnx], rfl, by simp, by simp, by simp [go_sem, hw, hnx], fun ob h => .inl (by simpa [go_sem, yA, hx, hxi, hnx, hs1, hs2, ByteArray.size_append, hw, hnx] using h), by simp [go_sem]⟩
 ·have hke : k = p.length := by simp at h0; omega
  subst hke
  refine yp (yj (yj (yl (sS ?_))))
  refine yd (eR ?_)
  exact ⟨by simp [go_sem, bkS], by simp [go_sem]⟩

theorem ypc (p : List Int) (n : Int) (hn : -9223372036854775808 ≤ n ∧ n ≤ 9223372036854775807) (hl : p.length ≤ 400000000) (hp : ∀ j, j ∈ p → 0 ≤ j ∧ j ≤ 1000000000) : Pur Tryz.prog (GL kr) 83 [.pv (wPV p), .pv (.int .i64 n)] (.pv (.str (bkS p n))) := by
  by_cases h : p = []
  · subst h; exact yrn n hn
  · have e : wPV p = .slice (ipv p) := by unfold wPV; rw [if_neg h]; rfl
    rw [e]; exact ysd p n hn hl hp

set_option maxHeartbeats 1000000 in
theorem yrG (S : List ByteArray) (hS : S.length ≤ 2000000000) (n : Nat) (hn : n ≤ 4000000000) (om : Nat) (σ : Store) (hgl : σ.gl = (GL kr)) (hm : σ.objs[om]? = some (.map (tK S) (tV S))) : ACalls Tryz.prog 53 [.map om, .pv (.int .i64 (n : Int))] σ (fun r σ' => r = .pv (.str (frS S n)) ∧ σ' = setS σ om (addS S (frS S n))) := by
 have hsp := ydL S n
 have hol := (List.getElem?_eq_some_iff.1 hm).1
 have hmg : σ.objs[om] = .map (tK S) (tV S) := by have h := hm; rw [List.getElem?_eq_getElem hol] at h; exact Option.some.inj h
 have hpk := fun (s : St) (x : ByteArray) (ho : s.σ.objs[om]? = some (.map (tK S) (tV S))) => yck (ty := ty) (s := s) (t := 78) (o := om) rfl rfl rfl rfl ho x
 refine ya3 (V := [(om, AObj.map (tK (addS S (frS S n))) (tV (addS S (frS S n))))]) (by intro q hq; rw [List.mem_singleton] at hq; subst hq; rfl) ?_
 refine yk tyOk Tryz.func53 rfl (by simp [Tryz.f53]) ?_
 refine sS ?_
 refine ya (yh (yq σ.objs.length σ.toks.length 0 [0, 4] (fun c : Nat => [(1, .pv (.int .i64 (c : Int)))]) (fun c => σ) (fun c => n ≤ c ∧ c ≤ nxtV S n) (fun c => nxtV S n - c) n (⟨Nat.le_refl _, hsp.1⟩) ⟨by simp [go_sem], rfl, by simp, by simp, by simp [go_sem, hol], fun ob h => .inl (by simpa [go_sem, hm, hpk, hol, hmg] using h), by simp [go_sem]⟩ ?_))
 intro c hc
 have hsz : 1 + (Yd (c : Int)).size ≤ 9223372036854775807 := by have := ZW (n := (c : Int)) (by omega) (by omega); omega
 have hlk := fun (s : St) (ho : s.σ.objs[om]? = some (.map (tK S) (tV S))) => ya9 (ty := ty) (s := s) (t := 78) (S := S) (o := om) rfl rfl rfl rfl rfl rfl rfl ho (⟨#[118]⟩ ++ Yd (c : Int))
 have hwc1 : IntKind.i64.wrap ((c : Int) + 1) = (c : Int) + 1 := yO (by omega) (by omega)
 refine ya (sG ?_)
 refine aT 2 ?_
 refine aG ybm ((ybl (c : Int) (by omega) (by omega)) _ (by exact hgl)) ?_
 refine aL 2 (by simp [go_sem, hol, hmg, hsz, hlk] <;> rfl) ?_
 refine ye (yc (by first | rfl | (simp [go_sem, hm, hpk, hol, hmg, hsz, hlk, hwc1] <;> rfl)) (fun h0 => ?_) (fun h0 => ?_))
 ·have hmem : memB S (vS (c : Int)) = true := by first | exact h0 | simpa [vS] using h0
  have hclt : c < nxtV S n := Nat.lt_of_le_of_ne hc.2 fun e => by rw [e, hsp.2.2.2] at hmem; cases hmem
  refine yg (yh (aR (by simp [go_sem, hwc1] <;> rfl) ?_))
  exact yx ((c + 1)) σ.objs.length σ.toks.length 0 (⟨by omega, by omega⟩) ((by show _ - _ < _ - _; omega)) ⟨by simp [go_sem], rfl, by simp, by simp, by simp [go_sem, hol], fun ob h => .inl (by simpa [go_sem, hm, hpk, hol, hmg, hsz, hlk, hwc1] using h), by simp [go_sem]⟩
 ·have hmem : memB S (vS (c : Int)) = false := by first | exact h0 | simpa [vS] using h0
  have hce : c = nxtV S n := Nat.le_antisymm hc.2 (Nat.le_of_not_lt fun h => by rw [hsp.2.2.1 c hc.1 h] at hmem; cases hmem)
  subst hce
  have hsz2 : 1 + (Yd (nxtV S n : Int)).size ≤ 9223372036854775807 := hsz
  refine yp (yj (yj (yl (sG ?_))))
  refine aT 1 ?_
  refine aG ybm ((ybl (nxtV S n : Int) (by omega) (by omega)) _ (by exact hgl)) ?_
  refine aL 2 (by simp [go_sem, hsz] <;> rfl) ?_
  refine ye (sA (by simp [go_sem, hpk, hol, hmg] <;> rfl) ?_)
  refine sS ?_
  refine yd (eR ?_)
  refine ⟨by simp [go_sem, frS, vS], ?_⟩
  have := ZF (σ := σ) (U := [(om, AObj.map (tK (addS S (frS S n))) (tV (addS S (frS S n))))]) (B := []) (tk := σ.toks) (by simpa using hol) (by simp)
  rw [List.append_nil] at this
  exact this

set_option maxHeartbeats 1000000 in
theorem yfN (l : List D) (hl : l.length ≤ 1000000000) (om : Nat) (S : List ByteArray) (σ : Store) (hgl : σ.gl = (GL kr)) (hm : σ.objs[om]? = some (.map (tK S) (tV S))) (ih : ∀ x, x ∈ l → ∀ (R : List ByteArray) (τ : Store), τ.gl = (GL kr) → τ.objs[om]? = some (.map (tK R) (tV R)) → ACalls Tryz.prog 54 [.map om, .pv (.slice (x.kids.map enc))] τ (fun r σ' => r = .map om ∧ σ' = setS τ om (yX x.kids R))) : ACalls Tryz.prog 54 [.map om, .pv (.slice (l.map enc))] σ (fun r σ' => r = .map om ∧ σ' = setS σ om (yX l S)) := by
 have hol := (List.getElem?_eq_some_iff.1 hm).1
 have hpk := fun (R : List ByteArray) (s : St) (x : ByteArray) (ho : s.σ.objs[om]? = some (.map (tK R) (tV R))) => yck (ty := ty) (s := s) (t := 78) (o := om) rfl rfl rfl rfl ho x
 have hgm : ∀ R, (setS σ om R).objs[om]? = some (.map (tK R) (tV R)) := fun R => yfj hol
 have hgg : ∀ R (h : om < (setS σ om R).objs.length), (setS σ om R).objs[om] = AObj.map (tK R) (tV R) := fun R h => by have e := hgm R; rw [List.getElem?_eq_getElem h] at e; exact Option.some.inj e
 refine ya3 (V := [(om, AObj.map (tK (yX l S)) (tV (yX l S)))]) (by intro q hq; rw [List.mem_singleton] at hq; subst hq; rfl) ?_
 refine yk tyOk Tryz.func54 rfl (by simp [Tryz.f54]) ?_
 refine sS ?_
 refine ya (sS ?_)
 refine yh (yN 0 [0, 4, 7, 8] (fun k : Nat => [(9, .pv (.int .i64 ↑k))]) (fun k => setS σ om (yX (l.take k) S)) (fun k => k ≤ l.length) (fun k => l.length - k) 0 (Nat.zero_le _) ⟨(ybF hm), rfl, by simp [go_sem], by simp [go_sem]⟩ ?_)
 intro k hk
 refine sS ?_
 refine ya (yc (by first | rfl | (simp [go_sem, hgm, hgg, hpk, hol, zm, yj9, ygJ, zf] <;> rfl)) (fun h0 => ?_) (fun h0 => ?_))
 ·have hlt : k < l.length := by simp at h0; omega
  have hw : IntKind.i64.wrap (↑k + 1) = (k : Int) + 1 := yv (by omega)
  obtain ⟨x, hx, hxm⟩ := ym hlt
  have hnx := ylp (S := S) hx
  have hpkk := hpk (yX (l.take k) S)
  refine yg (ya (yh (sA (by simp [go_sem, hx] <;> rfl) ?_)))
  refine ya (sS ?_)
  refine yc (by first | rfl | (simp [go_sem, hgm, hgg, hpk, hol, zm, yj9, ygJ, zf, hx, hpkk] <;> rfl)) (fun h1 => ?_) (fun h1 => ?_)
  ·refine aR (by simp [go_sem, hgg, hol, ygJ, zf, hpkk] <;> rfl) ?_
   refine yS ?_
   refine aT 3 ?_
   refine yy rfl rfl rfl (by simp [go_sem] <;> rfl) ycs (ih x hxm _ _ (by exact hgl) (hgm _)) (by simp [go_sem] <;> rfl) (by simp [go_sem]) rfl rfl ?_
   rintro r σ' ⟨rfl, rfl⟩
   refine ye (aR (by simp [go_sem, zf] <;> rfl) ?_)
   exact ⟨k + 1, hlt, (by show _ - _ < _ - _; omega), (by show setS σ om (yX (l.take (k + 1)) S) = _; first | (rw [hnx, if_pos (by simpa using h1)]; done) | (rw [hnx, if_pos (by simpa using h1)]; simp [go_sem, zf]; done) | (rw [hnx, if_neg (by simpa using h1)]; done) | (rw [hnx, if_neg (by simpa using h1)]; simp [go_sem, zf]; done)), rfl, by simp [go_sem, hw, hnx], by simp [go_sem]⟩
  ·refine yg (yS ?_)
   refine aT 3 ?_
   refine yy rfl rfl rfl (by simp [go_sem] <;> rfl) ycs (ih x hxm _ _ (by exact hgl) (hgm _)) (by simp [go_sem] <;> rfl) (by simp [go_sem]) rfl rfl ?_
   rintro r σ' ⟨rfl, rfl⟩
   refine ye (aR (by simp [go_sem, zf] <;> rfl) ?_)
   exact ⟨k + 1, hlt, (by show _ - _ < _ - _; omega), (by show setS σ om (yX (l.take (k + 1)) S) = _; first | (rw [hnx, if_pos (by simpa using h1)]; done) | (rw [hnx, if_pos (by simpa using h1)]; simp [go_sem, zf]; done) | (rw [hnx, if_neg (by simpa using h1)]; done) | (rw [hnx, if_neg (by simpa using h1)]; simp [go_sem, zf]; done)), rfl, by simp [go_sem, hw, hnx], by simp [go_sem]⟩
 ·have hke : k = l.length := by simp at h0; omega
  subst hke
  refine yp (yj (yj (yl (sA (by simp [go_sem, List.take_length] <;> rfl) ?_))))
  refine yd (eR ?_)
  refine ⟨by simp [go_sem, hol], ?_⟩
  have := ZF (σ := σ) (U := [(om, AObj.map (tK (yX l S)) (tV (yX l S)))]) (B := []) (tk := σ.toks) (by simpa using hol) (by simp)
  rw [List.append_nil] at this
  exact this

theorem ybv (l : List D) (hl : l.length ≤ 1000000000) (hs : D.sizes l ≤ 1000000000) (om : Nat) (S : List ByteArray) (σ : Store) (hgl : σ.gl = (GL kr)) (hm : σ.objs[om]? = some (.map (tK S) (tV S))) : ACalls Tryz.prog 54 [.map om, .pv (.slice (l.map enc))] σ (fun r σ' => r = .map om ∧ σ' = setS σ om (yX l S)) := by
  have key : ∀ d : D, d.size ≤ 1000000000 → ∀ (R : List ByteArray) (τ : Store), τ.gl = (GL kr) → τ.objs[om]? = some (.map (tK R) (tV R)) → ACalls Tryz.prog 54 [.map om, .pv (.slice (d.kids.map enc))] τ (fun r σ' => r = .map om ∧ σ' = setS τ om (yX d.kids R)) := by
    intro d
    induction d using D.ind with
    | _ k n t l ih =>
      intro hd R τ h1 h2
      have h3 := D.kids_length_lt (.mk k n t l)
      exact yfN l (by have : l.length < (D.mk k n t l).size := h3; omega) om R τ h1 h2 fun x hx R2 τ2 h4 h5 => ih x hx (by have := D.size_kid_lt (d := D.mk k n t l) hx; omega) R2 τ2 h4 h5
  refine yfN l hl om S σ hgl hm fun x hx R τ h1 h2 => key x ?_ R τ h1 h2
  have := D.size_le_sizes hx
  omega

end Go.Proofs.YtigideidmcmfbaaGreatDoor

namespace Go.Proofs.YtigideidmcmfbaaGreatDoor
open Go Go.Aw
variable {kr : KR}
set_option maxHeartbeats 1000000 in
theorem ydY (p : List Int) (hl : p.length ≤ 400000000) (hp : ∀ j, j ∈ p → 0 ≤ j ∧ j ≤ 1000000000) (sc : List (ByteArray × ByteArray)) (ns : List ByteArray) (n : Int) (h0n : 0 ≤ n) (hnn : n + ns.length ≤ 1000000000) (op os : Nat) (σ : Store) (hgl : σ.gl = (GL kr)) (ho : σ.objs[op]? = some (.box [.pv (wPV p)])) (hs : σ.objs[os]? = some (.box [.pv (yH PV.str sc)])) : zJ Tryz.prog σ 116 [.pv (.int .i64 n), .pv (.slice (ns.map .str)), .ptr op 0, .ptr os 0] (.pv (yH PV.str (yw sc ns (kyS p ns n)))) := by
 refine Y1 ?_
 refine yk tyOk Tryz.func116 rfl (by simp [Tryz.f116]) ?_
 refine sS ?_
 refine sS ?_
 refine ya (sS ?_)
 refine zF 7 9 1 (by simp [go_sem] <;> rfl) ?_
 refine yh (yN 0 [0, 1, 2, 3, 6, 10] (fun k : Nat => [(7, .acc (((kyS p ns n).map .str).take k) σ.toks.length), (11, .pv (.int .i64 ↑k))]) (fun k => { σ with toks := σ.toks ++ [⟨k, 9, 1⟩] }) (fun k => k ≤ ns.length) (fun k => ns.length - k) 0 (Nat.zero_le _) ⟨rfl, rfl, by simp [go_sem, List.take_zero], by simp [go_sem]⟩ ?_)
 intro k hk
 refine sS ?_
 refine ya (yc (by first | rfl | (simp [go_sem, ho, hs] <;> rfl)) (fun h0 => ?_) (fun h0 => ?_))
 ·have hlt : k < ns.length := by simp at h0; omega
  have hw : IntKind.i64.wrap (↑k + 1) = (k : Int) + 1 := yv (by omega)
  obtain ⟨x, hx, hxm⟩ := ym hlt
  have hwn : IntKind.i64.wrap (n + (k : Int)) = n + (k : Int) := yO (by omega) (by omega)
  have hkt : ((kyS p ns n).map PV.str).take (k + 1) = ((kyS p ns n).map PV.str).take k ++ [.str (bkS p (n + (k : Int)))] := by rw [← List.map_take, yoj p ns n hlt, List.map_append, List.map_take]; rfl
  have hkl := ygL p ns n
  have hmk : min k (kyS p ns n).length = k := by omega
  have hmk2 : min k ns.length = k := by omega
  have hb2 : (k + 1) * 16 ≤ 140737488355328 := by omega
  refine yg (ya (yh (sS ?_)))
  refine yS ?_
  refine aL 5 (by simp [go_sem, ho, hwn] <;> rfl) ?_
  refine aG ylH ((ypc p (n + (k : Int)) (by omega) hl hp) _ (by exact hgl)) ?_
  refine aL 3 (by simp [go_sem, hkl, hmk2, hb2, List.length_take] <;> rfl) ?_
  refine ye (aS ?_)
  exact ⟨k + 1, hlt, (by show _ - _ < _ - _; omega), (by simp [go_sem]), rfl, by simp [go_sem, hkt, hw], by simp [go_sem]⟩
 ·have hke : k = ns.length := by simp at h0; omega
  subst hke
  have hall : ((kyS p ns n).map PV.str).take ns.length = (kyS p ns n).map PV.str := List.take_of_length_le (by rw [List.length_map, ygL]; exact Nat.le_refl _)
  refine yp (yj (yj (yl (sG ?_))))
  refine aL 3 (by simp [go_sem, hs, hall] <;> rfl) ?_
  refine aG yaY ((ZO sc ns (kyS p ns n) (ygL _ _ _) (by omega)) _ (by exact hgl)) ?_
  refine aT 1 ?_
  refine ye (yd (eR ?_))
  exact ⟨by simp [go_sem], by simp [go_sem]⟩

end Go.Proofs.YtigideidmcmfbaaGreatDoor

namespace Go.Proofs.YtigideidmcmfbaaGreatDoor
open Go Go.Aw
variable {kr : KR}
set_option maxHeartbeats 4000000 in
theorem ypq {x : ByteArray} {ox opl oar om ov tk : Nat} (H : FnH x ox opl oar om ov 115) (d : D) : ∀ (hd : d.size ≤ 100000000) (p : List Int) (hp : p.length + 3 * d.size ≤ 400000000) (hpp : ∀ j, j ∈ p → 0 ≤ j ∧ j ≤ 1000000000) (sc : List (ByteArray × ByteArray)) (s : FSt) (hb : (fnd x d p sc s).1.length ≤ 1000000000) (σ : Store) (hgl : σ.gl = (GL kr)) (hF : FHas 44 opl om tk σ s) (hXU : HasU σ (foX x ox opl oar om ov 115)), ACalls Tryz.prog 115 [.pv (enc d), .pv (wPV p), .pv ((yH PV.str) sc), .ptr ox 0, .ptr opl 0, .ptr oar 0, .ptr ov 0] σ (fun r σ' => r = .tuple [] ∧ σ' = foS opl om tk σ (fnd x d p sc s)) := by
 induction d using D.indS with
 | _ d ih =>
 intro hd p hp hpp sc s hb σ hgl hF hXU
 have hks : ∀ i, σ.objs.length ≤ i → i ∉ [opl, om] := fun i hi hm => by have := hF.lt hm; omega
 have hopl := hF.lt (i := opl) (by simp)
 have homl := hF.lt (i := om) (by simp)
 have hne := H.hne
 have htk := hF.2
 have htl := hF.ltk
 have gpl : σ.objs[opl]? = some (.box [.acc (s.1.map wPV) tk]) := hF.1 (opl, _) (by simp [foU])
 have gom : σ.objs[om]? = some (.map (tK s.2) (tV s.2)) := hF.1 (om, _) (by simp [foU])
 have hApl : ∀ B, (σ.objs ++ B)[opl]? = some (.box [.acc (s.1.map wPV) tk]) := fun B => by rw [List.getElem?_append_left hopl]; exact gpl
 have hAom : ∀ B, (σ.objs ++ B)[om]? = some (.map (tK s.2) (tV s.2)) := fun B => by rw [List.getElem?_append_left homl]; exact gom
 have gox : σ.objs[ox]? = some (.box [.pv (.str x)]) := hXU (ox, _) (by simp [foX])
 have hAox : ∀ B, (σ.objs ++ B)[ox]? = some (.box [.pv (.str x)]) := fun B => by rw [List.getElem?_append_left (List.getElem?_eq_some_iff.1 gox).1]; exact gox
 have hnox : ox ∉ [opl, om] := H.hX (ox, .box [.pv (.str x)]) (by simp [foX])
 have hsox : ∀ (Y : Store) (s : FSt), (foS opl om tk Y s).objs[ox]? = Y.objs[ox]? := fun Y s => yab hnox
 have gor : σ.objs[oar]? = some (.box [.map om]) := hXU (oar, _) (by simp [foX])
 have hAor : ∀ B, (σ.objs ++ B)[oar]? = some (.box [.map om]) := fun B => by rw [List.getElem?_append_left (List.getElem?_eq_some_iff.1 gor).1]; exact gor
 have hnor : oar ∉ [opl, om] := H.hX (oar, .box [.map om]) (by simp [foX])
 have hsor : ∀ (Y : Store) (s : FSt), (foS opl om tk Y s).objs[oar]? = Y.objs[oar]? := fun Y s => yab hnor
 have gov : σ.objs[ov]? = some (.box [.func (.func 115) [.ptr ox 0, .ptr opl 0, .ptr oar 0, .ptr ov 0]]) := hXU (ov, _) (by simp [foX])
 have hAov : ∀ B, (σ.objs ++ B)[ov]? = some (.box [.func (.func 115) [.ptr ox 0, .ptr opl 0, .ptr oar 0, .ptr ov 0]]) := fun B => by rw [List.getElem?_append_left (List.getElem?_eq_some_iff.1 gov).1]; exact gov
 have hnov : ov ∉ [opl, om] := H.hX (ov, .box [.func (.func 115) [.ptr ox 0, .ptr opl 0, .ptr oar 0, .ptr ov 0]]) (by simp [foX])
 have hsov : ∀ (Y : Store) (s : FSt), (foS opl om tk Y s).objs[ov]? = Y.objs[ov]? := fun Y s => yab hnov
 have hs0 : ∀ (Y : Store) (s : FSt), (foS opl om tk Y s).objs[σ.objs.length]? = Y.objs[σ.objs.length]? := fun Y s => yab (hks _ (by omega))
 have hs1 : ∀ (Y : Store) (s : FSt), (foS opl om tk Y s).objs[σ.objs.length + 1]? = Y.objs[σ.objs.length + 1]? := fun Y s => yab (hks _ (by omega))
 have hs3 : ∀ (Y : Store) (s : FSt), (foS opl om tk Y s).objs[σ.objs.length + 3]? = Y.objs[σ.objs.length + 3]? := fun Y s => yab (hks _ (by omega))
 have hss : ∀ (B : List AObj) (s2 s3 : FSt), foS opl om tk (foS opl om tk ⟨σ.gl, σ.objs ++ B, σ.toks⟩ s2) s3 = foS opl om tk ⟨σ.gl, σ.objs ++ B, σ.toks⟩ s3 := fun B s2 s3 => yg0 hne (Y := ⟨σ.gl, σ.objs ++ B, σ.toks⟩) htk
 have hUa : ∀ B, FHas 44 opl om tk ⟨σ.gl, σ.objs ++ B, σ.toks⟩ s := fun B => hF.app B
 have hXa : ∀ B, HasU ⟨σ.gl, σ.objs ++ B, σ.toks⟩ (foX x ox opl oar om ov 115) := fun B => hXU.app B _
 have hcut : ∀ (s2 : FSt) B, (foS opl om tk ⟨σ.gl, σ.objs ++ B, σ.toks⟩ s2).cut σ.objs.length σ.toks.length = foS opl om tk σ s2 := fun s2 B => hF.cut B rfl rfl
 have hsets : ∀ (a b c : AObj) (s2 : FSt), (⟨σ.gl, (foS opl om tk ⟨σ.gl, σ.objs ++ [a, b], σ.toks⟩ s2).objs.set (σ.objs.length + 1) c, (foS opl om tk ⟨σ.gl, σ.objs ++ [a, b], σ.toks⟩ s2).toks⟩ : Store) = foS opl om tk ⟨σ.gl, σ.objs ++ [a, c], σ.toks⟩ s2 := fun a b c s2 => yn7 (hks _ (by omega))
 have hgl2 : σ.gl = (GL kr) := hgl
 have hwc := yar p
 have hcl := Zi p
 have hcn := ycg p
 unfold PV.nrm at hcn
 have hkl := D.kids_length_lt d
 have hsl := yZ d
 have hon := yau d
 have h2p : ∀ j, j ∈ ([2] : List Int) → 0 ≤ j ∧ j ≤ 1000000000 := by intro j hj; simp at hj; omega
 have h3p : ∀ j, j ∈ ([3] : List Int) → 0 ≤ j ∧ j ≤ 1000000000 := by intro j hj; simp at hj; omega
 refine yrI hF (by simp [go_sem]) ?_
 refine yk tyOk Tryz.func115 rfl (by simp [Tryz.f115]) ?_
 refine ya (yD (sh := [8, 9]) tyOk (by simp [go_sem, hwc] <;> rfl) ?_)
 refine sS ?_
 refine sG ?_
 refine aT 1 ?_
 refine aG yaJ ((yaI d (by omega)) _ (by exact hgl)) ?_
 refine ye (yh (sS ?_))
 refine yc (by first | rfl | (simp [go_sem, hApl, hAom, hAox, hAor, hAov, hsox, hsor, hsov, hs0, hs1, hs3, zj, foS_nt, hss, hwc, hcl, hcn, htk] <;> rfl)) (fun h0 => ?_) (fun h0 => ?_)
 ·have hk : yb d = 2 := by simpa using h0
  have hfin0 := yij (x := x) (p := p) (sc := sc) (s := s) hk
  refine sG ?_
  refine aL 2 (by simp [go_sem, hAox] <;> rfl) ?_
  refine aG yka ((ykC sc x) _ (by exact hgl)) ?_
  refine aT 5 ?_
  refine ye (sG ?_)
  refine aL 5 (by simp [go_sem, hAox] <;> rfl) ?_
  refine yn 48 (by first | rfl | (simp [go_sem, hApl, hAom, hAox, hAor, hAov, hsox, hsor, hsov, hs0, hs1, hs3, zj, foS_nt, hss, hwc, hcl, hcn, htk] <;> rfl)) (fun h1 => ?_) (fun h1 => ?_)
  ·refine aLG 2 48 true (by simp [go_sem] <;> rfl) ?_
   refine aT 1 ?_
   refine ye (yc (by first | rfl | (simp [go_sem, hApl, hAom, hAox, hAor, hAov, hsox, hsor, hsov, hs0, hs1, hs3, zj, foS_nt, hss, hwc, hcl, hcn, htk] <;> rfl)) (fun h2 => ?_) (fun h2 => ?_))
   ·have hcc : (decide (d.text = x) && !(zl sc x).isSome) = true := by simp_all
    have hfin : fnd x d p sc s = (s.1 ++ [p], (sc.map (·.2)).foldl addS s.2) := by rw [hfin0, if_pos hcc]
    have hb24 : (s.1.length + 1) * 24 ≤ 140737488355328 := by rw [hfin] at hb; simp at hb; omega
    have hst : ∀ (ob : AObj), ((σ.objs ++ [AObj.box [.pv (wPV p)], AObj.box [.pv ((yH PV.str) sc)]]).set opl ob)[σ.objs.length + 1]? = some (.box [.pv ((yH PV.str) sc)]) := fun ob => by rw [List.getElem?_set_ne (by omega)]; simp
    have hst2 : ∀ (ob : AObj) (h : σ.objs.length + 1 < ((σ.objs ++ [AObj.box [.pv (wPV p)], AObj.box [.pv ((yH PV.str) sc)]]).set opl ob).length), ((σ.objs ++ [AObj.box [.pv (wPV p)], AObj.box [.pv ((yH PV.str) sc)]]).set opl ob)[σ.objs.length + 1] = .box [.pv ((yH PV.str) sc)] := fun ob h => by have e := hst ob; rw [List.getElem?_eq_getElem h] at e; exact Option.some.inj e
    refine sA (by simp [go_sem, hApl, hcl, hcn, htk, hb24] <;> rfl) ?_
    refine sA (by simp [go_sem, hst2] <;> rfl) ?_
    refine yh (yN 1 [5, 6, 7, 8, 9, 10, 24] (fun k : Nat => [(13, .pv ((yH PV.str) (sc.drop k)))]) (fun k => foS opl om tk (⟨σ.gl, σ.objs ++ [AObj.box [.pv (wPV p)], AObj.box [.pv ((yH PV.str) sc)]], σ.toks⟩ : Store) (s.1 ++ [p], ((sc.map (·.2)).take k).foldl addS s.2)) (fun k => k ≤ sc.length) (fun k => sc.length - k) 0 ((Nat.zero_le _)) ⟨(by simpa [go_sem, Store.tok, List.map_append] using (ypZ hne (Y := (⟨σ.gl, σ.objs ++ [AObj.box [.pv (wPV p)], AObj.box [.pv ((yH PV.str) sc)]], σ.toks⟩ : Store)) htk (by simp; omega) (s.1 ++ [p]) s.2 (hAom _)).symm), rfl, by simp [go_sem, List.drop_zero], by simp [go_sem]⟩ ?_)
    intro k hk
    refine ya (sG ?_)
    refine aT 1 ?_
    refine ycR tyOk (decide (k < sc.length)) rfl rfl rfl rfl (ydZ PV.str sc k) rfl rfl ?_
    refine ye (yc (by first | rfl | (simp [go_sem, hApl, hAom, hAox, hAor, hAov, hsox, hsor, hsov, hs0, hs1, hs3, zj, foS_nt, hss, hwc, hcl, hcn, htk, hb24, hst, hst2] <;> rfl)) (fun h3 => ?_) (fun h3 => ?_))
    ·have hlt : k < sc.length := by simpa using h3
     obtain ⟨y, hy, hym⟩ := ym hlt
     have hyc := ybA PV.str hy
     have hgm : (foS opl om tk (⟨σ.gl, σ.objs ++ [AObj.box [.pv (wPV p)], AObj.box [.pv ((yH PV.str) sc)]], σ.toks⟩ : Store) (s.1 ++ [p], ((sc.map (·.2)).take k).foldl addS s.2)).objs[om]? = some (.map (tK (((sc.map (·.2)).take k).foldl addS s.2)) (tV (((sc.map (·.2)).take k).foldl addS s.2))) := ((hUa _).upd hne).1 (om, _) (by simp [foU])
     have hpk := fun (z : St) (x : ByteArray) (ho : z.σ.objs[om]? = some (.map (tK (((sc.map (·.2)).take k).foldl addS s.2)) (tV (((sc.map (·.2)).take k).foldl addS s.2)))) => yck (ty := ty) (s := z) (t := 78) (o := om) rfl rfl rfl rfl ho x
     refine yg (ya (yh (yG tyOk tySz 5 (by kernel_rfl) (by decide) ?_)))
     refine yo 5 (by simp [go_sem, hAor, hsor, zj, hyc] <;> rfl) ?_
     refine yF ?_
     refine aL 1 (by simp [go_sem, hgm, hpk, yoJ] <;> rfl) ?_
     refine ye (aS ?_)
     exact ⟨(k + 1), hlt, (by show _ - _ < _ - _; omega), (by show foS _ _ _ _ (_, ((sc.map (·.2)).take (k + 1)).foldl addS s.2) = _; rw [yI (x := y.2) (by simp [hy]), List.foldl_append]; simp [go_sem]), rfl, by simp [go_sem], by simp [go_sem]⟩
    ·have hke : k = sc.length := by simp at h3; omega
     subst hke
     have hta : (sc.map (·.2)).take sc.length = sc.map (·.2) := List.take_of_length_le (by simp)
     refine yp (yj (yj (yl ?_)))
     first | (show Go.Aw.Ends ty _ _ Go.Exit.normal _) | (simp only [yu]; done) | simp only [yu] | unfold yu
     refine yz (by first | rfl | (simp [go_sem] <;> rfl)) (by first | rfl | simp [go_sem]) ?_
     exact ⟨rfl, by (first | rw [hfin] | rw [hfin0, if_neg (by simp_all)]); first | exact hcut _ _ | (show Store.cut (foS _ _ _ (foS _ _ _ _ _) _) _ _ = _; rw [hss]; exact hcut _ _) | (simp only [hta]; exact hcut _ _) | (rw [hF.self]; simp [go_sem, Store.cut])⟩
   ·have hcc : ¬ (decide (d.text = x) && !(zl sc x).isSome) = true := by simp_all
    have hfin : fnd x d p sc s = s := by rw [hfin0, if_neg hcc]
    refine yg ?_
    first | (show Go.Aw.Ends ty _ _ Go.Exit.normal _) | (simp only [yu]; done) | simp only [yu] | unfold yu
    refine yz (by first | rfl | (simp [go_sem] <;> rfl)) (by first | rfl | simp [go_sem]) ?_
    exact ⟨rfl, by (first | rw [hfin] | rw [hfin0, if_neg (by simp_all)]); first | exact hcut _ _ | (show Store.cut (foS _ _ _ (foS _ _ _ _ _) _) _ _ = _; rw [hss]; exact hcut _ _) | (simp only [hta]; exact hcut _ _) | (rw [hF.self]; simp [go_sem, Store.cut])⟩
  ·refine aK 2 48 true ?_
   refine aT 1 ?_
   refine ye (yc (b := false) (by simp [go_sem]) (fun h => ?_) (fun h => ?_))
   ·cases h
   refine yg ?_
   first | (show Go.Aw.Ends ty _ _ Go.Exit.normal _) | (simp only [yu]; done) | simp only [yu] | unfold yu
   refine yz (by first | rfl | (simp [go_sem] <;> rfl)) (by first | rfl | simp [go_sem]) ?_
   exact ⟨rfl, by (first | rw [hfin] | rw [hfin0, if_neg (by simp_all)]); first | exact hcut _ _ | (show Store.cut (foS _ _ _ (foS _ _ _ _ _) _) _ _ = _; rw [hss]; exact hcut _ _) | (simp only [hta]; exact hcut _ _) | (rw [hF.self]; simp [go_sem, Store.cut])⟩
 ·have hk2 : yb d ≠ 2 := by simpa using h0
  refine ya (sS ?_)
  refine yc (by first | rfl | (simp [go_sem, hApl, hAom, hAox, hAor, hAov, hsox, hsor, hsov, hs0, hs1, hs3, zj, foS_nt, hss, hwc, hcl, hcn, htk] <;> rfl)) (fun h4 => ?_) (fun h4 => ?_)
  ·have hk : yb d = 5 ∨ yb d = 9 := by first | exact .inl (by simpa using h4) | exact .inr (by simpa using h4)
   have hlen := hsl.1 (by omega)
   obtain ⟨x2, hx2, hx2m⟩ := ym (l := d.kids) (k := 2) (by omega)
   have hd2 : d2 d.kids = x2 := yC hx2
   have hxs := D.size_kid_lt hx2m
   have hq : subs d = [subL d 2 x2] := by rw [← hd2]; exact yU hk
   have hfin := yiy (x := x) (p := p) (sc := sc) (s := s) hk
   rw [hd2] at hfin
   have hqm : subL d 2 x2 ∈ subs d := by rw [hq]; simp
   have ihx := ih (subL d 2 x2) hqm
   simp only [subL] at ihx
   refine yg (yc (b := true) (by simp [go_sem, h4]) (fun h => ?_) (fun h => ?_))
   rotate_left
   ·cases h
   refine yG tyOk tySz 12 (by kernel_rfl) (by decide) ?_
   refine yo 7 (by simp [go_sem, hAov, hx2] <;> rfl) ?_
   refine yQ (by first | (intro _ _ hh; exact hh) | simp [go_sem]) rfl rfl rfl rfl (by simp [go_sem] <;> rfl) y8 ((y7 p [2] (by omega) (by simp) (by simp)) _ (by exact hgl)) (by simp [go_sem] <;> rfl) (by simp [go_sem, hcn, ipv]) rfl rfl ?_
   refine yo 2 (by simp [go_sem] <;> rfl) ?_
   refine yQ (by first | (intro _ _ hh; exact hh) | simp [go_sem]) rfl rfl rfl rfl (by simp [go_sem] <;> rfl) Yj ((YO d (by omega)) _ (by exact hgl)) (by simp [go_sem] <;> rfl) (by simp [go_sem]) rfl rfl ?_
   refine yQ (by first | (intro _ _ hh; exact hh) | simp [go_sem]) rfl rfl rfl rfl (by simp [go_sem] <;> rfl) yb2 (ydY p (by omega) hpp (sc) (ownS d) (0) (by omega) (by omega) σ.objs.length (σ.objs.length + 1) _ (by exact hgl) (by simp [go_sem]) ((by simp [go_sem]))) (by simp [go_sem] <;> rfl) (by simp [go_sem]) rfl rfl ?_
   refine yF ?_
   refine yy rfl rfl rfl (by simp [go_sem] <;> rfl) ZR (ihx (by show x2.size ≤ _; omega) (p ++ [2]) (by show _ + 3 * x2.size ≤ _; simp; omega) (yak hpp h2p) (yw sc (ownS d) (kyS p (ownS d) 0)) (s) (by rw [← hfin]; exact hb) _ (by exact hgl) (hUa _) (hXa _)) (by simp [go_sem] <;> rfl) (by simp [go_sem]) rfl rfl ?_
   rintro r σ' ⟨rfl, rfl⟩
   refine ye ?_
   first | (show Go.Aw.Ends ty _ _ Go.Exit.normal _) | (simp only [yu]; done) | simp only [yu] | unfold yu
   refine yz (by first | rfl | (simp [go_sem] <;> rfl)) (by first | rfl | simp [go_sem]) ?_
   exact ⟨rfl, by (first | rw [hfin] | rw [hfin0, if_neg (by simp_all)]); first | exact hcut _ _ | (show Store.cut (foS _ _ _ (foS _ _ _ _ _) _) _ _ = _; rw [hss]; exact hcut _ _) | (simp only [hta]; exact hcut _ _) | (rw [hF.self]; simp [go_sem, Store.cut])⟩
  ·refine aS ?_
   refine yc (by first | rfl | (simp [go_sem, hApl, hAom, hAox, hAor, hAov, hsox, hsor, hsov, hs0, hs1, hs3, zj, foS_nt, hss, hwc, hcl, hcn, htk] <;> rfl)) (fun h5 => ?_) (fun h5 => ?_)
   ·have hk : yb d = 5 ∨ yb d = 9 := by first | exact .inl (by simpa using h5) | exact .inr (by simpa using h5)
    have hlen := hsl.1 (by omega)
    obtain ⟨x2, hx2, hx2m⟩ := ym (l := d.kids) (k := 2) (by omega)
    have hd2 : d2 d.kids = x2 := yC hx2
    have hxs := D.size_kid_lt hx2m
    have hq : subs d = [subL d 2 x2] := by rw [← hd2]; exact yU hk
    have hfin := yiy (x := x) (p := p) (sc := sc) (s := s) hk
    rw [hd2] at hfin
    have hqm : subL d 2 x2 ∈ subs d := by rw [hq]; simp
    have ihx := ih (subL d 2 x2) hqm
    simp only [subL] at ihx
    refine yG tyOk tySz 12 (by kernel_rfl) (by decide) ?_
    refine yo 7 (by simp [go_sem, hAov, hx2] <;> rfl) ?_
    refine yQ (by first | (intro _ _ hh; exact hh) | simp [go_sem]) rfl rfl rfl rfl (by simp [go_sem] <;> rfl) y8 ((y7 p [2] (by omega) (by simp) (by simp)) _ (by exact hgl)) (by simp [go_sem] <;> rfl) (by simp [go_sem, hcn, ipv]) rfl rfl ?_
    refine yo 2 (by simp [go_sem] <;> rfl) ?_
    refine yQ (by first | (intro _ _ hh; exact hh) | simp [go_sem]) rfl rfl rfl rfl (by simp [go_sem] <;> rfl) Yj ((YO d (by omega)) _ (by exact hgl)) (by simp [go_sem] <;> rfl) (by simp [go_sem]) rfl rfl ?_
    refine yQ (by first | (intro _ _ hh; exact hh) | simp [go_sem]) rfl rfl rfl rfl (by simp [go_sem] <;> rfl) yb2 (ydY p (by omega) hpp (sc) (ownS d) (0) (by omega) (by omega) σ.objs.length (σ.objs.length + 1) _ (by exact hgl) (by simp [go_sem]) ((by simp [go_sem]))) (by simp [go_sem] <;> rfl) (by simp [go_sem]) rfl rfl ?_
    refine yF ?_
    refine yy rfl rfl rfl (by simp [go_sem] <;> rfl) ZR (ihx (by show x2.size ≤ _; omega) (p ++ [2]) (by show _ + 3 * x2.size ≤ _; simp; omega) (yak hpp h2p) (yw sc (ownS d) (kyS p (ownS d) 0)) (s) (by rw [← hfin]; exact hb) _ (by exact hgl) (hUa _) (hXa _)) (by simp [go_sem] <;> rfl) (by simp [go_sem]) rfl rfl ?_
    rintro r σ' ⟨rfl, rfl⟩
    refine ye ?_
    first | (show Go.Aw.Ends ty _ _ Go.Exit.normal _) | (simp only [yu]; done) | simp only [yu] | unfold yu
    refine yz (by first | rfl | (simp [go_sem] <;> rfl)) (by first | rfl | simp [go_sem]) ?_
    exact ⟨rfl, by (first | rw [hfin] | rw [hfin0, if_neg (by simp_all)]); first | exact hcut _ _ | (show Store.cut (foS _ _ _ (foS _ _ _ _ _) _) _ _ = _; rw [hss]; exact hcut _ _) | (simp only [hta]; exact hcut _ _) | (rw [hF.self]; simp [go_sem, Store.cut])⟩
   ·refine ya (aS ?_)
    refine yc (by first | rfl | (simp [go_sem, hApl, hAom, hAox, hAor, hAov, hsox, hsor, hsov, hs0, hs1, hs3, zj, foS_nt, hss, hwc, hcl, hcn, htk] <;> rfl)) (fun h6 => ?_) (fun h6 => ?_)
    ·have hk : yb d = 6 := by simpa using h6
     have hlen := hsl.2.1 hk
     obtain ⟨x2, hx2, hx2m⟩ := ym (l := d.kids) (k := 2) (by omega)
     have hd2 : d2 d.kids = x2 := yC hx2
     have hxs := D.size_kid_lt hx2m
     obtain ⟨x3, hx3, hx3m⟩ := ym (l := d.kids) (k := 3) (by omega)
     have hd3 : d.kids.getD 3 dnone = x3 := yC hx3
     have hxt := D.size_kid_lt hx3m
     have hq : subs d = [(⟨[2], []⟩, x2), subL d 3 x3] := by rw [← hd2, ← hd3]; exact yM hk
     have hfin := ykr (x := x) (p := p) (sc := sc) (s := s) hk
     rw [hd2, hd3] at hfin
     have hqm : (⟨[2], []⟩, x2) ∈ subs d := by rw [hq]; simp
     have hqm3 : subL d 3 x3 ∈ subs d := by rw [hq]; simp
     have ihx := ih (⟨[2], []⟩, x2) hqm
     have ihy := ih (subL d 3 x3) hqm3
     simp only [subL] at ihx ihy
     refine ya (yG tyOk tySz 9 (by kernel_rfl) (by decide) ?_)
     refine yo 7 (by simp [go_sem, hAov, hx2] <;> rfl) ?_
     refine yQ (by first | (intro _ _ hh; exact hh) | simp [go_sem]) rfl rfl rfl rfl (by simp [go_sem] <;> rfl) y8 ((y7 p [2] (by omega) (by simp) (by simp)) _ (by exact hgl)) (by simp [go_sem] <;> rfl) (by simp [go_sem, hcn, ipv]) rfl rfl ?_
     refine yo 1 (by simp [go_sem] <;> rfl) ?_
     refine yF ?_
     refine yy rfl rfl rfl (by simp [go_sem] <;> rfl) ZR (ihx (by show x2.size ≤ _; omega) (p ++ [2]) (by show _ + 3 * x2.size ≤ _; simp; omega) (yak hpp h2p) (sc) (s) (by rw [hfin] at hb; exact Nat.le_trans (ycY _ _ _ _ _) hb) _ (by exact hgl) (hUa _) (hXa _)) (by simp [go_sem] <;> rfl) (by simp [go_sem]) rfl rfl ?_
     rintro r σ' ⟨rfl, rfl⟩
     refine ye (yG tyOk tySz 12 (by kernel_rfl) (by decide) ?_)
     refine yo 7 (by simp [go_sem, hAov, hsov, hs0, zj, hx3] <;> rfl) ?_
     refine yQ (by first | (intro _ _ hh; exact hh) | simp [go_sem]) rfl rfl rfl rfl (by simp [go_sem] <;> rfl) y8 ((y7 p [3] (by omega) (by simp) (by simp)) _ (by exact hgl)) (by simp [go_sem, zj] <;> rfl) (by simp [go_sem, hcn, ipv]) rfl rfl ?_
     refine yo 2 (by simp [go_sem, zj] <;> rfl) ?_
     refine yQ (by first | (intro _ _ hh; exact hh) | simp [go_sem]) rfl rfl rfl rfl (by simp [go_sem] <;> rfl) Yj ((YO d (by omega)) _ (by exact hgl)) (by simp [go_sem, zj] <;> rfl) (by simp [go_sem]) rfl rfl ?_
     refine yQ (by first | (intro _ _ hh; exact hh) | simp [go_sem]) rfl rfl rfl rfl (by simp [go_sem, zj] <;> rfl) yb2 (ydY p (by omega) hpp (sc) (ownS d) (0) (by omega) (by omega) σ.objs.length (σ.objs.length + 1) _ (by exact hgl) (by simp [go_sem, hs0]) ((hs1 _ _).trans (by simp))) (by simp [go_sem, zj] <;> rfl) (by simp [go_sem]) rfl rfl ?_
     refine yF ?_
     refine yy rfl rfl rfl (by simp [go_sem] <;> rfl) ZR (ihy (by show x3.size ≤ _; omega) (p ++ [3]) (by show _ + 3 * x3.size ≤ _; simp; omega) (yak hpp h3p) (yw sc (ownS d) (kyS p (ownS d) 0)) (fnd x x2 (p ++ [2]) sc s) (by rw [← hfin]; exact hb) _ (by exact hgl) ((hUa _).upd hne) (yee H (hXa _))) (by simp [go_sem] <;> rfl) (by simp [go_sem]) rfl rfl ?_
     rintro r σ' ⟨rfl, rfl⟩
     refine ye ?_
     first | (show Go.Aw.Ends ty _ _ Go.Exit.normal _) | (simp only [yu]; done) | simp only [yu] | unfold yu
     refine yz (by first | rfl | (simp [go_sem] <;> rfl)) (by first | rfl | simp [go_sem]) ?_
     exact ⟨rfl, by (first | rw [hfin] | rw [hfin0, if_neg (by simp_all)]); first | exact hcut _ _ | (show Store.cut (foS _ _ _ (foS _ _ _ _ _) _) _ _ = _; rw [hss]; exact hcut _ _) | (simp only [hta]; exact hcut _ _) | (rw [hF.self]; simp [go_sem, Store.cut])⟩
    ·refine ya (aS ?_)
     refine yc (by first | rfl | (simp [go_sem, hApl, hAom, hAox, hAor, hAov, hsox, hsor, hsov, hs0, hs1, hs3, zj, foS_nt, hss, hwc, hcl, hcn, htk] <;> rfl)) (fun h7 => ?_) (fun h7 => ?_)
     ·have hk : yb d = 7 := by simpa using h7
      have hlen := hsl.1 (by omega)
      obtain ⟨x2, hx2, hx2m⟩ := ym (l := d.kids) (k := 2) (by omega)
      have hd2 : d2 d.kids = x2 := yC hx2
      have hxs := D.size_kid_lt hx2m
      obtain ⟨x1, hx1, hx1m⟩ := ym (l := d.kids) (k := 1) (by omega)
      have hd1 : d1 d.kids = x1 := yC hx1
      have hx1s := D.size_kid_lt hx1m
      have hx1l := D.kids_length_lt x1
      have hrk := hsl.2.2 hk
      have hrl := zR hk
      have hra := fun (i : Nat) (x : D) => zB (d := d) (i := i) (x := x) hk
      have hfr := Y3 x1.kids
      have hszk := D.size_kids x1
      rw [hd1, hd2] at hrl
      rw [hd1] at hra hrk
      have hfin := ykA (x := x) (p := p) (sc := sc) (s := s) hk
      rw [hd1, hd2] at hfin
      have ihx := ih (subL d 2 x2) (List.mem_of_getElem? hrl.1)
      simp only [subL] at ihx
      have hol : (ownS d).length = x1.kids.length := by unfold ownS; rw [hk, hd1]; simp
      have hb2 : (fndD x d p (yw sc (ownS d) (kyS p (ownS d) 0)) x1.kids.length s).1.length ≤ 1000000000 := by rw [hfin] at hb; exact Nat.le_trans (ycY _ _ _ _ _) hb
      have hdl : ∀ k, k ≤ x1.kids.length → (fndD x d p (yw sc (ownS d) (kyS p (ownS d) 0)) k s).1.length ≤ (fndD x d p (yw sc (ownS d) (kyS p (ownS d) 0)) x1.kids.length s).1.length := fun k hk => ypk hk (by rw [hd1]; exact Nat.le_refl _)
      refine sG ?_
      refine aT 1 ?_
      refine aG Yj ((YO d (by omega)) _ (by exact hgl)) ?_
      refine aT 1 ?_
      refine ye (sG ?_)
      refine aT 2 ?_
      refine ycS rfl rfl rfl (by simp [go_sem] <;> rfl) yb2 (ydY p (by omega) hpp (sc) (ownS d) (0) (by omega) (by omega) σ.objs.length (σ.objs.length + 1) _ (by exact hgl) (by simp [go_sem]) ((by simp [go_sem]))) (by simp [go_sem] <;> rfl) (by simp [go_sem]) rfl rfl ?_
      refine aT 1 ?_
      refine ye (sS ?_)
      refine ya (sA (by simp [go_sem, hx1] <;> rfl) ?_)
      refine yh (yN 1 [6, 7, 8, 9, 10, 15, 122, 123] (fun i : Nat => [(16, .pv (.int .i64 (yR x1.kids i))), (124, .pv (.int .i64 (i : Int)))]) (fun i => foS opl om tk (⟨σ.gl, σ.objs ++ [.box [.pv (wPV p)], .box [.pv ((yH PV.str) (if i = 0 then sc else yw sc (ownS d) (kyS p (ownS d) 0)))]], σ.toks⟩ : Store) (fndD x d p (yw sc (ownS d) (kyS p (ownS d) 0)) i s)) (fun i => i ≤ x1.kids.length) (fun i => x1.kids.length - i) 0 (Nat.zero_le _) ⟨(by exact (hUa _).self), rfl, by simp [go_sem, yaV, hol], by simp [go_sem]⟩ ?_)
      intro i hi
      refine sS ?_
      refine ya (yc (by first | rfl | (simp [go_sem, hApl, hAom, hAox, hAor, hAov, hsox, hsor, hsov, hs0, hs1, hs3, zj, foS_nt, hss, hwc, hcl, hcn, htk, hx1, hx2] <;> rfl)) (fun h8 => ?_) (fun h8 => ?_))
      ·have hlt : i < x1.kids.length := by simp at h8; omega
       obtain ⟨y, hy, hym⟩ := ym hlt
       have hl3 := hrk y hym
       obtain ⟨y1, hy1, hy1m⟩ := ym (l := y.kids) (k := 1) (by omega)
       obtain ⟨y2, hy2, hy2m⟩ := ym (l := y.kids) (k := 2) (by omega)
       have hyd1 : d1 y.kids = y1 := yC hy1
       have hyd2 : d2 y.kids = y2 := yC hy2
       have hz0 := D.size_kid_lt hym
       have hz1 := D.size_kid_lt hy1m
       have hz2 := D.size_kid_lt hy2m
       have hz3 := D.kids_length_lt y1
       have hpx : parS y = y1.kids.map D.text := by unfold parS; rw [hyd1]
       have hpl : (parS y).length = y1.kids.length := by rw [hpx, List.length_map]
       have hqi := hra i y hy
       have ihi := ih (subR d i y) (List.mem_of_getElem? hqi)
       simp only [subR, hyd2] at ihi
       have hf1 := Z2 hy
       have hf2 := hfr i (by omega)
       have hf3 := hfr (i + 1) (by omega)
       have hw2 : IntKind.i64.wrap (yR x1.kids i + ((parS y).length : Int)) = yR x1.kids (i + 1) := by rw [hf1]; exact yO (by omega) (by omega)
       have hnx := ygV (x := x) (p := p) (inn := yw sc (ownS d) (kyS p (ownS d) 0)) (s := s) (by rw [hd1]; exact hy)
       rw [hd1, hyd2] at hnx
       have h1p : ∀ j, j ∈ ([1, (i : Int), 2] : List Int) → 0 ≤ j ∧ j ≤ 1000000000 := by intro j hj; simp at hj; omega
       have hw : IntKind.i64.wrap ((i : Int) + 1) = (i : Int) + 1 := yv (by omega)
       refine yg (ya (yh (sA (by simp [go_sem, hy] <;> rfl) ?_)))
       refine sG ?_
       refine aL 5 (by simp [go_sem, hy1] <;> rfl) ?_
       refine aG ZQ ((ZJ y1.kids (by omega)) _ (by exact hgl)) ?_
       refine aL 1 (by simp [go_sem, ← hpx] <;> rfl) ?_
       refine ye (sA (by simp [go_sem, hs1, zj, hsets] <;> rfl) ?_)
       refine ya (yG tyOk tySz 13 (by kernel_rfl) (by decide) ?_)
       refine yo 8 (by simp [go_sem, hAov, hsov, hs0, zj, hy2] <;> rfl) ?_
       refine yQ (by first | (intro _ _ hh; exact hh) | simp [go_sem]) rfl rfl rfl rfl (by simp [go_sem] <;> rfl) y8 ((y7 p [1, (i : Int), 2] (by omega) (by simp) (by simp)) _ (by exact hgl)) (by simp [go_sem, zj] <;> rfl) (by simp [go_sem, hcn, ipv]) rfl rfl ?_
       refine yo 3 (by simp [go_sem, zj] <;> rfl) ?_
       refine yQ (by first | (intro _ _ hh; exact hh) | simp [go_sem]) rfl rfl rfl rfl (by simp [go_sem, zj] <;> rfl) yb2 (ydY p (by omega) hpp (yw sc (ownS d) (kyS p (ownS d) 0)) (parS y) (yR x1.kids i) (by omega) (by omega) σ.objs.length (σ.objs.length + 1) _ (by exact hgl) (by simp [go_sem, hs0]) ((hs1 _ _).trans (by simp))) (by simp [go_sem, zj] <;> rfl) (by simp [go_sem]) rfl rfl ?_
       refine yF ?_
       refine yy rfl rfl rfl (by simp [go_sem] <;> rfl) ZR (ihi (by show y2.size ≤ _; omega) (p ++ [1, (i : Int), 2]) (by show _ + 3 * y2.size ≤ _; simp; omega) (yak hpp h1p) (yw (yw sc (ownS d) (kyS p (ownS d) 0)) (parS y) (kyS p (parS y) (yR x1.kids i))) (fndD x d p (yw sc (ownS d) (kyS p (ownS d) 0)) i s) (by rw [← hnx]; exact Nat.le_trans (hdl (i + 1) (by omega)) hb2) _ (by exact hgl) ((hUa _).upd hne) (yee H (hXa _))) (by simp [go_sem] <;> rfl) (by simp [go_sem]) rfl rfl ?_
       rintro r σ' ⟨rfl, rfl⟩
       refine ye (aR (by simp [go_sem, hss, hw2] <;> rfl) ?_)
       refine aS ?_
       exact ⟨(i + 1), (by show i + 1 ≤ _; omega), (by show x1.kids.length - (i + 1) < x1.kids.length - i; omega), (by show foS _ _ _ _ (fndD x d p _ (i + 1) _) = _; rw [hnx]; simp [go_sem]), rfl, by simp [go_sem, hw], by simp [go_sem]⟩
      ·have hke : i = x1.kids.length := by simp at h8; omega
       subst hke
       refine yp (yj (yj (yl (yG tyOk tySz 9 (by kernel_rfl) (by decide) ?_))))
       refine yo 7 (by simp [go_sem, hAov, hsov, hs0, zj, hx2] <;> rfl) ?_
       refine yQ (by first | (intro _ _ hh; exact hh) | simp [go_sem]) rfl rfl rfl rfl (by simp [go_sem] <;> rfl) y8 ((y7 p [2] (by omega) (by simp) (by simp)) _ (by exact hgl)) (by simp [go_sem, zj] <;> rfl) (by simp [go_sem, hcn, ipv]) rfl rfl ?_
       refine yo 1 (by simp [go_sem, zj] <;> rfl) ?_
       refine yF ?_
       refine yy rfl rfl rfl (by simp [go_sem] <;> rfl) ZR (ihx (by show x2.size ≤ _; omega) (p ++ [2]) (by show _ + 3 * x2.size ≤ _; simp; omega) (yak hpp h2p) (yw sc (ownS d) (kyS p (ownS d) 0)) (fndD x d p (yw sc (ownS d) (kyS p (ownS d) 0)) x1.kids.length s) (by rw [← hfin]; exact hb) _ (by exact hgl) ((hUa _).upd hne) (yee H (hXa _))) (by simp [go_sem] <;> rfl) (by simp [go_sem]) rfl rfl ?_
       rintro r σ' ⟨rfl, rfl⟩
       refine ye ?_
       first | (show Go.Aw.Ends ty _ _ Go.Exit.normal _) | (simp only [yu]; done) | simp only [yu] | unfold yu
       refine yz (by first | rfl | (simp [go_sem] <;> rfl)) (by first | rfl | simp [go_sem]) ?_
       exact ⟨rfl, by (first | rw [hfin] | rw [hfin0, if_neg (by simp_all)]); first | exact hcut _ _ | (show Store.cut (foS _ _ _ (foS _ _ _ _ _) _) _ _ = _; rw [hss]; exact hcut _ _) | (simp only [hta]; exact hcut _ _) | (rw [hF.self]; simp [go_sem, Store.cut])⟩
     ·have hkk : yb d ≠ 5 ∧ yb d ≠ 9 ∧ yb d ≠ 6 ∧ yb d ≠ 7 := by simp_all
      have hkk2 : yb d ≠ 2 ∧ yb d ≠ 5 ∧ yb d ≠ 9 ∧ yb d ≠ 6 ∧ yb d ≠ 7 := ⟨hk2, hkk⟩
      refine sG ?_
      refine aT 1 ?_
      refine yy rfl rfl rfl (by simp [go_sem] <;> rfl) yca (yaO d _) (by simp [go_sem] <;> rfl) (by simp [go_sem]) rfl rfl ?_
      rintro r σ' ⟨rfl, rfl⟩
      refine ye (yh (Y9 [6, 8, 9] (by simp [go_sem] <;> rfl) ycb (by simp [go_sem]) (by simp [go_sem, YH]) (by decide) fun l => ?_))
      refine Z6 ?_
      intro ST hST
      simp only [go_sem, YH, List.map_cons, List.map_nil, List.append_assoc, List.cons_append, List.nil_append] at hST
      have hST2 : ST = ⟨σ.gl, ST.objs, σ.toks⟩ := by rw [hST]
      have hglS : ST.gl = σ.gl := by rw [hST]
      have hts : ST.toks = σ.toks := by rw [hST]
      have hlow : ST.objs.take σ.objs.length = σ.objs := by rw [hST]; simp [go_sem]
      have hlen : ST.objs.length = σ.objs.length + 4 := by rw [hST]; simp [go_sem]
      have f0 : ST.objs[σ.objs.length]? = some (.box [.pv (wPV p)]) := by rw [hST]; simp [go_sem]
      have f1 : ST.objs[σ.objs.length + 1]? = some (.box [.pv ((yH PV.str) sc)]) := by rw [hST]; simp [go_sem]
      have f2 : ST.objs[σ.objs.length + 2]? = some (.box [.pv (.int .i64 d.kind), .pv (.int .i64 d.num), .pv (.str d.text), .pv (.slice (d.kids.map enc))]) := by rw [hST]; simp [go_sem]
      have fv : ST.objs[ov]? = some (.box [.func (.func 115) [.ptr ox 0, .ptr opl 0, .ptr oar 0, .ptr ov 0]]) := by rw [hST]; exact hAov _
      have hUS : FHas 44 opl om tk ST s := by rw [hST]; exact hUa _
      have hXS : HasU ST (foX x ox opl oar om ov 115) := by rw [hST]; exact hXa _
      obtain ⟨BT, hBT⟩ : ∃ BT, ST.objs = σ.objs ++ BT := ⟨_, by rw [hST]⟩
      obtain ⟨T0, ps0, as0, bd0, hL⟩ : ∃ T0 ps0 as0 bd0, ST.objs[σ.objs.length + 3]? = some (.loop l .ready none T0 165 ps0 as0 bd0) := ⟨_, _, _, _, by rw [hST]; exact ycU⟩
      have hround : ∀ (i : Nat) (τ : Store) (q : Sub × D), (subs d)[i]? = some q → (τ = foS opl om tk ST (fndS x d p sc i s)) → ACallsY Tryz.prog l [.pv (.slice (ipv q.1.p)), .pv (enc q.2)] τ fun r τ' => (r = .pv (.bool true) ∧ τ' = foS opl om tk ST (fndS x d p sc (i + 1) s)) ∨ (r = .pv (.bool false) ∧ False) := by
       rintro i τ q hq hτ
       rw [hτ]
       have hqm : q ∈ subs d := List.mem_of_getElem? hq
       have hqs := Ys hqm
       have hqp := Yc hqm
       have hql := (List.getElem?_eq_some_iff.1 hq).1
       have hbi : (fnd x q.2 (p ++ q.1.p) sc (fndS x d p sc i s)).1.length ≤ 1000000000 := by rw [← ydS hq]; exact Nat.le_trans (ypS (k := (subs d).length) (by omega) (Nat.le_refl _)) (by rw [ye8 hkk2]; exact hb)
       rw [ydS hq]
       generalize fndS x d p sc i s = R at hbi ⊢
       have e0 : (foS opl om tk ST R).objs[σ.objs.length]? = some (.box [.pv (wPV p)]) := (hs0 _ _).trans f0
       have e1 : (foS opl om tk ST R).objs[σ.objs.length + 1]? = some (.box [.pv ((yH PV.str) sc)]) := (hs1 _ _).trans f1
       have ev : (foS opl om tk ST R).objs[ov]? = some (.box [.func (.func 115) [.ptr ox 0, .ptr opl 0, .ptr oar 0, .ptr ov 0]]) := (hsov _ _).trans fv
       have eL := (hs3 ST R).trans hL
       have hUR := (hUS.upd (s2 := R) hne).set (ob := .loop l .busy none T0 165 ps0 as0 bd0) (i := σ.objs.length + 3) (hks _ (by omega))
       have hXR := yas (ob := .loop l .busy none T0 165 ps0 as0 bd0) (yee (tk := tk) H (s := R) hXS) (i := σ.objs.length + 3) (by intro hm; obtain ⟨q, hq, e⟩ := List.mem_map.1 hm; have := hXU.lt hq; omega)
       have hvl : ov ≠ σ.objs.length + 3 := by have := (List.getElem?_eq_some_iff.1 gov).1; omega
       have evs : ∀ ob, ((foS opl om tk ST R).objs.set (σ.objs.length + 3) ob)[ov]? = some (.box [.func (.func 115) [.ptr ox 0, .ptr opl 0, .ptr oar 0, .ptr ov 0]]) := fun ob => (List.getElem?_set_ne (fun e => hvl e.symm)).trans ev
       refine Z7 (o := σ.objs.length + 3) ((yab (hks (σ.objs.length + 3) (by omega))).trans (by rw [hST]; exact ycU)) rfl rfl ?_
       refine sS ?_
       refine aS ?_
       refine ⟨_, _, _, _, _, _, Eq.trans (b := some (.loop l .ready none T0 165 ps0 as0 bd0)) (by simp [go_sem, hs3, hL]) rfl, ?_⟩
       refine yh (yG tyOk tySz 6 (by kernel_rfl) (by decide) ?_)
       refine yo 4 (by simp [go_sem, hs0, zj, f0, evs] <;> rfl) ?_
       refine yQ (by first | (intro _ _ hh; exact hh) | simp [go_sem]) rfl rfl rfl rfl (by simp [go_sem] <;> rfl) y8 ((y7 p q.1.p (by omega) (by omega) hqp.1) _ (by exact hglS.trans hgl)) (by simp [go_sem, zj] <;> rfl) (by simp [go_sem, hcn]) rfl rfl ?_
       refine yo 1 (by simp [go_sem, hs1, zj, f1] <;> rfl) ?_
       refine yF ?_
       refine yy rfl rfl rfl (by simp [go_sem] <;> rfl) ZR (ih q hqm (by omega) (p ++ q.1.p) (by rw [List.length_append]; omega) (yak hpp (yoP hd hqm)) sc R hbi _ (by exact hglS.trans hgl) hUR hXR) (by simp [go_sem] <;> rfl) (by simp [go_sem]) rfl rfl ?_
       rintro r σ' ⟨rfl, rfl⟩
       refine ye (⟨_, _, _, _, _, _, Eq.trans (b := some (.loop l .busy none T0 165 ps0 as0 bd0)) (by simp [go_sem, hs3, hL, Zn]) rfl, ?_⟩)
       refine .inl ⟨rfl, ?_⟩
       exact (yqE (Y := foS opl om tk ST R) (hks _ (by omega)) eL).trans (yg0 hne hUS.2)
      refine (ACalls.args (yaK d (by omega) (σ.objs.length + 2) l (fun i τ => τ = foS opl om tk ST (fndS x d p sc i s)) (fun _ => False) (fun i τ h => by rw [h]; exact hglS.trans hgl) (fun i τ h => by rw [h]; exact (yab (hks _ (by omega))).trans f2) hround ST hUS.self.symm) (by simp [go_sem])).mono ?_
      rintro _ τ' (hτ | ⟨⟨⟩⟩)
      ·rw [hτ, ye8 hkk2]
       have eL2 := (hs3 ST (fnd x d p sc s)).trans hL
       refine ⟨_, _, _, _, _, _, _, Eq.trans (b := some (.loop l .ready none T0 165 ps0 as0 bd0)) (by simp [go_sem, hs3, hL]) rfl, by decide, ?_⟩
       first | (show Go.Aw.Ends ty _ _ Go.Exit.normal _) | (simp only [yu]; done) | simp only [yu] | unfold yu
       refine yz (by first | rfl | (simp [go_sem] <;> rfl)) (by first | rfl | simp [go_sem]) ?_
       refine ⟨rfl, ?_⟩
       refine ydv (by first | omega | (simp [go_sem]; done) | (simp [go_sem]; omega)) ?_
       rw [hST2, hBT]
       exact hcut _ _

end Go.Proofs.YtigideidmcmfbaaGreatDoor

namespace Go.Proofs.YtigideidmcmfbaaGreatDoor
open Go Go.Aw
variable {kr : KR}
set_option maxHeartbeats 1000000 in
theorem ypP (d : D) (x : ByteArray) (hd : d.size ≤ 100000000) (hb : (fnd x d [] [] ([], [])).1.length ≤ 1000000000) (σ : Store) (hgl : σ.gl = (GL kr)) : ACalls Tryz.prog 79 [.pv (enc d), .pv (.str x)] σ (fun r σ' => r = .tuple [.acc ((fnd x d [] [] ([], [])).1.map wPV) σ.toks.length, .map (σ.objs.length + 3)] ∧ σ' = (⟨σ.gl, σ.objs ++ [AObj.box [.pv (.str x)], AObj.box [.acc ((fnd x d [] [] ([], [])).1.map wPV) σ.toks.length], AObj.box [.map (σ.objs.length + 3)], AObj.map (tK (fnd x d [] [] ([], [])).2) (tV (fnd x d [] [] ([], [])).2)], σ.toks ++ [⟨(fnd x d [] [] ([], [])).1.length, 44, 1⟩]⟩ : Store)) := by
 have hH : FnH x σ.objs.length (σ.objs.length + 1) (σ.objs.length + 2) (σ.objs.length + 3) (σ.objs.length + 4) 115 := ⟨by omega, fun q hq => by simp [foX] at hq; rcases hq with rfl | rfl | rfl <;> simp <;> omega⟩
 refine ACalls.keepTo2 (σ.objs.length + 4) (σ.toks.length + 1) (by omega) (by omega) (fun ob hob => ?_) ?_
 · rcases List.mem_append.1 hob with h | h
   · exact .inl h
   · refine .inr ?_
     simp only [List.mem_cons, List.not_mem_nil, or_false] at h
     rcases h with rfl | rfl | rfl | rfl <;> simp [AObj.clo, AV.clos, AV.clo]
 refine yk tyOk Tryz.func79 rfl (by simp [Tryz.f79]) ?_
 refine ya (yD (sh := [3, 4, 5]) tyOk (by simp [go_sem] <;> rfl) ?_)
 refine ya (ykV (σ.objs.length + 1) 44 1 (by simp [go_sem]) ?_)
 simp only [yn9]
 refine aS ?_
 refine ya (yD (sh := [6]) tyOk (by simp [go_sem] <;> rfl) ?_)
 refine sS ?_
 refine sG ?_
 refine aT 2 ?_
 refine yy rfl rfl rfl (by simp [go_sem] <;> rfl) ZR (ypq (tk := σ.toks.length) hH d hd [] (by simp; omega) (by intro j hj; simp at hj) [] ([], []) hb _ (by exact hgl) ⟨by intro q hq; simp [foU] at hq; rcases hq with rfl | rfl <;> simp [tK, tV], by simp⟩ (by intro q hq; simp [foX] at hq; rcases hq with rfl | rfl | rfl <;> simp)) (by simp [go_sem] <;> rfl) (by simp [go_sem, wPV, yH]) rfl rfl ?_
 rintro r σ' ⟨rfl, rfl⟩
 rw [yqH]
 refine ye (ya (yeB tyOk tySz [[0, 1, 2, 3], [1, 0, 2, 3], [0, 2, 1, 3]] (by kernel_rfl) ?_))
 intro l hl
 simp only [List.mem_cons, List.not_mem_nil, or_false] at hl
 rcases hl with rfl | rfl | rfl
 ·show AOpsL _ _ _ _ [_, _, _, _] _ _
  refine aT 4 ?_
  refine ye (yd (eR ?_))
  exact ⟨by simp [go_sem], by simp [go_sem]⟩
 ·show AOpsL _ _ _ _ [_, _, _, _] _ _
  refine aT 4 ?_
  refine ye (yd (eR ?_))
  exact ⟨by simp [go_sem], by simp [go_sem]⟩
 ·show AOpsL _ _ _ _ [_, _, _, _] _ _
  refine aT 4 ?_
  refine ye (yd (eR ?_))
  exact ⟨by simp [go_sem], by simp [go_sem]⟩

end Go.Proofs.YtigideidmcmfbaaGreatDoor

namespace Go.Proofs.YtigideidmcmfbaaGreatDoor
open Go Go.Aw
variable {kr : KR}
set_option maxHeartbeats 1000000 in
theorem yrF (inn arn S : List ByteArray) (hS : S.length ≤ 2000000000) (p : List Int) (hl : p.length ≤ 400000000) (hp : ∀ j, j ∈ p → 0 ≤ j ∧ j ≤ 1000000000) (i : Int) (hi0 : 0 ≤ i) (hi1 : i ≤ 1000000000) (x : ByteArray) (oi mi oa ma oe me : Nat) (σ : Store) (hgl : σ.gl = (GL kr)) (g1 : σ.objs[oi]? = some (.box [.map mi])) (g2 : σ.objs[mi]? = some (.map (tK inn) (tV inn))) (g3 : σ.objs[oa]? = some (.box [.map ma])) (g4 : σ.objs[ma]? = some (.map (tK arn) (tV arn))) (g5 : σ.objs[oe]? = some (.box [.map me])) (g6 : σ.objs[me]? = some (.map (tK S) (tV S))) : ACalls Tryz.prog 82 [.pv (wPV p), .pv (.int .i64 i), .pv (.str x), .ptr oi 0, .ptr oa 0, .ptr oe 0] σ (fun r σ' => r = .pv (.str (sbTo inn arn p i x S).1) ∧ σ' = updS σ [(me, AObj.map (tK (sbTo inn arn p i x S).2) (tV (sbTo inn arn p i x S).2))]) := by
 have hlk1 := fun (z : St) (ho : z.σ.objs[mi]? = some (.map (tK inn) (tV inn))) => ya9 (ty := ty) (s := z) (t := 78) (S := inn) (o := mi) rfl rfl rfl rfl rfl rfl rfl ho (x)
 have hlk2 := fun (z : St) (ho : z.σ.objs[ma]? = some (.map (tK arn) (tV arn))) => ya9 (ty := ty) (s := z) (t := 78) (S := arn) (o := ma) rfl rfl rfl rfl rfl rfl rfl ho (bkS p i)
 have hml := (List.getElem?_eq_some_iff.1 g6).1
 have hwcl := Zi p
 have hwcn := ycg p
 unfold PV.nrm at hwcn
 have hc1 : ∀ R, Store.cut (setS σ me R) σ.objs.length σ.toks.length = updS σ [(me, AObj.map (tK R) (tV R))] := fun R => yn6
 have hc2 : Store.cut σ σ.objs.length σ.toks.length = updS σ [(me, AObj.map (tK S) (tV S))] := by rw [YX (by intro q hq; rw [List.mem_singleton] at hq; subst hq; exact g6)]; simp [Store.cut]
 refine ya3 (by intro q hq; rw [List.mem_singleton] at hq; subst hq; rfl) ?_
 refine yk tyOk Tryz.func82 rfl (by simp [Tryz.f82]) ?_
 refine sS ?_
 refine ya (ya (yG tyOk tySz 8 (by kernel_rfl) (by decide) ?_))
 refine yo 4 (by simp [go_sem, g1, g2, hlk1] <;> rfl) ?_
 refine Zj 13 (by first | rfl | (simp [go_sem, g1, g2, g3, g4, g5, g6, hlk1, hlk2, hwcl, hwcn] <;> rfl)) (fun h0 => ?_) (fun h0 => ?_)
 ·refine yap 3 13 true true (by simp [go_sem]) rfl (by simp [go_sem]) rfl rfl (by simp [go_sem, g3] <;> rfl) ?_
  refine ydo 13 true true (by simp [go_sem]) rfl (by first | (intro _ _ hh; exact hh) | simp [go_sem]) (by simp [go_sem]) rfl rfl rfl (by simp [go_sem] <;> rfl) ylH ((ypc p i ⟨by omega, by omega⟩ hl hp) _ (by exact hgl)) (by simp [go_sem] <;> rfl) (by simp [go_sem, hwcn]) rfl rfl ?_
  refine yF ?_
  refine aLG 1 13 true (by simp [go_sem, g4, hlk2] <;> rfl) ?_
  refine aT 1 ?_
  refine ye (yc (by first | rfl | (simp [go_sem, g1, g2, g3, g4, g5, g6, hlk1, hlk2, hwcl, hwcn] <;> rfl)) (fun h1 => ?_) (fun h1 => ?_))
  ·refine ya (yS ?_)
   refine aL 1 (by simp [go_sem, g5] <;> rfl) ?_
   refine yy rfl rfl rfl (by simp [go_sem] <;> rfl) yrK (yrG S hS 0 (by omega) me _ (by exact hgl) (by exact g6)) (by simp [go_sem] <;> rfl) (by simp [go_sem]) rfl rfl ?_
   rintro r σ' ⟨rfl, rfl⟩
   refine aT 1 ?_
   refine ye (yd (yf (eR ?_)))
   refine ⟨by simp only [sbTo, h0, h1, bF, if_true]; simp [go_sem], ?_⟩
   simp only [sbTo, h0, h1, bF, if_true]
   first | exact hc1 _ | exact hc2
  ·refine yg (sS ?_)
   refine yd (eR ?_)
   refine ⟨by simp only [sbTo, h0, h1, bH, Bool.false_eq_true, if_false]; simp [go_sem], ?_⟩
   simp only [sbTo, h0, h1, bH, Bool.false_eq_true, if_false]
   first | exact hc1 _ | exact hc2
 ·refine yqP 4 13 true (by simp [go_sem]) (by simp [go_sem]) rfl rfl ?_
  refine yF ?_
  refine aK 1 13 true ?_
  refine aT 1 ?_
  refine ye (yc (b := false) (by simp [go_sem]) (fun h => ?_) (fun h => ?_))
  ·cases h
  refine yg (sS ?_)
  refine yd (eR ?_)
  refine ⟨by simp only [sbTo, h0, bG, Bool.false_eq_true, if_false]; simp [go_sem], ?_⟩
  simp only [sbTo, h0, bG, Bool.false_eq_true, if_false]
  first | exact hc1 _ | exact hc2

end Go.Proofs.YtigideidmcmfbaaGreatDoor

namespace Go.Proofs.YtigideidmcmfbaaGreatDoor
open Go Go.Aw
variable {kr : KR}
def sbMs (me : Nat) (S : List ByteArray) : List (Nat × AObj) := [(me, AObj.map (tK S) (tV S))]
theorem ysq (inn arn : List ByteArray) (L0 : Nat) (hL : L0 ≤ 1000000000) (oi mi oa ma oe me : Nat) (hd : me ∉ [oi, mi, oa, ma, oe]) :
    ToH Tryz.prog (GL kr) (sbMs me) [me] [(oi, .box [.map mi]), (mi, .map (tK inn) (tV inn)), (oa, .box [.map ma]), (ma, .map (tK arn) (tV arn)), (oe, .box [.map me])] 82 [.ptr oi 0, .ptr oa 0, .ptr oe 0] (sbTo inn arn) (fun m S => S.length ≤ L0 + m) := by
  simp only [List.mem_cons, List.not_mem_nil, or_false, not_or] at hd
  refine ⟨fun _ => rfl, by simp, fun q hq => ?_, yrX, rfl, fun s no nt h q hq => ?_, fun p i x m s h => ?_, fun p i x m s σ hl hp h0 h1 hg hm hgl hU hX => ?_⟩
  · simp only [List.mem_cons, List.not_mem_nil, or_false] at hq ⊢
    rcases hq with rfl | rfl | rfl | rfl | rfl
    · exact fun e => hd.1 e.symm
    · exact fun e => hd.2.1 e.symm
    · exact fun e => hd.2.2.1 e.symm
    · exact fun e => hd.2.2.2.1 e.symm
    · exact fun e => hd.2.2.2.2 e.symm
  · rw [sbMs, List.mem_singleton] at hq; subst hq; rfl
  · have := yoF inn arn p i x s; omega
  · exact yrF inn arn s (by omega) p hl hp i h0 h1 x oi mi oa ma oe me σ hgl (hX (oi, _) (by simp)) (hX (mi, _) (by simp)) (hX (oa, _) (by simp)) (hX (ma, _) (by simp)) (hX (oe, _) (by simp)) (hU (me, _) (by simp [sbMs]))
def yh1 (x : ByteArray) : Bool := zw zE x && zz x == 0
def yaL (e : D) (x : ByteArray) (a : D) : D × Int :=
  if (sis e != 0) = true then (dnone, sis e) else if (sis a != 0) = true then (dnone, sis a) else if (!yh1 x) = true then (dnone, 4) else if (dcheck (ycX e x a) != 0) = true then (dnone, 3) else (ycX e x a, 0)

set_option maxHeartbeats 1000000 in
theorem yme (x : ByteArray) : Pur Tryz.prog (GL kr) 42 [.pv (.str x)] (.pv (.bool (yh1 x))) := by
 refine yB fun σ hgl => ?_
 have hgw : YU σ.gl 0 = some (.ptr [.map (wdK kr) (wdV kr)]) := by rw [hgl]; exact yk5
 have hlw := fun (s : St) (x : ByteArray) => ygs (W := kr) (ty := ty) (s := s) (t := 116) (x := x) rfl rfl rfl rfl rfl rfl rfl
 refine yk tyOk Tryz.func42 rfl (by simp [Tryz.f42]) ?_
 refine sS ?_
 refine sG ?_
 refine aT 1 ?_
 refine aG ylI ((ya6 x) _ (by exact hgl)) ?_
 refine aT 1 ?_
 refine yn 5 (by first | rfl | (simp [go_sem, hgw, hlw] <;> rfl)) (fun h0 => ?_) (fun h0 => ?_)
 ·refine aLG 4 5 true (by simp [go_sem, hgw, hlw] <;> rfl) ?_
  refine aT 2 ?_
  refine ye (yd (eR ?_))
  exact ⟨by simp only [yh1, h0, bE]; simp [go_sem], by simp [go_sem]⟩
 ·refine aK 4 5 true ?_
  refine aT 2 ?_
  refine ye (yd (eR ?_))
  exact ⟨by simp only [yh1, h0, bG]; simp [go_sem], by simp [go_sem]⟩

end Go.Proofs.YtigideidmcmfbaaGreatDoor

namespace Go.Proofs.YtigideidmcmfbaaGreatDoor
open Go Go.Aw
variable {kr : KR}
theorem ykR {d : D} (h : sis d = 0) : formed d = true := by
  unfold sis schk at h
  split at h
  · rename_i h1
    simp only at h
    rw [h] at h1; cases h1
  · rename_i h1
    have h2 : dcheck d = 0 := by simpa using h1
    unfold dcheck at h2
    split at h2
    · cases h2
    · rename_i h3; simpa using h3
theorem pre6 {A : List AObj} {a b c d e y : AObj} {o : Nat} {ob : AObj} (h : (A ++ [a, b, c, d, e])[o]? = some ob) : (A ++ [a, b, c, d, e, y])[o]? = some ob := by
  have : A ++ [a, b, c, d, e, y] = (A ++ [a, b, c, d, e]) ++ [y] := by simp
  rw [this]; exact yL h
theorem pre7 {A : List AObj} {a b c d e y z : AObj} {o : Nat} {ob : AObj} (h : (A ++ [a, b, c, d, e])[o]? = some ob) : (A ++ [a, b, c, d, e, y, z])[o]? = some ob := by
  have : A ++ [a, b, c, d, e, y, z] = (A ++ [a, b, c, d, e, y]) ++ [z] := by simp
  rw [this]; exact yL (pre6 h)
theorem ynm (p : List Int) : (AV.pv (wPV p)).elems = some (ipv p) := by
  unfold wPV
  split
  · subst_vars; rfl
  · rfl
theorem D.sub_len : ∀ (p : List Int) (d y : D), d.sub p = some y → p.length < d.size
  | [], d, y, _ => D.size_pos d
  | i :: p, d, y, h => by
    simp only [D.sub] at h
    split at h
    · obtain ⟨c, hc, h⟩ := Option.bind_eq_some_iff.1 h
      have h1 := D.sub_len p c y h
      have h2 := D.size_kid_lt (List.mem_of_getElem? hc)
      simp only [List.length_cons]; omega
    · cases h
theorem ymr (d : D) : yaU (List.take 4 (ycc d)) = .pv (enc d) := by rw [yaM]; rfl
theorem yfO {g : List (Nat × PV)} {A : List AObj} {t : List Go.Aw.Tok} {a b c d e y z : AObj} {R : List ByteArray} : setS ⟨g, A ++ [a, b, c, d, e, y, z], t⟩ (A.length + 5) R = ⟨g, A ++ [a, b, c, d, e, .map (tK R) (tV R), z], t⟩ := by
  unfold setS
  simp only
  rw [List.set_append_right _ _ (by omega), Nat.add_sub_cancel_left]; rfl
theorem yfX {g : List (Nat × PV)} {A : List AObj} {t : List Go.Aw.Tok} {a b c d e y z : AObj} {R : List ByteArray} : setS ⟨g, A ++ [a, b, c, d, e, y, z], t⟩ (A.length + 6) R = ⟨g, A ++ [a, b, c, d, e, y, .map (tK R) (tV R)], t⟩ := by
  unfold setS
  simp only
  rw [List.set_append_right _ _ (by omega), Nat.add_sub_cancel_left]; rfl
theorem cut7 {g : List (Nat × PV)} {A : List AObj} {t : List Go.Aw.Tok} {a b c d e y z : AObj} : Store.cut ⟨g, A ++ [a, b, c, d, e, y, z], t⟩ (A.length + 5) t.length = ⟨g, A ++ [a, b, c, d, e], t⟩ := by
  unfold Store.cut
  simp only
  rw [List.take_length, show A ++ [a, b, c, d, e, y, z] = (A ++ [a, b, c, d, e]) ++ [y, z] by simp, List.take_left' (by simp)]
theorem upd9 {g : List (Nat × PV)} {A : List AObj} {t : List Go.Aw.Tok} {a b c d e y z v w : AObj} {R : List ByteArray} : (updS ⟨g, A ++ [a, b, c, d, e, y, z, v, w], t⟩ (sbMs (A.length + 6) R)).objs = A ++ [a, b, c, d, e, y, .map (tK R) (tV R), v, w] := by
  unfold updS sbMs
  simp only [yK]
  rw [List.set_append_right _ _ (by omega), Nat.add_sub_cancel_left]; rfl

set_option maxHeartbeats 8000000 in
theorem yqL (e : D) (x : ByteArray) (a : D) (he : e.size ≤ 100000000) (ha : a.size ≤ 100000000) (hb : (fnd x e [] [] ([], [])).1.length ≤ 1000000000) (hrs : (ycX e x a).size ≤ 1000000000) : Pur Tryz.prog (GL kr) 39 [.pv (enc e), .pv (.str x), .pv (enc a)] (.tuple [.pv (enc (yaL e x a).1), .pv (.int .i64 (yaL e x a).2)]) := by
 refine yB fun σ hgl => ?_
 have hw1 : IntKind.i64.wrap 1 = 1 := by decide
 have hw2 : IntKind.i64.wrap 2 = 2 := by decide
 have hF := ypP (kr := kr) e x he hb
 obtain ⟨PL, hPL⟩ : ∃ PL, PL = fnd x e [] [] ([], []) := ⟨_, rfl⟩
 rw [← hPL] at hF hb
 have hml := ylQ [e, a] []
 have hen : ([e, a] : List D).map enc = [enc e, enc a] := rfl
 refine yk tyOk Tryz.func39 rfl (by simp [Tryz.f39]) ?_
 refine sS ?_
 refine ya (sS ?_)
 refine yh (YG (za ?_))
 refine sS ?_
 refine ya (yc (b := true) (by simp [go_sem]) (fun h => ?_) (fun h => ?_))
 rotate_left
 ·cases h
 refine yg (ya (yh (sS ?_)))
 refine sG ?_
 refine aT 1 ?_
 refine aG ydV ((yfM e he) _ (by exact hgl)) ?_
 refine aT 1 ?_
 refine ye (sS ?_)
 refine yc (by first | rfl | (simp [go_sem, hw1, hw2, AD.av_cells, AD.cells_len, zS] <;> rfl)) (fun h0 => ?_) (fun h0 => ?_)
 ·refine ya (aS ?_)
  refine yd (yi (yf (yf (yi (yf (eR ?_))))))
  exact ⟨by simp only [yaL, h0, if_true, ybh]; simp [go_sem], by simp [go_sem]⟩
 ·refine yg (aR (by simp [go_sem, hw1] <;> rfl) ?_)
  refine za ?_
  refine sS ?_
  refine ya (yc (b := true) (by simp [go_sem]) (fun h => ?_) (fun h => ?_))
  rotate_left
  ·cases h
  refine yg (ya (yh (sS ?_)))
  refine sG ?_
  refine aT 1 ?_
  refine aG ydV ((yfM a ha) _ (by exact hgl)) ?_
  refine aT 1 ?_
  refine ye (sS ?_)
  refine yc (by first | rfl | (simp [go_sem, hw1, hw2, AD.av_cells, AD.cells_len, zS] <;> rfl)) (fun h1 => ?_) (fun h1 => ?_)
  ·refine ya (aS ?_)
   refine yd (yi (yf (yf (yi (yf (eR ?_))))))
   exact ⟨by simp only [yaL, h0, h1, Bool.false_eq_true, if_true, if_false, ybh]; simp [go_sem], by simp [go_sem]⟩
  ·refine yg (aR (by simp [go_sem, hw2] <;> rfl) ?_)
   refine za ?_
   refine sS ?_
   refine ya (yc (b := false) (by simp [go_sem]) (fun h => ?_) (fun h => ?_))
   ·cases h
   refine yp (yj (yj (yl (ya (sG ?_)))))
   refine aT 1 ?_
   refine aG yse ((yme x) _ (by exact hgl)) ?_
   refine aT 1 ?_
   refine ye (yc (by first | rfl | (simp [go_sem, hw1, hw2, AD.av_cells, AD.cells_len, zS] <;> rfl)) (fun h2 => ?_) (fun h2 => ?_))
   ·refine ya (aS ?_)
    refine yd (yf (eR ?_))
    exact ⟨by simp only [yaL, h0, h1, h2, Bool.false_eq_true, if_true, if_false, ybh]; simp [go_sem], by simp [go_sem]⟩
   ·refine yg (sG ?_)
    refine Zx 2 (sh := [12]) tyOk (by simp [go_sem] <;> rfl) ?_
    refine yy rfl rfl rfl (by simp [go_sem] <;> rfl) yrY (hF _ (by exact hgl)) (by simp [go_sem] <;> rfl) (by simp [go_sem]) rfl rfl ?_
    rintro r σ' ⟨rfl, rfl⟩
    refine Zx 6 (sh := [12]) tyOk (by simp [go_sem] <;> rfl) ?_
    refine ye (ya (yk3 tyOk tySz 1 2 7 8 (fun | true, true => [0, 1, 2, 3, 4, 5, 6, 7, 8, 9, 10] | true, false => [0, 1, 2, 3, 4, 5, 6, 8, 7, 9, 10] | false, true => [0, 2, 1, 3, 4, 5, 6, 7, 8, 9, 10] | false, false => [0, 2, 1, 3, 4, 5, 6, 8, 7, 9, 10]) (by kernel_rfl) ?_))
    intro x y
    cases x <;> cases y
    case' false.false =>
     show UL _ _ _ _ _ [_, _, _, _, _, _, _, _, _, _, _] _ _
     refine yo 2 (by simp [go_sem] <;> rfl) ?_
     refine Yv (by rintro _ _ ⟨_, rfl⟩ o ob ho; first | exact yL ho | exact yL (yL ho) | exact yL (pre6 ho) | exact pre6 ho | exact pre7 ho) rfl rfl rfl rfl (by simp [go_sem] <;> rfl) yb9 (yah a ha _ (by exact hgl)) (by simp [go_sem] <;> rfl) (by simp [go_sem]) rfl rfl ⟨_, _, rfl, rfl⟩ ?_
     rintro r σ' ⟨rfl, rfl⟩
     refine yo 3 (by simp [go_sem] <;> rfl) ?_
     refine Yv (by rintro _ _ ⟨_, rfl⟩ o ob ho; have hl : o < σ.objs.length + 5 := (by have h := (List.getElem?_eq_some_iff.1 ho).1; simpa [yaF] using h); first | exact pre6 ho | exact pre7 ho | exact (zn (om := (σ.objs.length + 5)) (i := o) (by omega)).trans (pre7 ho) | exact (zn (om := (σ.objs.length + 5)) (i := o) (by omega)).trans (yL (yL ho))) rfl rfl rfl rfl (by simp [go_sem] <;> rfl) ycs (ybv [e, a] (by simp) (by simp [D.sizes]; omega) (σ.objs.length + 5) [] _ (by exact hgl) (by simp [go_sem, tK, tV])) (by simp [go_sem] <;> rfl) (by simp [go_sem]) rfl rfl ⟨_, _, rfl, rfl⟩ ?_
     rintro r σ' ⟨rfl, rfl⟩
     refine yo 4 (by simp [go_sem] <;> rfl) ?_
     refine yF ?_
     refine ya ?_
     first | rw [yfO] | rw [yfX]
     refine ycV 13 14 (M := σ.objs.length + 5) (nl := 5) (s2 := ⟨[(3, .lptr 0 0), (5, .lptr 1 0), (6, .lptr 2 0), (7, .pv (.int .i64 0)), (11, .acc (PL.1.map wPV) σ.toks.length), (12, .ptr (σ.objs.length + 4) 0)], [[.pv (.int .i64 e.kind), .pv (.int .i64 e.num), .pv (.str e.text), .pv (.slice (e.kids.map enc))], [.pv (.int .i64 a.kind), .pv (.int .i64 a.num), .pv (.str a.text), .pv (.slice (a.kids.map enc))], [.pv (.int .i64 0), .pv (.int .i64 0), .pv (.str ⟨#[]⟩), .pv .nils], [.pv (.int .i64 e.kind), .pv (.int .i64 e.num), .pv (.str e.text), .pv (.slice (e.kids.map enc))], [.pv (.int .i64 a.kind), .pv (.int .i64 a.num), .pv (.str a.text), .pv (.slice (a.kids.map enc))]], (⟨σ.gl, σ.objs ++ [AObj.box [.pv (.str x)], AObj.box [.acc (PL.1.map wPV) σ.toks.length], AObj.box [.map (σ.objs.length + 3)], AObj.map (tK PL.2) (tV PL.2), AObj.box [.map (σ.objs.length + 3)]], σ.toks ++ [(⟨PL.1.length, 44, 1⟩ : Tok)]⟩ : Store)⟩) (ks := tK (sfree a [] [])) (vs := tV (sfree a [] [])) (ks' := tK (yX [e, a] [])) (vs' := tV (yX [e, a] [])) rfl rfl (by decide) rfl rfl (by omega) (by simp) (by simp) (by omega) (by omega) (by decide) (by decide) (by decide) ⟨cut7.symm, rfl, by omega, by simp, by simp [go_sem], fun ob hob => ?_, by simp [go_sem]⟩ ?_
     · rcases List.mem_append.1 hob with h | h
       · exact .inl h
       · refine .inr ?_
         simp only [List.mem_cons, List.not_mem_nil, or_false] at h
         rcases h with rfl | rfl | rfl | rfl | rfl <;> simp [AObj.clo, AV.clos, AV.clo]
    case' false.true =>
     show UL _ _ _ _ _ [_, _, _, _, _, _, _, _, _, _, _] _ _
     refine yo 2 (by simp [go_sem] <;> rfl) ?_
     refine Yv (by rintro _ _ ⟨_, rfl⟩ o ob ho; first | exact yL ho | exact yL (yL ho) | exact yL (pre6 ho) | exact pre6 ho | exact pre7 ho) rfl rfl rfl rfl (by simp [go_sem] <;> rfl) yb9 (yah a ha _ (by exact hgl)) (by simp [go_sem] <;> rfl) (by simp [go_sem]) rfl rfl ⟨_, _, rfl, rfl⟩ ?_
     rintro r σ' ⟨rfl, rfl⟩
     refine yo 3 (by simp [go_sem] <;> rfl) ?_
     refine Yv (by rintro _ _ ⟨_, rfl⟩ o ob ho; have hl : o < σ.objs.length + 5 := (by have h := (List.getElem?_eq_some_iff.1 ho).1; simpa [yaF] using h); first | exact pre6 ho | exact pre7 ho | exact (zn (om := (σ.objs.length + 5)) (i := o) (by omega)).trans (pre7 ho) | exact (zn (om := (σ.objs.length + 5)) (i := o) (by omega)).trans (yL (yL ho))) rfl rfl rfl rfl (by simp [go_sem] <;> rfl) ycs (ybv [e, a] (by simp) (by simp [D.sizes]; omega) (σ.objs.length + 5) [] _ (by exact hgl) (by simp [go_sem, tK, tV])) (by simp [go_sem] <;> rfl) (by simp [go_sem]) rfl rfl ⟨_, _, rfl, rfl⟩ ?_
     rintro r σ' ⟨rfl, rfl⟩
     refine yo 4 (by simp [go_sem] <;> rfl) ?_
     refine yF ?_
     refine ya ?_
     first | rw [yfO] | rw [yfX]
     refine ycV 13 14 (M := σ.objs.length + 5) (nl := 5) (s2 := ⟨[(3, .lptr 0 0), (5, .lptr 1 0), (6, .lptr 2 0), (7, .pv (.int .i64 0)), (11, .acc (PL.1.map wPV) σ.toks.length), (12, .ptr (σ.objs.length + 4) 0)], [[.pv (.int .i64 e.kind), .pv (.int .i64 e.num), .pv (.str e.text), .pv (.slice (e.kids.map enc))], [.pv (.int .i64 a.kind), .pv (.int .i64 a.num), .pv (.str a.text), .pv (.slice (a.kids.map enc))], [.pv (.int .i64 0), .pv (.int .i64 0), .pv (.str ⟨#[]⟩), .pv .nils], [.pv (.int .i64 e.kind), .pv (.int .i64 e.num), .pv (.str e.text), .pv (.slice (e.kids.map enc))], [.pv (.int .i64 a.kind), .pv (.int .i64 a.num), .pv (.str a.text), .pv (.slice (a.kids.map enc))]], (⟨σ.gl, σ.objs ++ [AObj.box [.pv (.str x)], AObj.box [.acc (PL.1.map wPV) σ.toks.length], AObj.box [.map (σ.objs.length + 3)], AObj.map (tK PL.2) (tV PL.2), AObj.box [.map (σ.objs.length + 3)]], σ.toks ++ [(⟨PL.1.length, 44, 1⟩ : Tok)]⟩ : Store)⟩) (ks := tK (sfree a [] [])) (vs := tV (sfree a [] [])) (ks' := tK (yX [e, a] [])) (vs' := tV (yX [e, a] [])) rfl rfl (by decide) rfl rfl (by omega) (by simp) (by simp) (by omega) (by omega) (by decide) (by decide) (by decide) ⟨cut7.symm, rfl, by omega, by simp, by simp [go_sem], fun ob hob => ?_, by simp [go_sem]⟩ ?_
     · rcases List.mem_append.1 hob with h | h
       · exact .inl h
       · refine .inr ?_
         simp only [List.mem_cons, List.not_mem_nil, or_false] at h
         rcases h with rfl | rfl | rfl | rfl | rfl <;> simp [AObj.clo, AV.clos, AV.clo]
    case' true.false =>
     show UL _ _ _ _ _ [_, _, _, _, _, _, _, _, _, _, _] _ _
     refine yo 1 (by simp [go_sem] <;> rfl) ?_
     refine Yv (by rintro _ _ ⟨_, rfl⟩ o ob ho; first | exact yL ho | exact yL (yL ho) | exact yL (pre6 ho) | exact pre6 ho | exact pre7 ho) rfl rfl rfl rfl (by simp [go_sem] <;> rfl) yb9 (yah a ha _ (by exact hgl)) (by simp [go_sem] <;> rfl) (by simp [go_sem]) rfl rfl ⟨_, _, rfl, rfl⟩ ?_
     rintro r σ' ⟨rfl, rfl⟩
     refine yo 4 (by simp [go_sem] <;> rfl) ?_
     refine Yv (by rintro _ _ ⟨_, rfl⟩ o ob ho; have hl : o < σ.objs.length + 5 := (by have h := (List.getElem?_eq_some_iff.1 ho).1; simpa [yaF] using h); first | exact pre6 ho | exact pre7 ho | exact (zn (om := (σ.objs.length + 6)) (i := o) (by omega)).trans (pre7 ho) | exact (zn (om := (σ.objs.length + 6)) (i := o) (by omega)).trans (yL (yL ho))) rfl rfl rfl rfl (by simp [go_sem] <;> rfl) ycs (ybv [e, a] (by simp) (by simp [D.sizes]; omega) (σ.objs.length + 6) [] _ (by exact hgl) (by simp [go_sem, tK, tV])) (by simp [go_sem] <;> rfl) (by simp [go_sem]) rfl rfl ⟨_, _, rfl, rfl⟩ ?_
     rintro r σ' ⟨rfl, rfl⟩
     refine yo 4 (by simp [go_sem] <;> rfl) ?_
     refine yF ?_
     refine ya ?_
     first | rw [yfO] | rw [yfX]
     refine ycV 13 14 (M := σ.objs.length + 5) (nl := 5) (s2 := ⟨[(3, .lptr 0 0), (5, .lptr 1 0), (6, .lptr 2 0), (7, .pv (.int .i64 0)), (11, .acc (PL.1.map wPV) σ.toks.length), (12, .ptr (σ.objs.length + 4) 0)], [[.pv (.int .i64 e.kind), .pv (.int .i64 e.num), .pv (.str e.text), .pv (.slice (e.kids.map enc))], [.pv (.int .i64 a.kind), .pv (.int .i64 a.num), .pv (.str a.text), .pv (.slice (a.kids.map enc))], [.pv (.int .i64 0), .pv (.int .i64 0), .pv (.str ⟨#[]⟩), .pv .nils], [.pv (.int .i64 e.kind), .pv (.int .i64 e.num), .pv (.str e.text), .pv (.slice (e.kids.map enc))], [.pv (.int .i64 a.kind), .pv (.int .i64 a.num), .pv (.str a.text), .pv (.slice (a.kids.map enc))]], (⟨σ.gl, σ.objs ++ [AObj.box [.pv (.str x)], AObj.box [.acc (PL.1.map wPV) σ.toks.length], AObj.box [.map (σ.objs.length + 3)], AObj.map (tK PL.2) (tV PL.2), AObj.box [.map (σ.objs.length + 3)]], σ.toks ++ [(⟨PL.1.length, 44, 1⟩ : Tok)]⟩ : Store)⟩) (ks := tK (sfree a [] [])) (vs := tV (sfree a [] [])) (ks' := tK (yX [e, a] [])) (vs' := tV (yX [e, a] [])) rfl rfl (by decide) rfl rfl (by omega) (by simp) (by simp) (by omega) (by omega) (by decide) (by decide) (by decide) ⟨cut7.symm, rfl, by omega, by simp, by simp [go_sem], fun ob hob => ?_, by simp [go_sem]⟩ ?_
     · rcases List.mem_append.1 hob with h | h
       · exact .inl h
       · refine .inr ?_
         simp only [List.mem_cons, List.not_mem_nil, or_false] at h
         rcases h with rfl | rfl | rfl | rfl | rfl <;> simp [AObj.clo, AV.clos, AV.clo]
    case' true.true =>
     show UL _ _ _ _ _ [_, _, _, _, _, _, _, _, _, _, _] _ _
     refine yo 1 (by simp [go_sem] <;> rfl) ?_
     refine Yv (by rintro _ _ ⟨_, rfl⟩ o ob ho; first | exact yL ho | exact yL (yL ho) | exact yL (pre6 ho) | exact pre6 ho | exact pre7 ho) rfl rfl rfl rfl (by simp [go_sem] <;> rfl) yb9 (yah a ha _ (by exact hgl)) (by simp [go_sem] <;> rfl) (by simp [go_sem]) rfl rfl ⟨_, _, rfl, rfl⟩ ?_
     rintro r σ' ⟨rfl, rfl⟩
     refine yo 4 (by simp [go_sem] <;> rfl) ?_
     refine Yv (by rintro _ _ ⟨_, rfl⟩ o ob ho; have hl : o < σ.objs.length + 5 := (by have h := (List.getElem?_eq_some_iff.1 ho).1; simpa [yaF] using h); first | exact pre6 ho | exact pre7 ho | exact (zn (om := (σ.objs.length + 6)) (i := o) (by omega)).trans (pre7 ho) | exact (zn (om := (σ.objs.length + 6)) (i := o) (by omega)).trans (yL (yL ho))) rfl rfl rfl rfl (by simp [go_sem] <;> rfl) ycs (ybv [e, a] (by simp) (by simp [D.sizes]; omega) (σ.objs.length + 6) [] _ (by exact hgl) (by simp [go_sem, tK, tV])) (by simp [go_sem] <;> rfl) (by simp [go_sem]) rfl rfl ⟨_, _, rfl, rfl⟩ ?_
     rintro r σ' ⟨rfl, rfl⟩
     refine yo 4 (by simp [go_sem] <;> rfl) ?_
     refine yF ?_
     refine ya ?_
     first | rw [yfO] | rw [yfX]
     refine ycV 13 14 (M := σ.objs.length + 5) (nl := 5) (s2 := ⟨[(3, .lptr 0 0), (5, .lptr 1 0), (6, .lptr 2 0), (7, .pv (.int .i64 0)), (11, .acc (PL.1.map wPV) σ.toks.length), (12, .ptr (σ.objs.length + 4) 0)], [[.pv (.int .i64 e.kind), .pv (.int .i64 e.num), .pv (.str e.text), .pv (.slice (e.kids.map enc))], [.pv (.int .i64 a.kind), .pv (.int .i64 a.num), .pv (.str a.text), .pv (.slice (a.kids.map enc))], [.pv (.int .i64 0), .pv (.int .i64 0), .pv (.str ⟨#[]⟩), .pv .nils], [.pv (.int .i64 e.kind), .pv (.int .i64 e.num), .pv (.str e.text), .pv (.slice (e.kids.map enc))], [.pv (.int .i64 a.kind), .pv (.int .i64 a.num), .pv (.str a.text), .pv (.slice (a.kids.map enc))]], (⟨σ.gl, σ.objs ++ [AObj.box [.pv (.str x)], AObj.box [.acc (PL.1.map wPV) σ.toks.length], AObj.box [.map (σ.objs.length + 3)], AObj.map (tK PL.2) (tV PL.2), AObj.box [.map (σ.objs.length + 3)]], σ.toks ++ [(⟨PL.1.length, 44, 1⟩ : Tok)]⟩ : Store)⟩) (ks := tK (sfree a [] [])) (vs := tV (sfree a [] [])) (ks' := tK (yX [e, a] [])) (vs' := tV (yX [e, a] [])) rfl rfl (by decide) rfl rfl (by omega) (by simp) (by simp) (by omega) (by omega) (by decide) (by decide) (by decide) ⟨cut7.symm, rfl, by omega, by simp, by simp [go_sem], fun ob hob => ?_, by simp [go_sem]⟩ ?_
     · rcases List.mem_append.1 hob with h | h
       · exact .inl h
       · refine .inr ?_
         simp only [List.mem_cons, List.not_mem_nil, or_false] at h
         rcases h with rfl | rfl | rfl | rfl | rfl <;> simp [AObj.clo, AV.clos, AV.clo]
    all_goals
     refine ycD 5 (s2 := ⟨(13, .ptr (σ.objs.length + 7) 0) :: (14, .ptr (σ.objs.length + 8) 0) :: [(3, .lptr 0 0), (5, .lptr 1 0), (6, .lptr 2 0), (7, .pv (.int .i64 0)), (11, .acc (PL.1.map wPV) σ.toks.length), (12, .ptr (σ.objs.length + 4) 0)], [[.pv (.int .i64 e.kind), .pv (.int .i64 e.num), .pv (.str e.text), .pv (.slice (e.kids.map enc))], [.pv (.int .i64 a.kind), .pv (.int .i64 a.num), .pv (.str a.text), .pv (.slice (a.kids.map enc))], [.pv (.int .i64 0), .pv (.int .i64 0), .pv (.str ⟨#[]⟩), .pv .nils], [.pv (.int .i64 e.kind), .pv (.int .i64 e.num), .pv (.str e.text), .pv (.slice (e.kids.map enc))], [.pv (.int .i64 a.kind), .pv (.int .i64 a.num), .pv (.str a.text), .pv (.slice (a.kids.map enc))]], (⟨σ.gl, σ.objs ++ [AObj.box [.pv (.str x)], AObj.box [.acc (PL.1.map wPV) σ.toks.length], AObj.box [.map (σ.objs.length + 3)], AObj.map (tK PL.2) (tV PL.2), AObj.box [.map (σ.objs.length + 3)], AObj.map (tK (sfree a [] [])) (tV (sfree a [] [])), AObj.map (tK (yX [e, a] [])) (tV (yX [e, a] [])), AObj.box [.map (σ.objs.length + 5)], AObj.box [.map (σ.objs.length + 6)]], σ.toks ++ [(⟨PL.1.length, 44, 1⟩ : Tok)]⟩ : Store)⟩) ⟨by simp, by simp, by simp [go_sem], by simp [go_sem]⟩ ?_
     have hMl : (yX [e, a] []).length ≤ 1000000000 := by simp [D.sizes] at hml; omega
     have hRr := yh6 (ysq (kr := kr) (sfree a [] []) PL.2 (yX [e, a] []).length hMl (σ.objs.length + 7) (σ.objs.length + 5) (σ.objs.length + 4) (σ.objs.length + 3) (σ.objs.length + 8) (σ.objs.length + 6) (by simp)) e he (yX [e, a] []) (by simp) (by have := ygQ e; omega) (⟨σ.gl, σ.objs ++ [AObj.box [.pv (.str x)], AObj.box [.acc (PL.1.map wPV) σ.toks.length], AObj.box [.map (σ.objs.length + 3)], AObj.map (tK PL.2) (tV PL.2), AObj.box [.map (σ.objs.length + 3)], AObj.map (tK (sfree a [] [])) (tV (sfree a [] [])), AObj.map (tK (yX [e, a] [])) (tV (yX [e, a] [])), AObj.box [.map (σ.objs.length + 5)], AObj.box [.map (σ.objs.length + 6)]], σ.toks ++ [(⟨PL.1.length, 44, 1⟩ : Tok)]⟩ : Store) (by simp [AV.clos, AV.clo]) (by exact hgl) (by intro q hq; simp [sbMs] at hq; subst hq; simp) (by intro q hq; simp at hq; rcases hq with rfl | rfl | rfl | rfl | rfl <;> simp)
     obtain ⟨RN, hRN⟩ : ∃ RN, RN = zZ (sbTo (sfree a [] []) PL.2) e (yX [e, a] []) := ⟨_, rfl⟩
     have hlen9 : (σ.objs ++ [AObj.box [.pv (.str x)], AObj.box [.acc (PL.1.map wPV) σ.toks.length], AObj.box [.map (σ.objs.length + 3)], AObj.map (tK PL.2) (tV PL.2), AObj.box [.map (σ.objs.length + 3)], AObj.map (tK (sfree a [] [])) (tV (sfree a [] [])), AObj.map (tK (yX [e, a] [])) (tV (yX [e, a] [])), AObj.box [.map (σ.objs.length + 5)], AObj.box [.map (σ.objs.length + 6)]]).length = σ.objs.length + 9 := by simp
     rw [← hRN, upd9] at hRr
     simp only [hlen9] at hRr
     have hRe : RN.1.er = e.er := by rw [hRN]; exact ycF _ _ _
     refine yS ?_
     refine Zx 2 (sh := [15]) tyOk (by simp [go_sem] <;> rfl) ?_
     refine yy rfl rfl rfl (by simp [go_sem] <;> rfl) ynw (hRr) (by simp [go_sem] <;> rfl) (by simp [go_sem]) rfl rfl ?_
     rintro r σ' ⟨rfl, rfl⟩
     refine Zx 2 (sh := [15]) tyOk (by simp [go_sem, AD.av_cells, AD.cells_len, zS] <;> rfl) ?_
     refine ye (ya (ya ?_))
     obtain ⟨A, hA⟩ : ∃ A, A = (σ.objs ++ [AObj.box [.pv (.str x)], AObj.box [.acc (PL.1.map wPV) σ.toks.length], AObj.box [.map (σ.objs.length + 3)], AObj.map (tK PL.2) (tV PL.2), AObj.box [.map (σ.objs.length + 3)], AObj.map (tK (sfree a [] [])) (tV (sfree a [] [])), AObj.map (tK RN.2) (tV RN.2), AObj.box [.map (σ.objs.length + 5)], AObj.box [.map (σ.objs.length + 6)]]) ++ AObj.box [.func (.func 82) [.ptr (σ.objs.length + 7) 0, .ptr (σ.objs.length + 4) 0, .ptr (σ.objs.length + 8) 0]] :: lobjs (σ.objs.length + 9 + 1) RN.1 := ⟨_, rfl⟩
     have hAl : A.length = σ.objs.length + 10 + msz RN.1 := by rw [hA]; simp [Zh]; omega
     refine ycD 5 (s2 := ⟨[(15, .ptr A.length 0), (5, .lptr 1 0), (6, .lptr 2 0), (7, .pv (.int .i64 0)), (11, .acc (PL.1.map wPV) σ.toks.length)], [[.pv (.int .i64 e.kind), .pv (.int .i64 e.num), .pv (.str e.text), .pv (.slice (e.kids.map enc))], [.pv (.int .i64 a.kind), .pv (.int .i64 a.num), .pv (.str a.text), .pv (.slice (a.kids.map enc))], [.pv (.int .i64 0), .pv (.int .i64 0), .pv (.str ⟨#[]⟩), .pv .nils], [.pv (.int .i64 e.kind), .pv (.int .i64 e.num), .pv (.str e.text), .pv (.slice (e.kids.map enc))], [.pv (.int .i64 a.kind), .pv (.int .i64 a.num), .pv (.str a.text), .pv (.slice (a.kids.map enc))]], (⟨σ.gl, A ++ [AObj.box (lay (σ.objs.length + 9 + 1) RN.1).cells], σ.toks ++ [(⟨PL.1.length, 44, 1⟩ : Tok)]⟩ : Store)⟩) ⟨by simp [go_sem, hA], by simp [go_sem], by simp [go_sem, hA], by simp [go_sem]⟩ ?_
     refine yfy A.length (lay (σ.objs.length + 9 + 1) RN.1).cells (by simp) ?_
     simp only [yiu]
     have hok0 : GOk σ.gl (σ.toks ++ [(⟨PL.1.length, 44, 1⟩ : Tok)]) σ.objs.length A.length (A ++ [AObj.arr (lay (σ.objs.length + 9 + 1) RN.1).cells], (lay (σ.objs.length + 9 + 1) RN.1)) := by
      refine ⟨fun q hq => ?_, ?_, fun i hi => ?_⟩
      · rcases List.mem_cons.1 hq with rfl | hq
        · exact yaZ rfl
        · have h3 := yb6 (σ := ⟨σ.gl, A ++ [AObj.arr (lay (σ.objs.length + 9 + 1) RN.1).cells], σ.toks ++ [(⟨PL.1.length, 44, 1⟩ : Tok)]⟩) (A := (σ.objs ++ [AObj.box [.pv (.str x)], AObj.box [.acc (PL.1.map wPV) σ.toks.length], AObj.box [.map (σ.objs.length + 3)], AObj.map (tK PL.2) (tV PL.2), AObj.box [.map (σ.objs.length + 3)], AObj.map (tK (sfree a [] [])) (tV (sfree a [] [])), AObj.map (tK RN.2) (tV RN.2), AObj.box [.map (σ.objs.length + 5)], AObj.box [.map (σ.objs.length + 6)]]) ++ [AObj.box [.func (.func 82) [.ptr (σ.objs.length + 7) 0, .ptr (σ.objs.length + 4) 0, .ptr (σ.objs.length + 8) 0]]]) (C := [AObj.arr (lay (σ.objs.length + 9 + 1) RN.1).cells]) (d := RN.1) (by simp [hA])
          rw [show ((σ.objs ++ [AObj.box [.pv (.str x)], AObj.box [.acc (PL.1.map wPV) σ.toks.length], AObj.box [.map (σ.objs.length + 3)], AObj.map (tK PL.2) (tV PL.2), AObj.box [.map (σ.objs.length + 3)], AObj.map (tK (sfree a [] [])) (tV (sfree a [] [])), AObj.map (tK RN.2) (tV RN.2), AObj.box [.map (σ.objs.length + 5)], AObj.box [.map (σ.objs.length + 6)]]) ++ [AObj.box [.func (.func 82) [.ptr (σ.objs.length + 7) 0, .ptr (σ.objs.length + 4) 0, .ptr (σ.objs.length + 8) 0]]]).length = σ.objs.length + 9 + 1 by simp] at h3
          exact h3 q hq
      · rw [ZZ, YM]
        exact List.nodup_cons.2 ⟨by rw [List.mem_range'_1]; omega, List.nodup_range'⟩
      · rw [ZZ, YM] at hi
        rcases List.mem_cons.1 hi with e | hi
        · omega
        · rw [List.mem_range'_1] at hi; omega
     have hse : sis e = 0 := by first | simpa using HSE | simp_all
     have hPl2 : PL = sbPl e x := hPL
     have hsb : ∀ p, p ∈ PL.1 → ∃ y, (lay (σ.objs.length + 9 + 1) RN.1).sub p = some y := fun p hp => by
       rw [hPl2] at hp
       obtain ⟨y, hy, _⟩ := yaa hp
       obtain ⟨z, hz, _⟩ := D.sub_of_er hRe hy
       obtain ⟨u, hu, _⟩ := yeq p RN.1 (σ.objs.length + 9 + 1) hz
       exact ⟨u, hu⟩
     have hap : yja PL.1 := by rw [hPl2]; exact yh4 (ykR hse)
     have h0n : ∀ p, p ∈ PL.1 → ∀ j, j ∈ p → 0 ≤ j := fun p hp j hj => by
       rw [hPl2] at hp
       obtain ⟨y, hy, _⟩ := yaa hp
       exact (yej he hy j hj).1
     have hG := ysz hok0 a hsb hap h0n
     have hpln : ∀ p, p ∈ PL.1 → p.length ≤ 100000000 := fun p hp => by
       rw [hPl2] at hp
       obtain ⟨y, hy, _⟩ := yaa hp
       have := D.sub_len p e y hy; omega
     refine aS ?_
     refine yh (yN 7 [5, 6, 7, 15, 56, 57] (fun k : Nat => [(58, .pv (.int .i64 ↑k))]) (fun k => (⟨σ.gl, (gK a A.length PL.1 (A ++ [AObj.arr (lay (σ.objs.length + 9 + 1) RN.1).cells], (lay (σ.objs.length + 9 + 1) RN.1)) k).1, σ.toks ++ [(⟨PL.1.length, 44, 1⟩ : Tok)]⟩ : Store)) (fun k => k ≤ PL.1.length) (fun k => PL.1.length - k) 0 (Nat.zero_le _) ⟨rfl, rfl, by simp [go_sem], by simp [go_sem]⟩ ?_)
     intro k hk
     refine sS ?_
     refine ya (yc (by first | rfl | (simp [go_sem, hw1, hw2, AD.av_cells, AD.cells_len, zS] <;> rfl)) (fun h3 => ?_) (fun h3 => ?_))
     ·have hlt : k < PL.1.length := by simp at h3; omega
      have hw : IntKind.i64.wrap (↑k + 1) = (k : Int) + 1 := yv (by omega)
      obtain ⟨pp, hpp, hppm⟩ := ym hlt
      obtain ⟨hok, hsubk, hdat, htake, hlen⟩ := hG k (Nat.le_of_lt hlt)
      have hpk : PL.1[k]? = some pp := by first | exact hx | exact hpp
      have hppm := List.mem_of_getElem? hpk
      obtain ⟨u, hu⟩ := hsubk pp hppm
      have hpe := ynm pp
      unfold AV.elems at hpe
      have hpcl := Zi pp
      have hpcn := ycg pp
      have hppl := hpln pp hppm
      obtain ⟨st, hst⟩ : ∃ st, st = gK a A.length PL.1 (A ++ [AObj.arr (lay (σ.objs.length + 9 + 1) RN.1).cells], (lay (σ.objs.length + 9 + 1) RN.1)) k := ⟨_, rfl⟩
      rw [← hst] at hok hu hlen
      have hst := hst.symm
      have hil := yA pp
      refine yg (ya (yh (sA (by simp [go_sem, hpp, hpcl, hst] <;> rfl) ?_)))
      refine sS ?_
      refine ya (sA (by simp [go_sem, hpe, hil] <;> rfl) ?_)
      refine yh (yN 7 [5, 6, 7, 15, 56, 57, 58, 62, 63] (fun k : Nat => [(18, .ptr (AD.loc (A.length, 0) st.2 (pp.take k)).1 (AD.loc (A.length, 0) st.2 (pp.take k)).2), (64, .pv (.int .i64 ↑k))]) (fun k => (⟨σ.gl, st.1, σ.toks ++ [(⟨PL.1.length, 44, 1⟩ : Tok)]⟩ : Store)) (fun k => k ≤ pp.length) (fun k => pp.length - k) 0 (Nat.zero_le _) ⟨(by first | rfl | exact congrArg (fun z : List AObj × AD => (⟨σ.gl, z.1, σ.toks ++ [(⟨PL.1.length, 44, 1⟩ : Tok)]⟩ : Store)) hst.symm | exact congrArg (fun z : List AObj × AD => (⟨σ.gl, z.1, σ.toks ++ [(⟨PL.1.length, 44, 1⟩ : Tok)]⟩ : Store)) hst), rfl, by simp [go_sem, AD.loc, List.take_zero], by simp [go_sem]⟩ ?_)
      intro k hk
      refine sS ?_
      refine ya (yc (by first | rfl | (simp [go_sem, hw1, hw2, AD.av_cells, AD.cells_len, zS, hpp, hpk, hpe, hpcl, hpcn, hst, hil] <;> rfl)) (fun h4 => ?_) (fun h4 => ?_))
      ·have hlt : k < pp.length := by simp at h4; omega
       have hw : IntKind.i64.wrap (↑k + 1) = (k : Int) + 1 := yv (by omega)
       obtain ⟨i, hi, him⟩ := ym hlt
       have hii : pp[k]? = some i := by first | exact hx | exact hi
       obtain ⟨v, c, hv, hx0, hvc, hxl, hkv, hnx⟩ := AD.sub_take hu hii (A.length, 0)
       obtain ⟨cells, rest, hce, hcd⟩ := AD.loc_load hok.hU hv
       have hxi := ygr hii
       refine yg (ya (yh (sA (by simp [go_sem, hpe, hxi] <;> rfl) ?_)))
       refine aR (by simp [go_sem, hce, hcd, hx0, hxl, hkv] <;> rfl) ?_
       refine aS ?_
       exact ⟨k + 1, hlt, (by show _ - _ < _ - _; omega), rfl, rfl, by simp [go_sem, hnx, hw], by simp [go_sem]⟩
      ·have hke : k = pp.length := by simp at h4; omega
       subst hke
       refine yp (yj (yj (yl (yS ?_))))
       refine aL 2 (by simp [go_sem, List.take_length] <;> rfl) ?_
       refine yy rfl rfl rfl (by simp [go_sem] <;> rfl) yim (ykn a ha _) (by simp [go_sem] <;> rfl) (by simp [go_sem]) rfl rfl ?_
       rintro r σ' ⟨rfl, rfl⟩
       refine aT 1 ?_
       refine yhB (a := a) (gl := σ.gl) (tk := σ.toks ++ [(⟨PL.1.length, 44, 1⟩ : Tok)]) (M := σ.objs.length) (ob := A.length) (st := st) (p := pp) hok hu rfl tyOk rfl rfl rfl rfl rfl (by simp [go_sem]) (by simp [go_sem]) ?_
       refine ye (aS ?_)
       exact ⟨k + 1, hlt, (by show _ - _ < _ - _; omega), (by show (⟨σ.gl, (gK a A.length PL.1 _ (k + 1)).1, _⟩ : Store) = _; rw [ykF hpk, hst]), rfl, by simp [go_sem, hw], by simp [go_sem]⟩
     ·have hke : k = PL.1.length := by simp at h3; omega
      subst hke
      refine yp (yj (yj (yl (ya (ya ?_)))))
      obtain ⟨hok, hsubk, hdat, htake, hlen⟩ := hG PL.1.length (Nat.le_refl _)
      generalize gK a A.length PL.1 (A ++ [AObj.arr (lay (σ.objs.length + 9 + 1) RN.1).cells], (lay (σ.objs.length + 9 + 1) RN.1)) PL.1.length = st at *
      have hres : st.2.dat = ycX e x a := by rw [hdat, List.take_length, ycn, hRN, hPl2]; rfl
      have htk : st.1.take σ.objs.length = σ.objs := by rw [htake, hA]; simp
      refine ygS 15 (M := σ.objs.length) (ob := A.length) (t := st.2) (s2 := ⟨[(6, .lptr 2 0), (7, .pv (.int .i64 0))], [[.pv (.int .i64 e.kind), .pv (.int .i64 e.num), .pv (.str e.text), .pv (.slice (e.kids.map enc))], [.pv (.int .i64 a.kind), .pv (.int .i64 a.num), .pv (.str a.text), .pv (.slice (a.kids.map enc))], [.pv (.int .i64 0), .pv (.int .i64 0), .pv (.str ⟨#[]⟩), .pv .nils], [.pv (.int .i64 e.kind), .pv (.int .i64 e.num), .pv (.str e.text), .pv (.slice (e.kids.map enc))], [.pv (.int .i64 a.kind), .pv (.int .i64 a.num), .pv (.str a.text), .pv (.slice (a.kids.map enc))]], ⟨σ.gl, σ.objs, σ.toks ++ [(⟨PL.1.length, 44, 1⟩ : Tok)]⟩⟩) rfl (hok.hU (A.length, _) (by simp [Ym])) (fun q hq => hok.hU q (List.mem_cons_of_mem _ hq)) (by omega) (fun q hq => ⟨hok.ge _ (List.mem_cons_of_mem _ (List.mem_map.2 ⟨q, hq, rfl⟩)), fun e2 => by have h9 := hok.nd; rw [ZZ] at h9; exact (List.nodup_cons.1 h9).1 (by rw [← e2]; exact List.mem_map.2 ⟨q, hq, rfl⟩)⟩) ⟨by simp [Store.cut, htk, List.take_of_length_le], rfl, Nat.le_refl _, by simp, by simp [go_sem], fun ob hob => .inl hob, by simp [go_sem]⟩ ?_
      rw [hres]
      have hld := ymr (ycX e x a)
      unfold yaU at hld
      have hl4 : 4 ≤ (ycc (ycX e x a)).length := Nat.le_refl _
      refine yS ?_
      refine aL 1 (by simp [go_sem, hld, hl4] <;> rfl) ?_
      refine aG ym7 ((ydn (ycX e x a) hrs) _ (by exact hgl)) ?_
      refine aT 1 ?_
      refine ye (yc (by first | rfl | (simp [go_sem, hw1, hw2, AD.av_cells, AD.cells_len, zS, hld, hl4] <;> rfl)) (fun h5 => ?_) (fun h5 => ?_))
      ·refine ya (aS ?_)
       refine yd (yf (eR ?_))
       exact ⟨by simp only [yaL, h0, h1, h2, h5, Bool.false_eq_true, if_true, if_false, ybh]; simp [go_sem], by simp [go_sem]⟩
      ·refine yg (sA (by simp [go_sem, hld, hl4] <;> rfl) ?_)
       refine yd (eR ?_)
       exact ⟨by simp only [yaL, h0, h1, h2, h5, Bool.false_eq_true, if_false]; simp [go_sem], by simp [go_sem]⟩

end Go.Proofs.YtigideidmcmfbaaGreatDoor

namespace Go.Proofs.YtigideidmcmfbaaGreatDoor
open Go Go.Aw
variable {kr : KR}
def dm : FuncId → Nat → Nat × List Nat × Bool
  | 19, 6 => (8, [], true)
  | 20, 6 => (10, [], true)
  | 136, 10 => (11, [], true)
  | 137, 5 => (9, [], false)
  | 162, 0 => (9, [], true)
  | 162, 1 => (8, [], true)
  | 162, 8 => (19, [], true)
  | 163, 3 => (9, [], true)
  | 163, 5 => (14, [], true)
  | 163, 16 => (9, [], false)
  | 163, 18 => (25, [], true)
  | 163, 19 => (7, [], false)
  | 181, 2 => (19, [], true)
  | 181, 4 => (9, [], true)
  | _, _ => (0, [], false)
def shT : FuncId → List Tmp
  | 136 => [13]
  | _ => []
def caL : List Nat := [19, 20, 50, 85, 93, 128, 129, 136, 137, 162, 163, 164, 181, 193]
theorem caOk : ∀ f, caL.contains f = true → Callable Tryz.prog f := by
  intro f h
  simp only [caL, List.contains_eq_mem, List.mem_cons, List.not_mem_nil, or_false, decide_eq_true_eq] at h
  rcases h with rfl | rfl | rfl | rfl | rfl | rfl | rfl | rfl | rfl | rfl | rfl | rfl | rfl | rfl
  · exact ylC
  · exact yi1
  · exact ydX
  · exact yjk
  · exact yrC
  · exact yek
  · exact yeb
  · exact ypY
  · exact yqN
  · exact ypB
  · exact ypU
  · exact yqr
  · exact ypJ
  · exact ypH
def orcT (f : FuncId) (args : List AV) : Option AV := match Nat.beq f 129, args with
  | true, [.pv (.int .u8 c)] => some (.pv (.bool (letter c)))
  | _, _ => none
theorem ysw : ∀ f args r, orcT f args = some r → Pur Tryz.prog (GL kr) f args r := by
  intro f args r h
  unfold orcT at h
  split at h
  · rename_i c hf
    have := Nat.eq_of_beq_eq_true hf
    subst this
    cases h
    exact Yl c
  · cases h
noncomputable def cfg : Cfg := ⟨Tryz.prog, ty, shT, dm, caL.contains, orcT⟩
theorem ycK : CfgOk cfg (GL kr) := ⟨tyOk, tySz, caOk, ysw⟩
def ex1 : D := dlist [dsym ⟨#[102, 110]⟩, dlist [dsym ⟨#[120]⟩], dlist [dsym ⟨#[102]⟩, dsym ⟨#[120]⟩, dsym ⟨#[121]⟩]]
theorem ypr : zJ Tryz.prog ⟨(GL kr), [], []⟩ 50 [.pv (.str ⟨#[40, 102, 110, 32, 40, 120, 41, 32, 40, 102, 32, 120, 32, 121, 41, 41]⟩)] (.pv (enc ex1)) := Y2 (n := 100000) ycK (by kernel_rfl)
def ex2 : D := dsym ⟨#[120]⟩
theorem yqm : zJ Tryz.prog ⟨(GL kr), [], []⟩ 50 [.pv (.str ⟨#[120]⟩)] (.pv (enc ex2)) := Y2 (n := 100000) ycK (by kernel_rfl)
def ex3 : D := dlist [dsym ⟨#[102, 110]⟩, dlist [dsym ⟨#[118, 48]⟩], dlist [dsym ⟨#[102]⟩, dsym ⟨#[118, 48]⟩, dsym ⟨#[121]⟩]]
theorem ypv : zJ Tryz.prog ⟨(GL kr), [], []⟩ 50 [.pv (.str ⟨#[40, 102, 110, 32, 40, 118, 48, 41, 32, 40, 102, 32, 118, 48, 32, 121, 41, 41]⟩)] (.pv (enc ex3)) := Y2 (n := 100000) ycK (by kernel_rfl)
def ex4 : D := dlist [dsym ⟨#[102, 110]⟩, dlist [dsym ⟨#[118, 48]⟩], dlist [dsym ⟨#[102]⟩, dsym ⟨#[118, 48]⟩, dsym ⟨#[120]⟩]]
theorem ypC : zJ Tryz.prog ⟨(GL kr), [], []⟩ 50 [.pv (.str ⟨#[40, 102, 110, 32, 40, 118, 48, 41, 32, 40, 102, 32, 118, 48, 32, 120, 41, 41]⟩)] (.pv (enc ex4)) := Y2 (n := 100000) ycK (by kernel_rfl)
theorem ylh : sfree ex1 [] [] = [⟨#[102]⟩, ⟨#[121]⟩] := by kernel_rfl
theorem yrP : sis ex1 = 0 := by kernel_rfl
theorem yqh : yc5 [⟨#[102]⟩, ⟨#[121]⟩] = [⟨#[102]⟩, ⟨#[121]⟩] := by
  unfold yc5
  first | rw [List.mergeSort_of_pairwise (by simp; decide)] | rw [List.mergeSort_of_sorted (by simp; decide)] | rw [List.mergeSort_of_pairwise (by decide)] | rw [List.mergeSort_of_sorted (by decide)]
  rfl
theorem yqI : yeh ex1 = (.slice [.str ⟨#[102]⟩, .str ⟨#[121]⟩], 0) := by unfold yeh; rw [yrP, if_neg (by decide), ylh, yqh]; rfl
theorem yoe : ydM ex1 = (ex3, 0) := by kernel_rfl
theorem yoG : yaL ex1 ⟨#[121]⟩ ex2 = (ex4, 0) := by kernel_rfl
theorem ymy : zJ Tryz.prog ⟨(GL kr), [], []⟩ 19 [.pv (.slice [.str ⟨#[102]⟩, .str ⟨#[121]⟩]), .full [.str ⟨#[102]⟩, .str ⟨#[121]⟩]] (.pv (.bool true)) := Y2 (n := 100000) ycK (by kernel_rfl)
theorem ynv : zJ Tryz.prog ⟨(GL kr), [], []⟩ 20 [.pv (enc ex3), .pv (enc ex3)] (.pv (.bool true)) := Y2 (n := 100000) ycK (by kernel_rfl)
theorem ymS : zJ Tryz.prog ⟨(GL kr), [], []⟩ 20 [.pv (enc ex4), .pv (enc ex4)] (.pv (.bool true)) := Y2 (n := 100000) ycK (by kernel_rfl)
theorem yoh : Pur Tryz.prog (GL kr) 13 [.pv (enc ex1)] (.tuple [.pv (.slice [.str ⟨#[102]⟩, .str ⟨#[121]⟩]), .pv (.int .i64 0)]) := by
  have h := ypn (kr := kr) ex1 (Nat.le_of_ble_eq_true (by kernel_rfl)) (by rw [ylh]; decide) (by rw [ylh]; intro s hs; simp at hs; rcases hs with rfl | rfl <;> decide)
  rw [yqI] at h
  exact h
theorem ymn : Pur Tryz.prog (GL kr) 34 [.pv (enc ex1)] (.tuple [.pv (enc ex3), .pv (.int .i64 0)]) := by
  have h := yom (kr := kr) ex1 (Nat.le_of_ble_eq_true (by kernel_rfl))
  rw [yoe] at h
  exact h
theorem ymk : Pur Tryz.prog (GL kr) 39 [.pv (enc ex1), .pv (.str ⟨#[121]⟩), .pv (enc ex2)] (.tuple [.pv (enc ex4), .pv (.int .i64 0)]) := by
  have h := yqL (kr := kr) ex1 ⟨#[121]⟩ ex2 (Nat.le_of_ble_eq_true (by kernel_rfl)) (Nat.le_of_ble_eq_true (by kernel_rfl)) (Nat.le_of_ble_eq_true (by kernel_rfl)) (Nat.le_of_ble_eq_true (by kernel_rfl))
  rw [yoG] at h
  exact h

end Go.Proofs.YtigideidmcmfbaaGreatDoor

namespace Go.Proofs.YtigideidmcmfbaaGreatDoor
open Go Go.Aw
variable {kr : KR}
set_option maxHeartbeats 1000000 in
theorem yem (σ : Store) (hσ : σ = ⟨(GL kr), [], []⟩) : zJ Tryz.prog σ 16 [] (.pv (.bool true)) := by
 have hgl : σ.gl = (GL kr) := by rw [hσ]
 have hF := yoh (kr := kr)
 have hC := ymn (kr := kr)
 have hS := ymk (kr := kr)
 have hr1 := ypr (kr := kr)
 have hr2 := yqm (kr := kr)
 have hr3 := ypv (kr := kr)
 have hr4 := ypC (kr := kr)
 have ht := ymy (kr := kr)
 have h3 := ynv (kr := kr)
 have h4 := ymS (kr := kr)
 rw [← hσ] at hr1 hr2 hr3 hr4 ht h3 h4
 clear hσ
 generalize ex1 = x1 at *
 generalize ex2 = x2 at *
 generalize ex3 = x3 at *
 generalize ex4 = x4 at *
 refine Y1 ?_
 refine yk tyOk Tryz.func16 rfl (by simp [Tryz.f16]) ?_
 refine sS ?_
 refine sG ?_
 refine aG ydX (hr1) ?_
 refine aT 2 ?_
 refine ye (sG ?_)
 refine aT 1 ?_
 refine aG yr5 ((hF) _ (by exact hgl)) ?_
 refine aT 5 ?_
 refine ye (sG ?_)
 refine aT 1 ?_
 refine aG yrp ((hC) _ (by exact hgl)) ?_
 refine aT 6 ?_
 refine ye (ya (Yq tyOk tySz 8 (by kernel_rfl) (by decide) ?_))
 refine yo 1 (by simp [go_sem] <;> rfl) ?_
 refine yQ (by first | (intro _ _ hh; exact hh) | simp [go_sem]) rfl rfl rfl rfl (by simp [go_sem] <;> rfl) ydX (hr2) (by simp [go_sem] <;> rfl) (by simp [go_sem]) rfl rfl ?_
 refine yQ (by first | (intro _ _ hh; exact hh) | simp [go_sem]) rfl rfl rfl rfl (by simp [go_sem] <;> rfl) yrQ ((hS) _ (by exact hgl)) (by simp [go_sem] <;> rfl) (by simp [go_sem]) rfl rfl ?_
 refine yo 5 (by simp [go_sem] <;> rfl) ?_
 refine yF ?_
 refine aT 1 ?_
 refine ye (ya (Yq tyOk tySz 23 (yl6 (by kernel_rfl)) (by decide) ?_))
 refine yo 3 (by simp [go_sem] <;> rfl) ?_
 refine Zj 27 (by first | rfl | (simp [go_sem] <;> rfl)) (fun h20 => ?_) (fun h20 => ?_)
 ·refine yap 2 27 true true (by simp [go_sem]) rfl (by simp [go_sem]) rfl rfl (by simp [go_sem] <;> rfl) ?_
  refine ydo 27 true true (by simp [go_sem]) rfl (by first | (intro _ _ hh; exact hh) | simp [go_sem]) (by simp [go_sem]) rfl rfl rfl (by simp [go_sem] <;> rfl) ylC (ht) (by simp [go_sem] <;> rfl) (by simp [go_sem]) rfl rfl ?_
  refine yo 2 (by simp [go_sem] <;> rfl) ?_
  refine Zj 32 (by first | rfl | (simp [go_sem] <;> rfl)) (fun h21 => ?_) (fun h21 => ?_)
  ·refine yap 2 32 true true (by simp [go_sem]) rfl (by simp [go_sem]) rfl rfl (by simp [go_sem] <;> rfl) ?_
   refine yo 2 (by simp [go_sem] <;> rfl) ?_
   refine Zj 36 (by first | rfl | (simp [go_sem] <;> rfl)) (fun h22 => ?_) (fun h22 => ?_)
   ·refine yap 1 36 true true (by simp [go_sem]) rfl (by simp [go_sem]) rfl rfl (by simp [go_sem] <;> rfl) ?_
    refine ydo 36 true true (by simp [go_sem]) rfl (by first | (intro _ _ hh; exact hh) | simp [go_sem]) (by simp [go_sem]) rfl rfl rfl (by simp [go_sem] <;> rfl) ydX (hr3) (by simp [go_sem] <;> rfl) (by simp [go_sem]) rfl rfl ?_
    refine ydo 36 true true (by simp [go_sem]) rfl (by first | (intro _ _ hh; exact hh) | simp [go_sem]) (by simp [go_sem]) rfl rfl rfl (by simp [go_sem] <;> rfl) yi1 (h3) (by simp [go_sem] <;> rfl) (by simp [go_sem]) rfl rfl ?_
    refine yo 2 (by simp [go_sem] <;> rfl) ?_
    refine Zj 41 (by first | rfl | (simp [go_sem] <;> rfl)) (fun h23 => ?_) (fun h23 => ?_)
    ·refine yap 2 41 true true (by simp [go_sem]) rfl (by simp [go_sem]) rfl rfl (by simp [go_sem] <;> rfl) ?_
     refine yo 2 (by simp [go_sem] <;> rfl) ?_
     refine Zj 45 (by first | rfl | (simp [go_sem] <;> rfl)) (fun h24 => ?_) (fun h24 => ?_)
     ·refine yap 1 45 true true (by simp [go_sem]) rfl (by simp [go_sem]) rfl rfl (by simp [go_sem] <;> rfl) ?_
      refine ydo 45 true true (by simp [go_sem]) rfl (by first | (intro _ _ hh; exact hh) | simp [go_sem]) (by simp [go_sem]) rfl rfl rfl (by simp [go_sem] <;> rfl) ydX (hr4) (by simp [go_sem] <;> rfl) (by simp [go_sem]) rfl rfl ?_
      refine yF ?_
      refine yY 45 true true (by simp [go_sem]) rfl (by simp [go_sem]) rfl rfl (by simp [go_sem] <;> rfl) yi1 (h4) (by simp [go_sem] <;> rfl) (by simp [go_sem]) rfl rfl ?_
      refine aT 2 ?_
      refine ye (yd (eR ?_))
      exact ⟨by simp [go_sem], by simp [go_sem]⟩
     ·cases h24
    ·cases h23
   ·cases h22
  ·cases h21
 ·cases h20

end Go.Proofs.YtigideidmcmfbaaGreatDoor

namespace Go.Proofs.YtigideidmcmfbaaGreatDoor
open Go Go.Aw
variable {kr : KR}
end Go.Proofs.YtigideidmcmfbaaGreatDoor

namespace Go.Proofs.YtigideidmcmfbaaGreatDoor
open Go Go.Aw
variable {kr : KR}
set_option maxHeartbeats 1000000 in
theorem ypw  : Pur Tryz.prog (GL kr) 130 [] (.pv (.slice (Yu.map .str))) := by
 refine yB fun σ hgl => ?_
 refine yk tyOk Tryz.func130 rfl (by simp [Tryz.f130]) ?_
 refine sS ?_
 refine sS ?_
 refine yd (eR ?_)
 exact ⟨by simp [go_sem, Yu], by simp [go_sem]⟩

set_option maxHeartbeats 1000000 in
theorem ycM (s : ByteArray) : Pur Tryz.prog (GL kr) 86 [.pv (.str s)] (.pv (.int .i64 (reserved s))) := by
 have h7 : Yu.length = 7 := rfl
 refine yB fun σ hgl => ?_
 refine yk tyOk Tryz.func86 rfl (by simp [Tryz.f86]) ?_
 refine sS ?_
 refine sG ?_
 refine aG yp4 ((ypw) _ (by exact hgl)) ?_
 refine aT 1 ?_
 refine ye (ya (sS ?_))
 refine yh (yq σ.objs.length σ.toks.length 0 [0, 2, 3] (fun k : Nat => [(4, .pv (.int .i64 ↑k))]) (fun k => σ) (fun k => k ≤ Yu.length ∧ NotYet (fun w => decide (w = s)) Yu k) (fun k => Yu.length - k) 0 (⟨Nat.zero_le _, .zero⟩) ⟨by simp [go_sem], rfl, by simp, by simp, by simp [go_sem], fun ob h => .inl (by simpa [go_sem] using h), by simp [go_sem]⟩ ?_)
 rintro k ⟨hk, hn⟩
 refine ya (sS ?_)
 refine aC (fun h0 => ?_) (fun h0 => ?_)
 ·have hlt : k < Yu.length := by simp at h0; omega
  have hw : IntKind.i64.wrap (↑k + 1) = (k : Int) + 1 := yv (by omega)
  obtain ⟨x, hx, hxm⟩ := ym hlt
  have hw3 : IntKind.i64.wrap (3 + (k : Int)) = 3 + k := yO (by omega) (by omega)
  refine yg (ya (yh (sA (by simp [go_sem, hx] <;> rfl) ?_)))
  refine yc (by first | rfl | (simp [go_sem, hx, hw3] <;> rfl)) (fun h1 => ?_) (fun h1 => ?_)
  ·refine ya (aR (by simp [go_sem, hw3] <;> rfl) ?_)
   refine yd (yi (yf (yf (yi (yf (eR ?_))))))
   have hs : reserved s = 3 + (k : Int) := by have e : resI s = k := yeI hn hx h1; unfold reserved; rw [e, if_neg (by omega)]
   exact ⟨by simp [go_sem, hs], by simp [go_sem]⟩
  ·refine yg (aS ?_)
   exact yx (k + 1) σ.objs.length σ.toks.length 0 (⟨hlt, hn.succ hx h1⟩) (by omega) ⟨by simp [go_sem], rfl, by simp, by simp, by simp [go_sem, hw], fun ob h => .inl (by simpa [go_sem, hx, hw3, hw] using h), by simp [go_sem]⟩
 ·have hke : k = Yu.length := by simp at h0; omega
  subst hke
  refine yp (yj (yj (yl (sS ?_))))
  refine yd (eR ?_)
  have hs : reserved s = 0 := by have e : resI s = -1 := ygh hn; unfold reserved; rw [e]; rfl
  exact ⟨by simp [go_sem, hs], by simp [go_sem]⟩

set_option maxHeartbeats 1000000 in
theorem yjb (s : ByteArray) : Pur Tryz.prog (GL kr) 40 [.pv (.str s)] (.pv (.bool (ybn s))) := by
 refine yB fun σ hgl => ?_
 refine yk tyOk Tryz.func40 rfl (by simp [Tryz.f40]) ?_
 refine sS ?_
 refine sG ?_
 refine aT 1 ?_
 refine aG yjk ((ZY s) _ (by exact hgl)) ?_
 refine aT 1 ?_
 refine yn 5 (by first | rfl | (simp [go_sem] <;> rfl)) (fun h0 => ?_) (fun h0 => ?_)
 ·refine aLG 1 5 true (by simp [go_sem] <;> rfl) ?_
  refine yY 5 true true (by simp [go_sem]) rfl (by simp [go_sem]) rfl rfl (by simp [go_sem] <;> rfl) yil ((ycM s) _ (by exact hgl)) (by simp [go_sem] <;> rfl) (by simp [go_sem]) rfl rfl ?_
  refine aLG 1 5 true (by simp [go_sem] <;> rfl) ?_
  refine aT 2 ?_
  refine ye (yd (eR ?_))
  exact ⟨by simp only [ybn, h0, bE]; simp [go_sem], by simp [go_sem]⟩
 ·refine aK 3 5 true ?_
  refine aT 2 ?_
  refine ye (yd (eR ?_))
  exact ⟨by simp only [ybn, h0, bG]; simp [go_sem], by simp [go_sem]⟩

set_option maxHeartbeats 1000000 in
theorem ylm (d : D) (hd : d.size ≤ 1000000000) : Pur Tryz.prog (GL kr) 55 [.pv (enc d)] (.pv (.bool (formed d))) := by
 induction d using D.ind with
 | _ kind num text kids ih =>
 generalize hD : D.mk kind num text kids = d at *
 have hk : d.kids = kids := by rw [← hD]; rfl
 clear hD
 subst hk
 have hkl := D.kids_length_lt d
 refine yB fun σ hgl => ?_
 refine yk tyOk Tryz.func55 rfl (by simp [Tryz.f55]) ?_
 refine sS ?_
 refine ya (sS ?_)
 refine yh (sS ?_)
 refine aC (fun h0 => ?_) (fun h0 => ?_)
 ·refine ya (yS ?_)
  refine aT 4 ?_
  refine yn 11 (by first | rfl | (simp [go_sem] <;> rfl)) (fun h1 => ?_) (fun h1 => ?_)
  ·refine aLG 4 11 true (by simp [go_sem] <;> rfl) ?_
   refine aT 2 ?_
   refine ye (yd (yi (yf (eR ?_))))
   exact ⟨by rw [zc]; simp only [h0, h1, bE, if_true, Bool.and_comm]; first | (simp [go_sem]; done) | (simp [go_sem, Bool.and_comm, Bool.and_left_comm]; done), by simp [go_sem]⟩
  ·refine aK 4 11 true ?_
   refine aT 2 ?_
   refine ye (yd (yi (yf (eR ?_))))
   exact ⟨by rw [zc]; simp only [h0, h1, bG, if_true, Bool.and_comm]; first | (simp [go_sem]; done) | (simp [go_sem, Bool.and_comm, Bool.and_left_comm]; done), by simp [go_sem]⟩
 ·refine ya (aS ?_)
  refine aC (fun h2 => ?_) (fun h2 => ?_)
  ·refine ya (yS ?_)
   refine aT 4 ?_
   refine yn 22 (by first | rfl | (simp [go_sem] <;> rfl)) (fun h3 => ?_) (fun h3 => ?_)
   ·refine aLG 2 22 true (by simp [go_sem] <;> rfl) ?_
    refine yY 22 true true (by simp [go_sem]) rfl (by simp [go_sem]) rfl rfl (by simp [go_sem] <;> rfl) yjk ((ZY d.text) _ (by exact hgl)) (by simp [go_sem] <;> rfl) (by simp [go_sem]) rfl rfl ?_
    refine aL 2 (by simp [go_sem, ZV] <;> rfl) ?_
    refine yn 27 (by first | rfl | (simp [go_sem, ZV] <;> rfl)) (fun h4 => ?_) (fun h4 => ?_)
    ·refine aLG 4 27 true (by simp [go_sem] <;> rfl) ?_
     refine aT 2 ?_
     refine ye (yd (yi (yf (eR ?_))))
     exact ⟨by rw [zc]; simp only [h0, h2, h3, h4, bE, Bool.false_eq_true, if_true, if_false, Bool.and_comm]; first | (simp [go_sem]; done) | (simp [go_sem, Bool.and_comm, Bool.and_left_comm]; done), by simp [go_sem]⟩
    ·refine aK 4 27 true ?_
     refine aT 2 ?_
     refine ye (yd (yi (yf (eR ?_))))
     exact ⟨by rw [zc]; simp only [h0, h2, h3, h4, bE, bG, Bool.false_eq_true, if_true, if_false, Bool.and_comm]; first | (simp [go_sem]; done) | (simp [go_sem, Bool.and_comm, Bool.and_left_comm]; done), by simp [go_sem]⟩
   ·refine aK 3 22 true ?_
    refine aT 2 ?_
    refine aK 4 27 true ?_
    refine aT 2 ?_
    refine ye (yd (yi (yf (eR ?_))))
    exact ⟨by rw [zc]; simp only [h0, h2, h3, bG, Bool.false_eq_true, if_true, if_false, Bool.and_comm]; first | (simp [go_sem]; done) | (simp [go_sem, Bool.and_comm, Bool.and_left_comm]; done), by simp [go_sem]⟩
  ·refine ya (aS ?_)
   refine aC (fun h5 => ?_) (fun h5 => ?_)
   ·refine ya (sS ?_)
    refine yh (yq σ.objs.length σ.toks.length 1 [1, 2] (fun k : Nat => [(3, .pv (.int .i64 ↑k))]) (fun k => σ) (fun k => k ≤ d.kids.length ∧ NotYet (fun d => !formed d) d.kids k) (fun k => d.kids.length - k) 0 (⟨Nat.zero_le _, .zero⟩) ⟨by simp [go_sem], rfl, by simp, by simp, by simp [go_sem], fun ob h => .inl (by simpa [go_sem] using h), by simp [go_sem]⟩ ?_)
    rintro k ⟨hk, hn⟩
    refine ya (sS ?_)
    refine aC (fun h6 => ?_) (fun h6 => ?_)
    ·have hlt : k < d.kids.length := by simp at h6; omega
     have hw : IntKind.i64.wrap (↑k + 1) = (k : Int) + 1 := yv (by omega)
     obtain ⟨x, hx, hxm⟩ := ym hlt
     refine yg (ya (yh (sG ?_)))
     refine aL 5 (by simp [go_sem, hx] <;> rfl) ?_
     refine aG ylV ((ih x hxm (by have := D.size_kid_lt hxm; omega)) _ (by exact hgl)) ?_
     refine aT 1 ?_
     refine ye (yc (by first | rfl | (simp [go_sem, hx] <;> rfl)) (fun h7 => ?_) (fun h7 => ?_))
     ·have hany : (d.kids.any fun d => !formed d) = true := ZH (p := fun d => !formed d) hx h7
      refine sS ?_
      refine yd (yi (yf (yf (yi (yf (yi (yf (eR ?_))))))))
      exact ⟨by rw [zc]; simp only [Bool.not_true, h0, h2, h5, hany, bG, Bool.false_eq_true, if_true, if_false, Bool.and_comm]; first | (simp [go_sem]; done) | (simp [go_sem, Bool.and_comm, Bool.and_left_comm]; done), by simp [go_sem]⟩
     ·refine yg (aS ?_)
      exact yx (k + 1) σ.objs.length σ.toks.length 1 (⟨hlt, hn.succ hx h7⟩) (by omega) ⟨by simp [go_sem], rfl, by simp, by simp, by simp [go_sem, hw], fun ob h => .inl (by simpa [go_sem, hx, hw] using h), by simp [go_sem]⟩
    ·have hke : k = d.kids.length := by simp at h6; omega
     subst hke
     have hany := hn.any
     refine yp (yj (yj (yl (sG ?_))))
     refine aT 4 ?_
     refine yn 52 (by first | rfl | (simp [go_sem, hany] <;> rfl)) (fun h8 => ?_) (fun h8 => ?_)
     ·refine aLG 3 52 true (by simp [go_sem] <;> rfl) ?_
      refine aT 2 ?_
      refine ye (yd (yi (yf (eR ?_))))
      exact ⟨by rw [zc]; simp only [hany, h0, h2, h5, h8, bE, bJ, Bool.false_eq_true, if_true, if_false, Bool.and_comm]; first | (simp [go_sem]; done) | (simp [go_sem, Bool.and_comm, Bool.and_left_comm]; done), by simp [go_sem]⟩
     ·refine aK 3 52 true ?_
      refine aT 2 ?_
      refine ye (yd (yi (yf (eR ?_))))
      exact ⟨by rw [zc]; simp only [hany, h0, h2, h5, h8, bF, bG, bJ, Bool.false_eq_true, if_true, if_false, Bool.and_comm]; first | (simp [go_sem]; done) | (simp [go_sem, Bool.and_comm, Bool.and_left_comm]; done), by simp [go_sem]⟩
   ·refine yg (sS ?_)
    refine yd (eR ?_)
    exact ⟨by rw [zc]; simp only [h0, h2, h5, Bool.false_eq_true, if_false, Bool.and_comm]; first | (simp [go_sem]; done) | (simp [go_sem, Bool.and_comm, Bool.and_left_comm]; done), by simp [go_sem]⟩

set_option maxHeartbeats 1000000 in
theorem ym2 (d : D) (hd : d.size ≤ 1000000000) : Pur Tryz.prog (GL kr) 56 [.pv (enc d)] (.pv (.int .i64 d.size)) := by
 induction d using D.ind with
 | _ kind num text kids ih =>
 generalize hD : D.mk kind num text kids = d at *
 have hk : d.kids = kids := by rw [← hD]; rfl
 clear hD
 subst hk
 have hkl := D.kids_length_lt d
 have hds := yji d
 rw [yg4] at hds
 refine yB fun σ hgl => ?_
 refine yk tyOk Tryz.func56 rfl (by simp [Tryz.f56]) ?_
 refine sS ?_
 refine sS ?_
 refine ya (sS ?_)
 refine yh (yq σ.objs.length σ.toks.length 1 [1, 2] (fun k : Nat => [(3, .pv (.int .i64 (1 + ((Zu D.size d.kids k : Nat) : Int)))), (4, .pv (.int .i64 ↑k))]) (fun k => σ) (fun k => k ≤ d.kids.length) (fun k => d.kids.length - k) 0 (Nat.zero_le _) ⟨by simp [go_sem, yc9], rfl, by simp, by simp, by simp [go_sem, yc9], fun ob h => .inl (by simpa [go_sem, yc9] using h), by simp [go_sem]⟩ ?_)
 intro k hk
 refine ya (sS ?_)
 refine aC (fun h0 => ?_) (fun h0 => ?_)
 ·have hlt : k < d.kids.length := by simp at h0; omega
  have hw : IntKind.i64.wrap (↑k + 1) = (k : Int) + 1 := yv (by omega)
  obtain ⟨x, hx, hxm⟩ := ym hlt
  have hsn := yk6 (f := D.size) hx
  have hs2 := yoU (f := D.size) (l := d.kids) (k := k + 1) (fun x _ => Nat.le_refl _)
  have hsk := D.size_kids d
  have hwa : IntKind.i64.wrap (1 + ((Zu D.size d.kids k : Nat) : Int) + (x.size : Int)) = 1 + ((Zu D.size d.kids (k + 1) : Nat) : Int) := by rw [yO (by omega) (by omega)]; omega
  refine yg (ya (yh (yS ?_)))
  refine aL 6 (by simp [go_sem, hx] <;> rfl) ?_
  refine aG ymm ((ih x hxm (by have := D.size_kid_lt hxm; omega)) _ (by exact hgl)) ?_
  refine aL 2 (by simp [go_sem, hwa] <;> rfl) ?_
  refine ye (aS ?_)
  exact yx (k + 1) σ.objs.length σ.toks.length 1 (hlt) (by omega) ⟨by simp [go_sem], rfl, by simp, by simp, by simp [go_sem, hw], fun ob h => .inl (by simpa [go_sem, hx, hwa, hw] using h), by simp [go_sem]⟩
 ·have hke : k = d.kids.length := by simp at h0; omega
  subst hke
  refine yp (yj (yj (yl (sS ?_))))
  refine yd (eR ?_)
  have hds := yji d
  exact ⟨by rw [hds]; simp [go_sem], by simp [go_sem]⟩

set_option maxHeartbeats 1000000 in
theorem ynJ (d : D) (hd : d.size ≤ 1000000000) : Pur Tryz.prog (GL kr) 57 [.pv (enc d)] (.pv (.int .i64 d.deep)) := by
 induction d using D.ind with
 | _ kind num text kids ih =>
 generalize hD : D.mk kind num text kids = d at *
 have hk : d.kids = kids := by rw [← hD]; rfl
 clear hD
 subst hk
 have hkl := D.kids_length_lt d
 have hdd := D.deep_le_size d
 have hdk := ynd d
 refine yB fun σ hgl => ?_
 refine yk tyOk Tryz.func57 rfl (by simp [Tryz.f57]) ?_
 refine sS ?_
 refine sS ?_
 refine ya (sS ?_)
 refine yh (yq σ.objs.length σ.toks.length 1 [1, 2] (fun k : Nat => [(3, .pv (.int .i64 ((D.deeps (d.kids.take k) : Nat) : Int))), (4, .pv (.int .i64 ↑k))]) (fun k => σ) (fun k => k ≤ d.kids.length) (fun k => d.kids.length - k) 0 (Nat.zero_le _) ⟨by simp [go_sem, List.take_zero, D.deeps], rfl, by simp, by simp, by simp [go_sem, List.take_zero, D.deeps], fun ob h => .inl (by simpa [go_sem, List.take_zero, D.deeps] using h), by simp [go_sem]⟩ ?_)
 intro k hk
 refine ya (sS ?_)
 refine aC (fun h0 => ?_) (fun h0 => ?_)
 ·have hlt : k < d.kids.length := by simp at h0; omega
  have hw : IntKind.i64.wrap (↑k + 1) = (k : Int) + 1 := yv (by omega)
  obtain ⟨x, hx, hxm⟩ := ym hlt
  have hdn := ylq hx
  refine yg (ya (yh (yS ?_)))
  refine aL 6 (by simp [go_sem, hx] <;> rfl) ?_
  refine aG ym3 ((ih x hxm (by have := D.size_kid_lt hxm; omega)) _ (by exact hgl)) ?_
  refine aL 2 (by simp [go_sem, hdn] <;> rfl) ?_
  refine ye (aS ?_)
  exact yx (k + 1) σ.objs.length σ.toks.length 1 (hlt) (by omega) ⟨by simp [go_sem], rfl, by simp, by simp, by simp [go_sem, hw], fun ob h => .inl (by simpa [go_sem, hx, hdn, hw] using h), by simp [go_sem]⟩
 ·have hke : k = d.kids.length := by simp at h0; omega
  subst hke
  have hta : d.kids.take d.kids.length = d.kids := List.take_length
  have hwd : IntKind.i64.wrap (((D.deeps d.kids : Nat) : Int) + 1) = ((D.deeps d.kids : Nat) : Int) + 1 := yO (by omega) (by omega)
  refine yp (yj (yj (yl (sA (by simp [go_sem, hta, hwd] <;> rfl) ?_))))
  refine yd (eR ?_)
  exact ⟨by rw [hdk]; simp [go_sem, Int.add_comm], by simp [go_sem]⟩

set_option maxHeartbeats 1000000 in
theorem ymT (d : D) (hd : d.size ≤ 1000000000) : Pur Tryz.prog (GL kr) 22 [.pv (enc d)] (.pv (.int .i64 (dcheck d))) := by
 refine yB fun σ hgl => ?_
 refine yk tyOk Tryz.func22 rfl (by simp [Tryz.f22]) ?_
 refine sS ?_
 refine ya (sG ?_)
 refine aT 1 ?_
 refine aG ylV ((ylm d hd) _ (by exact hgl)) ?_
 refine aT 1 ?_
 refine ye (aC (fun h0 => ?_) (fun h0 => ?_))
 ·refine ya (aS ?_)
  refine yd (yf (eR ?_))
  exact ⟨by simp only [dcheck, h0, if_true]; simp [go_sem], by simp [go_sem]⟩
 ·refine yg (ya (sG ?_))
  refine aT 1 ?_
  refine aG ymm ((ym2 d hd) _ (by exact hgl)) ?_
  refine aT 2 ?_
  refine yn 9 (by first | rfl | (simp [go_sem] <;> rfl)) (fun h1 => ?_) (fun h1 => ?_)
  ·refine aK 3 9 false ?_
   refine aT 1 ?_
   refine ye (yc (b := true) (by simp [go_sem]) (fun h => ?_) (fun h => ?_))
   rotate_left
   ·cases h
   refine sS ?_
   refine yd (yf (eR ?_))
   exact ⟨by simp only [dcheck, h0, h1, Bool.false_eq_true, if_true, if_false]; simp [go_sem], by simp [go_sem]⟩
  ·refine aLG 1 9 false (by simp [go_sem] <;> rfl) ?_
   refine yY 9 false false (by simp [go_sem]) rfl (by simp [go_sem]) rfl rfl (by simp [go_sem] <;> rfl) ym3 ((ynJ d hd) _ (by exact hgl)) (by simp [go_sem] <;> rfl) (by simp [go_sem]) rfl rfl ?_
   refine aLG 1 9 false (by simp [go_sem] <;> rfl) ?_
   refine aT 1 ?_
   refine ye (aC (fun h2 => ?_) (fun h2 => ?_))
   ·refine ya (aS ?_)
    refine yd (yf (eR ?_))
    exact ⟨by simp only [dcheck, h0, h1, h2, Bool.false_eq_true, if_true, if_false]; simp [go_sem], by simp [go_sem]⟩
   ·refine yg (sS ?_)
    refine yd (eR ?_)
    exact ⟨by simp only [dcheck, h0, h1, h2, Bool.false_eq_true, if_false]; simp [go_sem], by simp [go_sem]⟩

set_option maxHeartbeats 1000000 in
theorem ymA (n : Nat) (hn2 : n ≤ 2000) (ih : n ≠ 0 → ∀ (d : D) (oc lf : Nat) (dp : Int) (σ : Store), dp = (n : Int) → σ.gl = (GL kr) → σ.objs[oc]? = some (.box [.pv (.int .i64 lf)]) → 0 < lf → lf ≤ 3000 → ACalls Tryz.prog 66 [.ptr oc 0, .pv (enc d), .pv (.int .i64 dp)] σ (fun r σ' => ∃ y, y = cutD n d lf ∧ r = .pv (enc y.1) ∧ σ' = setC σ oc (y.2 : Int))) (d : D) (oc lf : Nat) (dp : Int) (σ : Store) (hdn : dp = (n : Int) + 1) (hgl : σ.gl = (GL kr)) (hoc : σ.objs[oc]? = some (.box [.pv (.int .i64 lf)])) (hlf0 : 0 < lf) (hlf : lf ≤ 3000) : ACalls Tryz.prog 66 [.ptr oc 0, .pv (enc d), .pv (.int .i64 dp)] σ (fun r σ' => ∃ y, y = cutD (n + 1) d lf ∧ r = .pv (enc y.1) ∧ σ' = setC σ oc (y.2 : Int)) := by
 have hol := (List.getElem?_eq_some_iff.1 hoc).1
 obtain ⟨tx, htx⟩ : ∃ tx : ByteArray, tx = d.text.extract 0 (if (42 : Int) < d.text.size then (42 : Int) else d.text.size).toNat := ⟨_, rfl⟩
 have htx2 : cutX d.text = tx := htx.symm
 have hm1 : (0 : Int) ≤ (if (42 : Int) < d.text.size then (42 : Int) else d.text.size) := by split <;> omega
 have hm2 : (if (42 : Int) < d.text.size then (42 : Int) else d.text.size) ≤ d.text.size := by split <;> omega
 have hw1 : IntKind.i64.wrap ((lf : Int) - 1) = ((lf - 1 : Nat) : Int) := by rw [yO (by omega) (by omega)]; omega
 refine ylT (k := d.kind) (m := d.num) (tx := tx) ?_
 refine yk tyOk Tryz.func66 rfl (by simp [Tryz.f66]) ?_
 refine sS ?_
 refine sA (by simp [go_sem, hoc, hw1] <;> rfl) ?_
 refine ya (yG tyOk tySz 13 (by kernel_rfl) (by decide) ?_)
 refine yo 13 (by simp [go_sem, hm1, hm2] <;> rfl) ?_
 refine yF ?_
 refine aT 1 ?_
 refine ye (ya (sS ?_))
 refine yjP 2 3 24 4 (by simp [go_sem] <;> rfl) ?_
 refine yh (ybH σ.objs.length (σ.toks.length + 1) 3 [0, 2, 4, 6, 7] (fun i : List D × Nat => [(8, .pv (.int .i64 ↑i.1.length))]) (fun i : List D × Nat => [[.pv (.int .i64 d.kind), .pv (.int .i64 d.num), .pv (.str d.text), .pv (.slice (d.kids.map enc))], [.pv (.int .i64 0), .pv (.int .i64 0), .pv (.str ⟨#[]⟩), .pv .nils], [.pv (.int .i64 d.kind), .pv (.int .i64 d.num), .pv (.str tx), .acc (i.1.map enc) σ.toks.length]]) (fun i => { setC σ oc (i.2 : Int) with toks := σ.toks ++ [⟨i.1.length, 24, 4⟩] }) (fun i => cutI n d lf i) (fun i => d.kids.length - i.1.length) ([], lf - 1) (yne hlf0) ⟨by show ({ setC σ oc _ with toks := _ } : Store) = _; simp [setC, go_sem, List.take_of_length_le], by simp [go_sem, htx], by simp, by simp, by simp [go_sem, htx, hol], fun ob h => ybp h _ _ _, by simp [go_sem]⟩ ?_)
 rintro i hI
 obtain ⟨hil, _, hsz⟩ := id hI
 have hgc := ycT (v := (i.2 : Int)) hoc
 have hll := D.length_le_sizes i.1
 refine ya (sG ?_)
 refine aT 6 ?_
 refine yn 33 (by first | rfl | (simp [go_sem, hoc, hm1, hm2, hw1, hgc] <;> rfl)) (fun h0 => ?_) (fun h0 => ?_)
 ·refine aLG 2 33 true (by simp [go_sem] <;> rfl) ?_
  refine aT 2 ?_
  refine yn 37 (by first | rfl | (simp [go_sem, hoc, hm1, hm2, hw1, hgc] <;> rfl)) (fun h1 => ?_) (fun h1 => ?_)
  ·refine aLG 5 37 true (by simp [go_sem, hgc] <;> rfl) ?_
   refine aT 1 ?_
   refine ye (yc (by first | rfl | (simp [go_sem, hoc, hm1, hm2, hw1, hgc] <;> rfl)) (fun h2 => ?_) (fun h2 => ?_))
   ·have hlt : i.1.length < d.kids.length := by simpa using h0
    have hlv : 0 < i.2 := by have := h2; simp at this; omega
    have hd1 : (1 : Int) < dp := by have := h1; simp at this; omega
    obtain ⟨x, hx, hxm⟩ := ym hlt
    have hwd : IntKind.i64.wrap (dp - 1) = dp - 1 := yO (by omega) (by omega)
    have hbb : (i.1.length + 1) * 56 ≤ 140737488355328 := by omega
    have hw : IntKind.i64.wrap ((i.1.length : Int) + 1) = (i.1.length : Int) + 1 := yv (by omega)
    refine yg (ya (yh (Yq tyOk tySz 12 (by kernel_rfl) (by decide) ?_)))
    refine yo 10 (by simp [go_sem, hx, hwd] <;> rfl) ?_
    refine Yv (by simp [go_sem]) rfl rfl rfl rfl (by simp [go_sem] <;> rfl) ylY (ih (by omega) x oc i.2 (dp - 1) _ (by omega) (by exact hgl) (ycT hoc) hlv (by omega)) (by simp [go_sem] <;> rfl) (by simp [go_sem]) rfl rfl ⟨_, _, _, rfl, rfl, rfl⟩ ?_
    rintro r σ' ⟨y, hy, rfl, rfl⟩
    refine yo 1 (by simp [go_sem, ylP] <;> rfl) ?_
    refine yF ?_
    refine aL 3 (by simp [go_sem, hbb] <;> rfl) ?_
    refine ye (aS ?_)
    exact yx ((i.1 ++ [y.1], y.2)) σ.objs.length (σ.toks.length + 1) 3 ((by have := yms hI (by omega) hlv hx (ydC _ _ _ hlv); rw [← hy] at this; exact this)) (by simp; omega) ⟨by show ({ setC σ oc _ with toks := _ } : Store) = _; simp [setC, go_sem, List.take_of_length_le], by simp [go_sem], by simp, by simp, by simp [go_sem, hw, hol], fun ob h => ybp h _ _ _, by simp [go_sem]⟩
   ·refine yp (yj (yj (yl (sS ?_))))
    refine yd (eR ?_)
    have he : i.1.length = d.kids.length ∨ n = 0 ∨ i.2 = 0 := by first | (left; have hh := h0; simp at hh; omega) | (right; left; have hh := h1; simp at hh; omega) | (right; right; have hh := h2; simp at hh; omega)
    exact ⟨i.1, i.2, by simp [go_sem, yiJ], by simp [setC, go_sem, List.take_of_length_le], by rw [yfa hI he, htx2]⟩
  ·refine aK 5 37 true ?_
   refine aT 1 ?_
   refine ye (yc (b := false) (by simp [go_sem]) (fun h => ?_) (fun h => ?_))
   ·cases h
   refine yp (yj (yj (yl (sS ?_))))
   refine yd (eR ?_)
   have he : i.1.length = d.kids.length ∨ n = 0 ∨ i.2 = 0 := by first | (left; have hh := h0; simp at hh; omega) | (right; left; have hh := h1; simp at hh; omega) | (right; right; have hh := h2; simp at hh; omega)
   exact ⟨i.1, i.2, by simp [go_sem, yiJ], by simp [setC, go_sem, List.take_of_length_le], by rw [yfa hI he, htx2]⟩
 ·refine aK 2 33 true ?_
  refine aT 2 ?_
  refine aK 5 37 true ?_
  refine aT 1 ?_
  refine ye (yc (b := false) (by simp [go_sem]) (fun h => ?_) (fun h => ?_))
  ·cases h
  refine yp (yj (yj (yl (sS ?_))))
  refine yd (eR ?_)
  have he : i.1.length = d.kids.length ∨ n = 0 ∨ i.2 = 0 := by first | (left; have hh := h0; simp at hh; omega) | (right; left; have hh := h1; simp at hh; omega) | (right; right; have hh := h2; simp at hh; omega)
  exact ⟨i.1, i.2, by simp [go_sem, yiJ], by simp [setC, go_sem, List.take_of_length_le], by rw [yfa hI he, htx2]⟩

theorem ypg : ∀ (n : Nat), n ≤ 2000 → ∀ (d : D) (oc lf : Nat) (dp : Int) (σ : Store), dp = (n : Int) + 1 → σ.gl = (GL kr) → σ.objs[oc]? = some (.box [.pv (.int .i64 lf)]) → 0 < lf → lf ≤ 3000 → ACalls Tryz.prog 66 [.ptr oc 0, .pv (enc d), .pv (.int .i64 dp)] σ (fun r σ' => ∃ y, y = cutD (n + 1) d lf ∧ r = .pv (enc y.1) ∧ σ' = setC σ oc (y.2 : Int))
  | 0, hn, d, oc, lf, dp, σ, h1, h2, h3, h4, h5 => ymA 0 hn (fun h => absurd rfl h) d oc lf dp σ h1 h2 h3 h4 h5
  | n + 1, hn, d, oc, lf, dp, σ, h1, h2, h3, h4, h5 => ymA (n + 1) hn (fun _ d oc lf dp σ k1 k2 k3 k4 k5 => ypg n (by omega) d oc lf dp σ (by omega) k2 k3 k4 k5) d oc lf dp σ h1 h2 h3 h4 h5

set_option maxHeartbeats 1000000 in
theorem yqU (d : D) (lf n : Nat) (h1 : 0 < lf) (h2 : lf ≤ 3000) (h3 : n ≤ 2000) (dp : Int) (hdp : dp = (n : Int) + 1) : Pur Tryz.prog (GL kr) 28 [.pv (enc d), .pv (.int .i64 (lf : Int)), .pv (.int .i64 dp)] (.pv (enc (cutD (n + 1) d lf).1)) := by
 refine yB fun σ hgl => ?_
 refine yk tyOk Tryz.func28 rfl (by simp [Tryz.f28]) ?_
 refine sS ?_
 refine ya (yD (sh := [10]) tyOk (by simp [go_sem] <;> rfl) ?_)
 refine sG ?_
 refine aT 3 ?_
 refine yy rfl rfl rfl (by simp [go_sem] <;> rfl) ylY (ypg n h3 d σ.objs.length lf dp _ hdp (by exact hgl) (by simp [go_sem]) h1 h2) (by simp [go_sem] <;> rfl) (by simp [go_sem]) rfl rfl ?_
 rintro r σ' ⟨y, hy, rfl, rfl⟩
 refine aT 1 ?_
 refine ye (yd (eR ?_))
 exact ⟨by rw [← hy]; simp [go_sem], by simp [setC, go_sem]⟩

def cutL (d : D) : D := (cutD (1019 + 1) d 400).1
theorem ylR (d : D) : (cutL d).size ≤ 400 := by
  have := ydC (1019 + 1) d 400 (by decide)
  unfold cutL; omega
theorem yq1 (d : D) : Pur Tryz.prog (GL kr) 28 [.pv (enc d), .pv (.int .i64 400), .pv (.int .i64 1020)] (.pv (enc (cutL d))) := yqU d 400 1019 (by decide) (by decide) (by decide) 1020 (by decide)
set_option maxHeartbeats 1000000 in
theorem yrd (d x : D) (hx : x = cutL d) : Pur Tryz.prog (GL kr) 12 [.pv (enc d)] (.pv (enc x)) := by
 have hC : Pur Tryz.prog (GL kr) 28 [.pv (enc d), .pv (.int .i64 400), .pv (.int .i64 1020)] (.pv (enc x)) := by rw [hx]; exact yq1 d
 refine yB fun σ hgl => ?_
 refine yk tyOk Tryz.func12 rfl (by simp [Tryz.f12]) ?_
 refine sS ?_
 refine sG ?_
 refine aT 1 ?_
 refine aG yrc ((hC) _ (by exact hgl)) ?_
 refine aT 1 ?_
 refine ye (yd (eR ?_))
 exact ⟨by simp [go_sem], by simp [go_sem]⟩

end Go.Proofs.YtigideidmcmfbaaGreatDoor
